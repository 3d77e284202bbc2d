import PyProof.Rows.All
import Wide.All
import OpenK.AllK
import Wide.FinOn
import HandS.ForExc
import HandS.ExcInit
import HandS.ExcCtx
import HandS.HotCalls
import HandS.ExcInitHot
import HandS.ExcField
import HandS.ExcIs
import KE.KExcIs
import HandS.ForMost
import HandS.Evl
import HandS.IsInst
import HandS.Wide
import HandS.SortInts
import HandS.Style
import HandS.More
import HandS.Conv
import KE.DataMinMax
import KE.KDictList
import KE.KEqSeq
import KE.DataFind
import HandS.Iter
import HandS.Deep
import HandS.SetFor
import HandS.SortKw
import HandS.WideBits
import HandS.Strs
import HandS.Comp
import PySem.Challenge.RW_nextpair_k78_whole_stairs_peaks_and_play
set_option Elab.async false
set_option linter.all false
set_option maxRecDepth 100000
set_option maxHeartbeats 4000000
/-! DL, the part of errors: an error class whose __init__ calls its own base's, which is ValueError's; raising; what an error's way out is by data. -/
namespace DL
open PySem L2 PySem.Spec PyProof.Rows
open Evl (Ex)
section
variable {F : Hp}
/-- the heap without what stands at a -/
def del (F : Hp) (a : Addr) : Hp := fun b => if b = a then none else F b
theorem del_same {a : Addr} : del F a a = none := if_pos rfl
theorem del_ne {a b : Addr} (h : b ≠ a) : del F a b = F b := if_neg h
theorem del_some {a b : Addr} {o : HO} (h : del F a b = some o) : b ≠ a ∧ F b = some o := by
  by_cases e : b = a
  · rw [e, del_same] at h; cases h
  · rw [del_ne e] at h; exact ⟨e, h⟩
end
/-- what the top has written of an error class without __init__ of its own, over ValueError -/
structure BaseE (K : PySem.W.Frag) (D : Addr) : Prop where
  ga : PySem.W.specialIn K (.ref D) "__getattribute__" = some (some (.builtin "type.__getattribute__"))
  ty : PySem.W.typeIn K (.ref D) = some (.type "type")
  rd : PySem.W.readsIn K D (.type "type") = true
  ini : PySem.W.findCls K (.ref D) (.type "type") "__init__" = some (.val (.builtin "ValueError.__init__"))
section
variable {X : Cx} {D : Addr} {x : Str} {e : Expr} {es : List Expr} {ta : TA} {p1 p2 pos : Pos}
/-- D.__init__(self, ..), D the name of such a class -/
theorem pe_baseInit {pl : Sem Bool} (hgl : Gl X x) (hmg : X.mg x = some (.ref D)) (bE : BaseE X.K D) (hargs : PA X (e :: es) ta)
    (heval : eval (.Call (.Attribute (.Name x p1) "__init__" p2) (e :: es) [] pos) X.env = (do
      let w0 ← eval (.Name x p1) X.env
      standAt p2.atName
      let (f0, fst0) ← holding [w0] (getMethod w0 "__init__" pl)
      callWith pos f0 fst0 (backTo pos (starEach (e :: es) X.env)) (backToKw pos (keywordEach [] X.env))) := by rfl)
    (hstar : starEach (e :: es) X.env = (false, eval e X.env) :: starEach es X.env := by rfl) (hplain : (backTo pos (starEach es X.env)).any (·.1) = false := by rfl) (hdbg : (x == ("__debug__" : Str)) = false := by decide) :
    PE X (.Call (.Attribute (.Name x p1) "__init__" p2) (e :: es) [] pos) (tVeI X.K ta) := by
  constructor
  intro pins s σ H Q Iv hw
  refine PySem.W.methodCall_KW (ld_glob Iv hgl hmg ?_ hdbg) heval
  obtain ⟨mm, fr⟩ := Iv.fr
  refine PySem.W.method_of_cls fr Iv.ok.mod.kin bE.ga (PySem.W.cls_val fr Iv.ok.mod.kin bE.ty bE.rd bE.ini (by decide +kernel) ?_)
  show wpAny _ _ (callWith pos (Value.builtin "ValueError.__init__") [] (backTo pos (starEach (e :: es) X.env)) []) _ _ _
  refine PyProof.Rows.callWith_method1 (thn (hargs.run pos pins _ σ H _ (Iv.tok _) hw) ?_) hstar hplain
  rintro us s1 ⟨vs, H1, I1, rvs, a, C, ws, rfl, hlen, T, hea, hq⟩
  cases rvs with
  | @cons _ u0 _ ur r0 rr =>
    obtain rfl : u0 = Value.ref a := r0
    have hl2 : ur.length ≤ sizeLine := by
      rw [← Paired.length rr, sizeLine_eq]
      omega
    exact oinit_ok T I1 hea hl2 fun s' J => ⟨.non, H1, J, rfl, hq⟩
end
/-! ### try with several clauses, each with a name -/
/-- what the clauses wish of an error, one behind the other: class, slot of its name, suite -/
def wAll (K : PySem.W.Frag) (Wo : WX) (De : Ends) : List (Value × Nat × (Addr → Value → Option Addr → TS)) → WX
  | [] => Wo
  | cl :: rest => wAs K cl.1 cl.2.1 cl.2.2 (wAll K Wo De rest) De
inductive Clauses (X : Cx) : List ExceptHandler → List (Value × Nat × (Addr → Value → Option Addr → TS)) → Prop
  | nil : Clauses X [] []
  | cons {x nm : Str} {cv : Value} {ix : Nat} {ts : Addr → Value → Option Addr → TS} {st0 : Stmt} {sts : List Stmt} {np ps : Pos} {hds : List ExceptHandler} {cls : List (Value × Nat × (Addr → Value → Option Addr → TS))}
      (hnm : Names X x cv) (hix : X.N[ix]? = some nm) (hlo : X.env.kindOf nm = some .local)
      (hts : ∀ (a : Addr) (ob : Obj) (cw : Value) (dd : Option Addr) (pn : List (Addr × Obj)), L2N.Zn cw dd ob → (∃ fv, ob.data = .fields fv) → X.base.get? a = none → a ∉ frs X.stack → PSs (X.suite a ((a, ob) :: pn)) (st0 :: sts) (ts a cw dd))
      (rest : Clauses X hds cls) : Clauses X (.ExceptHandler (some (.Name x np)) (some nm) (st0 :: sts) ps :: hds) ((cv, ix, ts) :: cls)
section
variable {X : Cx} {body : List Stmt} {hd0 : ExceptHandler} {hds : List ExceptHandler} {cls : List (Value × Nat × (Addr → Value → Option Addr → TS))} {ps : Pos} {tb : WX → TS} {Wo : WX}
theorem ps_tryAll (hst : X.stack = X.env :: X.outer) (hfm : X.env.frame = some X.env.locals) (hND : X.N.Nodup) (tk : L2N.Takes X Wo)
    (hbody : ∀ (W : WX) (pn : List (Addr × Obj)) (xe : Value → Shared → Prop), L2N.Takes (X.tr pn xe) W → PassesOwn (model X.prog X.w) X.A X.env xe → PSs (X.tr pn xe) body (tb W))
    (hcl : Clauses X (hd0 :: hds) cls) : PS X (.Try body (hd0 :: hds) [] [] ps) (fun De σ H => tb (wAll X.K Wo De cls) De σ H) := by
  constructor
  intro pins s σ H De Iv hw
  have okx := Iv.ok
  have hframes : X.A.frames = some (X.env :: X.outer) := by rw [okx.frames, hst]
  refine wpAny_Try_except ?_
  have bodyRun := (hbody (wAll X.K Wo De cls) (X.pn ++ pins) (fun er u1 => wpAny (model X.prog X.w) X.A (noteFrame er X.env) (fun _ u2 => wpAny (model X.prog X.w) X.A (setFlight er none) (fun _ u3 =>
    wpAny (model X.prog X.w) X.A (handleBy er X.env (hd0 :: hds)) (SP X pins De) X.xe u3) X.xe u2) X.xe u1) (fun v s' caught => ?_) PassesOwn.looking).run [] s σ H De (Iv.toTry _) hw
  · refine wpAny_mono bodyRun (fun fl s1 hsp => ?_) (fun _ _ z => z)
    cases fl with
    | next =>
      obtain ⟨τ, Hc, Jc, qc⟩ := hsp
      exact wpAny_execs_nil ⟨τ, Hc, Jc.ofTry okx, qc⟩
    | brk =>
      obtain ⟨τ, Hc, Jc, qc⟩ := hsp
      exact ⟨τ, Hc, Jc.ofTry okx, qc⟩
    | cont =>
      obtain ⟨τ, Hc, Jc, qc⟩ := hsp
      exact ⟨τ, Hc, Jc.ofTry okx, qc⟩
    | ret rv =>
      obtain ⟨yv, τ, Hc, Jc, rc, qc⟩ := hsp
      exact ⟨yv, τ, Hc, Jc.ofTry okx, rc, qc⟩
  · obtain ⟨ea, Bs, sIn, pins2, τ, Hc, ecls, edd, rfl, J0, noB, upB, skyB, freeA, sameOs, bareG, wish⟩ := caught
    have Jc : Inv X pins τ Hc sIn := J0.ofTry okx
    have skyC : Sky Bs (X.env :: X.outer) ea (L2N.Zn ecls edd) X.env.locals s'.heap := by rw [← hst]; exact skyB
    show wpAny _ X.A (noteFrame (.ref ea) X.env) _ _ _
    refine L2N.Sky.land L2N.Zn.steady hframes hfm skyC fun g3 fly3 upg3 => ?_
    have K3 : Inv X pins τ Hc { s' with heap := g3 } := Jc.landed noB fly3.1 (upB.trans upg3) sameOs bareG
    obtain ⟨ob3, fv3, at3, zc3, dat3⟩ := fly3.there
    have offFr : ea ∉ frs (X.env :: X.outer) := fun hmem => by
      obtain ⟨_, ob, eo, notF⟩ := fly3.2.2.1.mem hmem
      rw [at3] at eo
      cases eo
      exact notF _ dat3
    have offL : ea ≠ X.env.locals := fun z => offFr (List.mem_filterMap.mpr ⟨X.env, List.mem_cons_self, by rw [hfm, z]⟩)
    have offS : ea ∉ X.fs := fun hmem => by
      obtain ⟨en, hen, qq⟩ := List.mem_filterMap.mp hmem
      exact offFr (List.mem_filterMap.mpr ⟨en, List.mem_cons_of_mem _ hen, qq⟩)
    have offB : X.base.get? ea = none := by
      cases eb : X.base.get? ea with
      | none => rfl
      | some ob =>
        have inI := (Jc.bs ea ob eb).1
        have inB := noB ea ob inI (by rw [hst]; exact offFr)
        rw [fly3.2.1] at inB
        cases inB
    have Su3 := K3.suite at3 dat3 freeA offL offS
    suffices all : ∀ {hs2 : List ExceptHandler} {cs2 : List (Value × Nat × (Addr → Value → Option Addr → TS))}, Clauses X hs2 cs2 → wAll X.K Wo De cs2 ecls edd τ Hc →
        wpAny (model X.prog X.w) X.A (handleBy (.ref ea) X.env hs2) (SP X pins De) X.xe { s' with heap := g3 } from all hcl wish
    intro hs2 cs2 hc2
    induction hc2 with
    | nil =>
      intro wout
      refine wpAny_handleBy_nil ?_
      obtain ⟨f1, f2, f3, ob, fv, Tb, oTb, tfs, e1, e2, e3, e4, e5⟩ := id fly3
      unfold PySem.passOn
      refine wpAny_bind (wpAny_field e1 e3 e4 ?_)
      rw [if_neg (by simp : ¬ ((Value.ref Tb == Value.none) = true))]
      have finish : wpAny (model X.prog X.w) X.A (setFlight (.ref ea) X.env.frame) (fun _ u4 => wpAny (model X.prog X.w) X.A (throw (.ref ea) : Sem Flow) (SP X pins De) X.xe u4) X.xe { s' with heap := g3 } := by
        rw [hfm]
        exact HandSPX.setFlight_upZ fly3 fun g4 low4 upg4 => wpAny_throw (tk _ _ ⟨ea, Bs, sIn, pins, τ, Hc, ecls, edd, rfl, Jc, noB, (upB.trans upg3).trans upg4, .inr (.inr (by rw [hst]; exact low4)), freeA, sameOs, bareG, wout⟩)
      first
        | exact wpAny_bind (wpAny_pure (wpAny_bind finish))
        | exact wpAny_bind finish
    | @cons x nm cv ix ts st0 sts np psn hds2 cls2 hnm hix hlo hts rest ih =>
      intro wcl
      obtain ⟨bb, hexm, whit, wmiss⟩ := wcl
      refine wpAny_handleBy_cons (codeAny_handlers_test ?_) (by intro z; cases z)
      have lookT : PySem.W.Looks (model X.prog X.w) g3 (typeOf (.ref ea)) ecls := fun A2 Q2 E2 u2 k2 q2 => wpAny_typeOf_ref (k2 _ _ at3) (by rw [zc3.1]; exact q2)
      have lookM := PySem.W.exm_one (M := model X.prog X.w) (K3.kIn) lookT hexm
      have testing : ∀ {Q2 E2 : Value → Shared → Prop}, Q2 cv { s' with heap := g3 } → wpAny (model X.prog X.w) (X.A.mark (some (.ref ea))) (eval (.Name x np) X.env) Q2 E2 { s' with heap := g3 } := fun {Q2 E2} q2 => by
        obtain ⟨hgl, hdb, hin | ⟨hin, hbo, hnn⟩⟩ := hnm
        · exact ld_glob (X := X.suite ea ((ea, ob3) :: (X.pn ++ pins))) Su3 hgl hin q2 hdb
        · exact ld_blt (X := X.suite ea ((ea, ob3) :: (X.pn ++ pins))) Su3 hgl hin hbo q2 hnn hdb
      refine testing (lookM.here ?_)
      cases bb with
      | false => exact ih (wmiss rfl)
      | true =>
        refine codeAny_handlers_suite_as ?_
        refine HandSPX.lands_againZ fly3 fun g4 fly4 upg4 => ?_
        have K4 : Inv X pins τ Hc { s' with heap := g4 } := Jc.landed noB fly4.1 ((upB.trans upg3).trans upg4) sameOs bareG
        obtain ⟨ob4, fv4, at4, zc4, dat4⟩ := fly4.there
        have Su4 := K4.suite at4 dat4 freeA offL offS
        refine store_ok (X := X.suite ea ((ea, ob4) :: (X.pn ++ pins))) (v := .ref ea) Su4 hND hix (.inl hlo) rfl (fun u5 Su5 => ?_) (.inr hlo)
        refine wpAny_mono ((hts ea ob4 ecls edd (X.pn ++ pins) zc4 ⟨_, dat4⟩ offB (by rw [hst]; exact offFr)).run [] u5 _ Hc _ Su5 (whit rfl ea freeA)) (fun fl u6 hsp => ?_) (fun _ _ z => z.elim)
        have leaveIt : ∀ {σ6 : L2.St} {H6 : Hp} {R6 : Shared → Prop}, Inv (X.suite ea ((ea, ob4) :: (X.pn ++ pins))) [] σ6 H6 u6 → (∀ u7, Inv X pins (σ6.set ix none) H6 u7 → R6 u7) →
            wpAny (model X.prog X.w) X.A (do bindName X.env nm .none; unbindBehindTheSuite X.env nm psn) (fun _ u7 => R6 u7) X.xe u6 := fun {σ6 H6 R6} Su6 h6 => gone_ok (Su6.unsuite okx) hND hix hlo h6
        cases fl with
        | next =>
          obtain ⟨_, _, Su6, q6⟩ := hsp
          exact leaveIt Su6 fun u7 J7 => ⟨_, _, J7, q6⟩
        | brk =>
          obtain ⟨_, _, Su6, q6⟩ := hsp
          exact leaveIt Su6 fun u7 J7 => ⟨_, _, J7, q6⟩
        | cont =>
          obtain ⟨_, _, Su6, q6⟩ := hsp
          exact leaveIt Su6 fun u7 J7 => ⟨_, _, J7, q6⟩
        | ret uv =>
          obtain ⟨_, _, _, Su6, r6, q6⟩ := hsp
          exact leaveIt Su6 fun u7 J7 => ⟨_, _, _, J7, r6, q6⟩
end
/-! ### a caught error handed to a def: the def runs while the error is handled, its promise may speak of the error's object -/
structure FnE (P : Program) (w : World) (K : PySem.W.Frag) (mg : Str → Option Value) (base : Heap) (CX : CXT) (k : Nat) (f : Addr) (fd : FuncData) (prs : List Str) (sp : Addr × Obj → Sp) : Prop where
  len : ∀ p vs H Q E, sp p vs H Q E → vs.length = prs.length
  run : ∀ (A : Around) (outer : List Env) (s : Shared) (H : Hp) (args : Args) (us : List Value) (vs : List V) (Q : VK) (E : XK) (p : Addr × Obj), L2H.RoomH k A → L2H.Hot1 A p → L2H.PinOk outer H s p → Env0 P w K mg base A outer s H → BindsTo s fd args (prs.zip us) → Vals vs us → sp p vs H Q E →
    codeAny (model P w) A (.call (.ref f) args) (CR CX outer P w H s Q E) s
theorem Fun.okE {CX : CXT} {P : Program} {w : World} {K : PySem.W.Frag} {mg : Str → Option Value} {base : Heap} {x qual : Str} {st : Stmt} {f : Addr} {fd : FuncData} {N prs : List Str} {k : Nat} {sp : Addr × Obj → Sp} (Fu : L2.Fun K x qual st f fd) (Sc : FnScope N prs (defScope st))
    (len : ∀ p vs H Q E, sp p vs H Q E → vs.length = prs.length)
    (hbody : ∀ (cdv : Value) (A : Around) (outer : List Env) (s : Shared) (H : Hp) (vs : List V) (Q : VK) (E : XK) (p : Addr × Obj), L2H.Hot1 A p → L2H.RoomH k (A.deeper (envOfC qual (defScope st) s.heap.objs.size f cdv)) → sp p vs H Q E →
      ∃ t, PSs (L2H.cxH CX P w K mg base N qual (defScope st) f cdv A outer s H E p) (defBody st) t ∧ t { nx := fun _ H' => Q .non H', rt := Q } (L2.start N vs) H) :
    FnE P w K mg base CX (k + 1) f fd prs sp := by
  obtain ⟨oc, od, kV, doc, pm, an, cdv, ct, osl, rfl, lk, hcd⟩ := Fu.ex
  refine ⟨len, fun A outer s H args us vs Q E p hroom hot hpin ev hbind rvs hsp => ?_⟩
  have hlen := len _ _ _ _ _ hsp
  have KX : K.In s.heap := ev.mod.kin.keeps fun b o e => (ev.bs b o e).1
  have noLim : s.heap.NoLimit := ev.mod.nolimit.keeps fun b o e => (ev.bs b o e).1
  have kinds : ∀ y ∈ prs.zip us, (defScope st).names.lookup y.1 = some .local ∨ ((defScope st).names.lookup y.1 = some .cell ∧ ((cellsFrom (s.heap.objs.size + 1) (defScope st).names []).lookup y.1).isSome = true) := by
    rintro ⟨n1, v1⟩ hy
    rcases Sc.par n1 (List.of_mem_zip hy).1 with z | z
    · exact .inl z
    · exact .inr ⟨z, PySem.W.cellsFrom_some _ _ _ (.inl z)⟩
  refine codeAny_call_function hroom.depth (KX _ _ lk) rfl Sc.co Sc.gen rfl (PySem.W.codeRec_of KX hcd) (hbind _ _ _ _ ?_)
  refine wpAny_newFunctionEnv_cells Sc.kind kinds fun env henv s1 xc => ?_
  subst henv
  refine ⟨noLim.keeps xc.toInCall.keep, codeAny_func ?_⟩
  obtain ⟨t, ht, hq⟩ := hbody cdv A outer s H vs Q E p hot (hroom.deeper _) hsp
  have Iv : Inv (L2H.cxH CX P w K mg base N qual (defScope st) f cdv A outer s H E p) [] (L2.start N vs) H s1 := L2H.inv_startH Sc hpin ev hlen rvs xc
  refine wpAny_mono (ht.run [] s1 (L2.start N vs) H _ Iv hq) (fun fl s' hs => ?_) fun er s' hs => hs
  cases fl with
  | ret u =>
    obtain ⟨v, τ, Hz, J, rv, q⟩ := hs
    exact ⟨v, Hz, J.os, J.bare, J.base, J.hok, rv, q⟩
  | next =>
    obtain ⟨τ, Hz, J, q⟩ := hs
    exact ⟨V.non, Hz, J.os, J.bare, J.base, J.hok, rfl, q⟩
  | brk => exact hs.choose_spec.choose_spec.2.elim
  | cont => exact hs.choose_spec.choose_spec.2.elim
/-- f(error): whatever object the error is -/
def tCallErrZ (i : Nat) (a : Addr) (cw : Value) (od : Option Addr) (sp : Addr × Obj → Sp) : TE := fun σ H Q => σ[i]? = some (some (.ref a)) ∧ ∀ ob : Obj, L2N.Zn cw od ob → (∃ fv, ob.data = .fields fv) → sp (a, ob) [.ref a] H Q E0
section
variable {X : Cx} {k i : Nat} {f a : Addr} {ob : Obj} {fd : FuncData} {prs : List Str} {sp : Addr × Obj → Sp} {fx nm : Str} {p q pos : Pos} {cw : Value} {od : Option Addr} {pn : List (Addr × Obj)}
theorem pe_callErrZ (hz : L2N.Zn cw od ob) (hfv : ∃ fv, ob.data = .fields fv) (Fo : FnE X.prog X.w X.K X.mg X.base CX0 k f fd prs sp) (hroom : Room k X.A) (hgl : Gl X fx) (hmg : X.mg fx = some (.ref f)) (hkeep : PySem.W.keepIn X.K (.ref f) = true) (hbinds : Binds X.K fd prs [])
    (hslot : X.N[i]? = some nm) (hvis : Vis X.env.scope nm) (hd1 : (fx == ("__debug__" : Str)) = false := by decide) (hd2 : (nm == ("__debug__" : Str)) = false := by decide) (hd3 : (nm == ("__classdict__" : Str)) = false := by decide) :
    PE (X.suite a ((a, ob) :: pn)) (.Call (.Name fx p) [.Name nm q] [] pos) (tCallErrZ i a cw od sp) := by
  constructor
  intro pins s σ H Q Iv hw
  obtain ⟨hs, hsp⟩ := hw
  have argsOk : PA (X.suite a ((a, ob) :: pn)) [.Name nm q] (tCons (tVar i) tNil) := pa_cons (pe_var (i := i) hslot hvis hd2 hd3) pa_nil
  refine wpAny_Call_Name_kw (ld_glob Iv hgl hmg ?_ hd1)
  refine PySem.W.callWith_K (h₀ := X.base) Iv.ok.mod.kin hkeep (thn (argsOk.run pos pins s σ H (fun vs H1 => vs = [.ref a] ∧ H1 = H) Iv ⟨_, hs, rfl, rfl⟩) ?_) rfl rfl
  rintro us s1 ⟨vs, H1, I1, rvs, rfl, rfl⟩
  refine ⟨I1.kIn, ?_⟩
  have hp := I1.pin (a, ob) (List.mem_append_left _ List.mem_cons_self)
  have hpin : L2H.PinOk X.stack H1 s1 (a, ob) := ⟨hp.1, hp.2.1, fun hm => (List.mem_cons.mp (I1.stkSub a hm)).elim hp.2.2.1 hp.2.2.2.1, hp.2.2.2.2⟩
  obtain ⟨fv, hv⟩ := hfv
  have hot : L2H.Hot1 (X.suite a ((a, ob) :: pn)).A (a, ob) := ⟨rfl, fv, hv, hz.2.2 fv hv⟩
  have hsp1 := hsp ob hz ⟨fv, hv⟩
  have hl : us.length = prs.length := by
    rw [← Paired.length rvs]
    exact Fo.len _ _ _ _ _ hsp1
  have bnd : BindsTo s1 fd ⟨us, []⟩ (prs.zip us) := by
    have z := hbinds s1 us I1.kIn (by rw [List.append_nil]; exact hl)
    rwa [List.append_nil] at z
  refine wpAny_call (codeAny_mono (Fo.run _ X.stack s1 H1 ⟨us, []⟩ us [.ref a] Q E0 (a, ob) (L2H.roomH_mark hroom _) hot hpin I1.env0 bnd rvs hsp1) fun r s2 hr => ?_)
  cases r with
  | error er => exact hr.elim
  | ok fl =>
    cases fl with
    | next => exact hr.elim
    | brk => exact hr.elim
    | cont => exact hr.elim
    | ret u => exact I1.after hr
end
/-! ### an error with its dict, as a def sees it that got it, or an except suite -/
/-- at a: an error of the class at C whose dict at dd tells fs -/
structure ErrAt (K : PySem.W.Frag) (H : Hp) (a C : Addr) (ob : Obj) (fs : List (Str × V)) : Prop where
  cl : Zc (.ref C) ob.dict ob
  fv : ∃ vs, ob.data = .fields vs
  is : ExcC K C
  dc : ∃ dd, ob.dict = some dd ∧ H dd = some (.xd fs)
theorem ErrAt.mono {K : PySem.W.Frag} {F F2 : Hp} {a C : Addr} {ob : Obj} {fs : List (Str × V)} (h : ErrAt K F a C ob fs) (e : Ex F F2) : ErrAt K F2 a C ob fs := ⟨h.cl, h.fv, h.is, by
  obtain ⟨dd, h1, h2⟩ := h.dc
  exact ⟨dd, h1, e _ _ h2⟩⟩
section
variable {X : Cx} {H : Hp} {σ : L2.St} {s : Shared} {a C : Addr} {ob : Obj} {fs : List (Str × V)}
theorem ErrAt.inst {pins : List (Addr × Obj)} (h : ErrAt X.K H a C ob fs) (Iv : Inv X pins σ H s) (hat : s.heap.get? a = some ob) : ∃ (od : Obj) (mA : Str → Option Value), PySem.W.InstAt s.heap a ob C (some od) ∧ (∀ nm, PySem.W.lookIn nm od = some (mA nm)) ∧ ∀ nm, RelO (fs.lookup nm) (mA nm) := by
  obtain ⟨dd, hd, hx⟩ := h.dc
  have hx : ObjOk X.prog X.w H s.heap dd (.xd fs) := Iv.hok dd _ hx
  obtain ⟨mA, hns, hr⟩ := hx
  obtain ⟨od, ho, hl⟩ := lookIn_ns hns
  obtain ⟨vs, hv⟩ := h.fv
  exact ⟨od, mA, ⟨hat, h.cl.1, by unfold PySem.W.notCls; rw [hv] <;> rfl, by rw [hd]; exact ho⟩, hl, hr⟩
theorem kitx_err {K : PySem.W.Frag} {od : Obj} (hC : ExcC K C) : PySem.W.KitX K (.ref a) (.ref C) (fun h => PySem.W.InstAt h a ob C (some od)) :=
  PySem.W.kitx_exc (by obtain ⟨cd, hc, _⟩ := PySem.W.any_some hC.hd; rw [hc]; rfl) hC.hg hC.hk hC.hs hC.ha hC.hn hC.ht hC.hm
/-- isinstance(e, T), e such an error -/
def rIsErr (K : PySem.W.Frag) (W : Addr → Obj → Hp → Prop) : List V → Hp → VK → Prop := fun xs H Q => ∃ (a C : Addr) (ob : Obj) (fs : List (Str × V)) (c : V) (cv : Value) (b : Bool), xs = [.ref a, c] ∧ W a ob H ∧ ErrAt K H a C ob fs ∧ ClsV c cv ∧ PySem.W.kitOne K (.ref C) cv = some b ∧ Q (.bl b) H
/-- e.n -/
def tErrF (K : PySem.W.Frag) (W : Addr → Obj → Hp → Prop) (nm : Str) (te : TE) : TE := fun σ H Q => te σ H fun x H1 => ∃ (a C : Addr) (ob : Obj) (fs : List (Str × V)) (v : V), x = .ref a ∧ W a ob H1 ∧ ErrAt K H1 a C ob fs ∧ PySem.W.findIn K (.ref C) nm = some none ∧ fs.lookup nm = some v ∧ Q v H1
/-- how it is known that the object stands there -/
def Stands (X : Cx) (W : Addr → Obj → Hp → Prop) : Prop := ∀ (pins : List (Addr × Obj)) (σ : L2.St) (H : Hp) (s : Shared) (a : Addr) (ob : Obj), Inv X pins σ H s → W a ob H → s.heap.get? a = some ob
/-- held by the suite -/
def bySuite (a0 : Addr) (ob0 : Obj) : Addr → Obj → Hp → Prop := fun a ob _ => a = a0 ∧ ob = ob0
theorem stands_suite {a0 : Addr} {ob0 : Obj} (h : (a0, ob0) ∈ X.pn) : Stands X (bySuite a0 ob0) := fun pins σ H s a ob Iv z => by
  obtain ⟨rfl, rfl⟩ := z
  exact (Iv.pin (a, ob) (List.mem_append_left _ h)).1
theorem call_isErr {W : Addr → Obj → Hp → Prop} (hW : Stands X W) : CallR X (.builtin "isinstance") (rIsErr X.K W) := by
  intro pins s σ H xs us Q Iv r h
  obtain ⟨a, C, ob, fs, c, cv, b, rfl, hw, he, hc, hk, hq⟩ := h
  obtain ⟨u1, u2, rfl, r1, r2⟩ := vals2 r
  have e2 := hc.eq r2
  subst e2
  obtain rfl : u1 = Value.ref a := r1
  obtain ⟨od, mA, J, _, _⟩ := he.inst Iv (hW pins σ H s a ob Iv hw)
  exact PySem.W.kia_one (kitx_err he.is) Iv.kIn J hk (fun z => nomatch z) fun tk => ⟨.bl b, H, Iv.tok tk, rfl, hq⟩
theorem pe_errF {W : Addr → Obj → Hp → Prop} {e : Expr} {te : TE} {pos : Pos} {nm : Str} (hW : Stands X W) (he : PE X e te) (hb : attributeBase e nm X.env (eval e X.env) = eval e X.env := by rfl) : PE X (.Attribute e nm pos) (tErrF X.K W nm te) := by
  constructor
  intro pins s σ H Q Iv hw
  refine attr_of hb (thn (he.run pins s σ H _ Iv hw) ?_)
  rintro u s1 ⟨x, H1, I1, rx, a, C, ob, fs, v, rfl, hst, hE, hno, hl, hq⟩
  obtain rfl : u = Value.ref a := rx
  obtain ⟨od, mA, J, hlk, hr⟩ := hE.inst I1 (hW pins σ H1 s1 a ob I1 hst)
  obtain ⟨u, hu, ru⟩ := RelO.some_of (v := v) (o := mA nm) (by rw [← hl]; exact hr nm)
  exact HandSPX.exc_get I1.kIn J hE.is.hg hE.is.hk hE.is.hs (PySem.W.findObj_own hE.is.hd hno rfl (by rw [hlk, hu])) (handed_of ru) ⟨v, H1, I1.tok _, ru, hq⟩
end
/-! ### C(e, ..), an error class with an __init__ of its own, to be raised -/
section
variable {X : Cx} {CX : CXT} {x : Str} {C fI : Addr} {k : Nat} {fd : FuncData} {prs : List Str} {sp : Sp} {e : Expr} {es : List Expr} {ta : TA} {p pos : Pos}
theorem pmk_ini (T : OexC X.K C) (hini : PySem.W.findIn X.K (.ref C) "__init__" = some (some (.ref fI))) (hfun : PySem.W.typeIn X.K (.ref fI) = some (.type "function")) (Fo : FnOk X.prog X.w X.K X.mg X.base CX0 k fI fd prs sp) (hroom : Room (k + 1) X.A) (hbinds : Binds X.K fd prs [])
    (hgl : Gl X x) (hmg : X.mg x = some (.ref C)) (hargs : PA X (e :: es) ta) (hdbg : (x == ("__debug__" : Str)) = false := by decide) (hstar : starEach (e :: es) X.env = (false, eval e X.env) :: starEach es X.env := by rfl) (hplain : (backTo pos (starEach es X.env)).any (·.1) = false := by rfl) :
    L2N.PMk X (.Call (.Name x p) (e :: es) [] pos) (tMkO C sp [] ta) := by
  intro pins s σ H Q Iv hw
  obtain ⟨nm, qn, NN, bs, bm, sn, sub, ab, col, dd, k0, k1, k2, k3, k5, hC, hbm⟩ := T.cls
  refine wpAny_Call_Name_kw (ld_glob Iv hgl hmg ?_ hdbg)
  refine PySem.W.callWith_K (h₀ := X.base) Iv.ok.mod.kin T.kC (thn (hargs.run pos pins s σ H _ Iv hw) ?_) hstar hplain
  rintro us s1 ⟨vs, H1, I1, rvs, hlen, hall⟩
  refine ⟨I1.kIn, ?_⟩
  show wpAny _ _ (call (.ref C) us) _ _ _
  obtain ⟨hp, gn, dr, tk, os⟩ := s1
  have above : hp.objs.size ≤ hp.objs.size + 1 := Nat.le_succ _
  have nw : H1 (hp.objs.size + 1) = none := I1.hok.fresh above
  have wish := hall (hp.objs.size + 1) nw
  have stays : ∀ b o, hp.get? b = some o → ((hp.push (PySem.W.kdv_tup us)).push (PySem.HandSPX.excO C hp.objs.size)).get? b = some o := fun b o g => Heap.get?_push_of_some _ (Heap.get?_push_of_some _ g)
  have lies : ((hp.push (PySem.W.kdv_tup us)).push (PySem.HandSPX.excO C hp.objs.size)).get? (hp.objs.size + 1) = some (PySem.HandSPX.excO C hp.objs.size) := by heap_get
  have I2 : Inv X pins σ (upd H1 (hp.objs.size + 1) (exo (hp.objs.size + 1) C none)) ⟨(hp.push (PySem.W.kdv_tup us)).push (PySem.HandSPX.excO C hp.objs.size), gn, dr, tk, os⟩ :=
    I1.laid (t' := tk) (a := hp.objs.size + 1) (o := exo (hp.objs.size + 1) C none) (h' := (hp.push (PySem.W.kdv_tup us)).push (PySem.HandSPX.excO C hp.objs.size)) stays above (exo_ok lies)
  have rv2 : Vals (V.ref (hp.objs.size + 1) :: (vs ++ [])) (Value.ref (hp.objs.size + 1) :: (us ++ [])) := .cons rfl (rvs.append .nil)
  have hl : (Value.ref (hp.objs.size + 1) :: us ++ []).length = prs.length := by
    have z := rv2.length
    rw [Fo.len _ _ _ _ wish] at z
    exact z.symm
  have bnd : BindsTo ⟨(hp.push (PySem.W.kdv_tup us)).push (PySem.HandSPX.excO C hp.objs.size), gn, dr, tk, os⟩ fd ⟨Value.ref (hp.objs.size + 1) :: us, []⟩ (prs.zip (Value.ref (hp.objs.size + 1) :: (us ++ []))) := by
    have z := hbinds ⟨(hp.push (PySem.W.kdv_tup us)).push (PySem.HandSPX.excO C hp.objs.size), gn, dr, tk, os⟩ (Value.ref (hp.objs.size + 1) :: us) I2.kIn hl
    rwa [List.cons_append] at z
  have small : us.length ≤ sizeLine := by
    rw [← Paired.length rvs, sizeLine_eq]
    omega
  refine wpAny_call (PySem.HandSPX.call_own F.excBase_ValueError (fun Y => PySem.HandSPX.refsVE_contains Y bm hbm) (I1.kIn _ _ hC) (PySem.W.looks_findIn I1.kIn hini) (fun self => PySem.W.bind_fn I1.kIn self hfun) small
    (codeAny_mono (Fo.run _ X.stack _ _ ⟨Value.ref (hp.objs.size + 1) :: us, []⟩ (Value.ref (hp.objs.size + 1) :: (us ++ [])) _ _ (fun _ _ _ => False) (hroom.make C us []) (I2.env0.make C us []) bnd rv2 wish) fun r s2 hr => ?_))
  cases r with
  | error er => exact hr.elim
  | ok fl =>
    cases fl with
    | next => exact hr.elim
    | brk => exact hr.elim
    | cont => exact hr.elim
    | ret u =>
      obtain ⟨v, H2, os2, bare2, un2, hok2, rv, ev, d, fs, ea, ed, hd1, q2⟩ := hr
      subst ev
      obtain ⟨h2, g2, d2, t2, osz⟩ := s2
      obtain ⟨t0, G, J, kG, ge, hoe, na⟩ := mk_end0 (d2 := d2) (t2 := t2) I1 above stays un2 hok2 os2 bare2 ea ed hd1
      exact ⟨rv, _, _, _, ⟨G, g2, d2, t2, osz⟩, _, .ref C, some d, rfl, J, kG, ge, hoe, ⟨rfl, rfl, fun fv hf => by cases hf; rfl⟩, rfl, rfl, na, rfl, bare2, raises_own T.exC T.tyC, q2⟩
end
/-- a def that may raise, its errors told with no context -/
theorem Fun.okN {P : Program} {w : World} {K : PySem.W.Frag} {mg : Str → Option Value} {base : Heap} {x qual : Str} {st : Stmt} {f : Addr} {fd : FuncData} {N prs : List Str} {k : Nat} {sp : Sp} (Fu : L2.Fun K x qual st f fd) (Sc : FnScope N prs (defScope st)) (len : ∀ vs H Q E, sp vs H Q E → vs.length = prs.length)
    (hbody : ∀ (cdv : Value) (A : Around) (outer : List Env) (s : Shared) (H : Hp) (vs : List V) (Q : VK) (E : XK), Room k (A.deeper (envOfC qual (defScope st) s.heap.objs.size f cdv)) → sp vs H Q E →
      ∃ t, PSs (cxOf (L2N.CX P w) P w K mg base N qual (defScope st) f cdv A outer s H E) (defBody st) t ∧ t { nx := fun _ H' => Q .non H', rt := Q } (L2.start N vs) H) : FnOk P w K mg base (L2N.CX P w) (k + 1) f fd prs sp := by
  obtain ⟨oc, od, kV, doc, pm, an, cdv, ct, osl, rfl, lk, hcd⟩ := Fu.ex
  exact fn_of lk hcd Sc len fun A outer s H vs Q E hr hsp => hbody cdv A outer s H vs Q E hr hsp
/-- such a def called where it raises nothing -/
theorem passN {X : Cx} : Passes (L2N.CX X.prog X.w) X E0 := by
  intro pins σ H s er s2 Iv z
  obtain ⟨_, _, _, _, _, _, _, _, _, _, _, _, ff⟩ := z
  exact ff.elim
end DL
set_option Elab.async false
set_option linter.all false
set_option maxRecDepth 100000
set_option maxHeartbeats 2000000
/-! DL: a layer of data over the readings: frozen data (D), mutable cells (MC), one word of the whole state (Sta), and what an expression is worth (EvD) without heaps or addresses. -/
namespace DL
open PySem L2
open Evl (Ex)

/-! ### pointwise -/
def P2 {α β : Type} (R : α → β → Prop) (xs : List α) (ys : List β) : Prop := xs.length = ys.length ∧ ∀ (i : Nat) (x : α) (y : β), xs[i]? = some x → ys[i]? = some y → R x y
section
variable {α β γ : Type} {R S : α → β → Prop} {xs : List α} {ys : List β}
theorem P2.imp (h : P2 R xs ys) (f : ∀ x y, R x y → S x y) : P2 S xs ys := ⟨h.1, fun i x y a b => f x y (h.2 i x y a b)⟩
theorem P2.nil : P2 R [] [] := ⟨rfl, fun i x y a _ => by simp at a⟩
theorem P2.cons {x : α} {y : β} (r : R x y) (h : P2 R xs ys) : P2 R (x :: xs) (y :: ys) := ⟨by simp [h.1], fun i a b e1 e2 => by
  cases i with
  | zero =>
    have e1 : x = a := by simpa using e1
    have e2 : y = b := by simpa using e2
    subst e1; subst e2; exact r
  | succ i => exact h.2 i a b (by simpa using e1) (by simpa using e2)⟩
theorem P2.uncons {x : α} {y : β} (h : P2 R (x :: xs) (y :: ys)) : R x y ∧ P2 R xs ys :=
  ⟨h.2 0 x y rfl rfl, by have := h.1; simpa using this, fun i a b e1 e2 => h.2 (i + 1) a b (by simpa using e1) (by simpa using e2)⟩
theorem P2.inv_nil (h : P2 R [] ys) : ys = [] := by
  have := h.1
  cases ys with
  | nil => rfl
  | cons y ys => simp at this
theorem P2.inv_cons {x : α} (h : P2 R (x :: xs) ys) : ∃ y zs, ys = y :: zs ∧ R x y ∧ P2 R xs zs := by
  cases ys with
  | nil => have := h.1; simp at this
  | cons y zs => exact ⟨y, zs, rfl, h.uncons.1, h.uncons.2⟩
theorem P2.get (h : P2 R xs ys) {i : Nat} {x : α} (e : xs[i]? = some x) : ∃ y, ys[i]? = some y ∧ R x y := by
  have hi : i < xs.length := (List.getElem?_eq_some_iff.mp e).1
  have hj : i < ys.length := h.1 ▸ hi
  exact ⟨ys[i], List.getElem?_eq_getElem hj, h.2 i _ _ e (List.getElem?_eq_getElem hj)⟩
theorem P2.append {xs' : List α} {ys' : List β} (h : P2 R xs ys) (h' : P2 R xs' ys') : P2 R (xs ++ xs') (ys ++ ys') := by
  refine ⟨by rw [List.length_append, List.length_append, h.1, h'.1], fun i x y a b => ?_⟩
  by_cases hi : i < xs.length
  · rw [List.getElem?_append_left hi] at a
    rw [List.getElem?_append_left (h.1 ▸ hi)] at b
    exact h.2 i x y a b
  · have hi' : xs.length ≤ i := Nat.le_of_not_lt hi
    rw [List.getElem?_append_right hi'] at a
    rw [List.getElem?_append_right (h.1 ▸ hi')] at b
    rw [h.1] at a
    exact h'.2 _ x y a b
theorem P2.single {x : α} {y : β} (r : R x y) : P2 R [x] [y] := P2.cons r P2.nil
theorem P2.set (h : P2 R xs ys) {j : Nat} {x : α} {y : β} (r : R x y) : P2 R (xs.set j x) (ys.set j y) := by
  refine ⟨by rw [List.length_set, List.length_set, h.1], fun i a b e1 e2 => ?_⟩
  by_cases hi : j = i
  · subst hi
    have hj : j < xs.length := by
      have := (List.getElem?_eq_some_iff.mp e1).1
      rwa [List.length_set] at this
    rw [List.getElem?_set_self hj] at e1
    rw [List.getElem?_set_self (h.1 ▸ hj)] at e2
    cases e1; cases e2; exact r
  · rw [List.getElem?_set_ne hi] at e1 e2
    exact h.2 i a b e1 e2
theorem P2.take (h : P2 R xs ys) (n : Nat) : P2 R (xs.take n) (ys.take n) := by
  refine ⟨by rw [List.length_take, List.length_take, h.1], fun i x y a b => ?_⟩
  rw [List.getElem?_take] at a b
  split at a
  · rename_i hi
    rw [if_pos hi] at b
    exact h.2 i x y a b
  · cases a
theorem P2.drop (h : P2 R xs ys) (n : Nat) : P2 R (xs.drop n) (ys.drop n) := by
  refine ⟨by rw [List.length_drop, List.length_drop, h.1], fun i x y a b => ?_⟩
  rw [List.getElem?_drop] at a b
  exact h.2 _ x y a b
theorem P2.reverse (h : P2 R xs ys) : P2 R xs.reverse ys.reverse := by
  refine ⟨by rw [List.length_reverse, List.length_reverse, h.1], fun i x y a b => ?_⟩
  have hi : i < xs.length := by
    have := (List.getElem?_eq_some_iff.mp a).1
    rwa [List.length_reverse] at this
  rw [List.getElem?_reverse hi] at a
  rw [List.getElem?_reverse (h.1 ▸ hi)] at b
  rw [h.1] at a
  exact h.2 _ x y a b
theorem P2.flip (h : P2 R xs ys) : P2 (fun y x => R x y) ys xs := ⟨h.1.symm, fun i y x a b => h.2 i x y b a⟩
end

/-! ### data, frozen -/
inductive D where
  | non | bl (b : Bool) | int (i : Int) | str (s : Str)
  | lst (l : List D) | tup (l : List D) | dct (kvs : List (Key × D)) | ins (C : Addr) (fs : List (Str × D)) | err (a : Addr) (ob : Obj) (C : Addr) (fs : List (Str × D)) | scr (ns : List Int)
/-- v stands for d in the frozen heap F -/
inductive R (K : PySem.W.Frag) (F : Hp) : D → V → Prop where
  | non : R K F .non .non
  | bl (b : Bool) : R K F (.bl b) (.bl b)
  | int (i : Int) : R K F (.int i) (.int i)
  | str (s : Str) : R K F (.str s) (.str s)
  | lst {a : Addr} {xs : List V} {ds : List D} (h : F a = some (.lst xs)) (hl : ds.length = xs.length) (hr : ∀ (i : Nat) (d : D) (v : V), ds[i]? = some d → xs[i]? = some v → R K F d v) : R K F (.lst ds) (.ref a)
  | tup {a : Addr} {xs : List V} {ds : List D} (h : F a = some (.tup xs)) (hl : ds.length = xs.length) (hr : ∀ (i : Nat) (d : D) (v : V), ds[i]? = some d → xs[i]? = some v → R K F d v) : R K F (.tup ds) (.ref a)
  | dct {a : Addr} {ws : List (Key × V)} {kvs : List (Key × D)} (h : F a = some (.dK ws)) (hl : kvs.map (·.1) = ws.map (·.1)) (hr : ∀ (i : Nat) (p : Key × D) (q : Key × V), kvs[i]? = some p → ws[i]? = some q → R K F p.2 q.2) : R K F (.dct kvs) (.ref a)
  | ins {a C dx : Addr} {ws : List (Str × V)} {fs : List (Str × D)} (h : F a = some (.ins C dx ws)) (hl : fs.map (·.1) = ws.map (·.1)) (hr : ∀ (i : Nat) (p : Str × D) (q : Str × V), fs[i]? = some p → ws[i]? = some q → R K F p.2 q.2) : R K F (.ins C fs) (.ref a)
  | err {a C : Addr} {ob : Obj} {ws : List (Str × V)} {fs : List (Str × D)} (he : ErrAt K F a C ob ws) (hl : fs.map (·.1) = ws.map (·.1)) (hr : ∀ (i : Nat) (p : Str × D) (q : Str × V), fs[i]? = some p → ws[i]? = some q → R K F p.2 q.2) : R K F (.err a ob C fs) (.ref a)
  | scr {a : Addr} {ns : List Int} (h : SqL K F a (ns.map V.int)) : R K F (.scr ns) (.ref a)
section
variable {K : PySem.W.Frag} {F F' H : Hp} {d : D} {v : V}
theorem R.mono (h : R K F d v) (e : Ex F F') : R K F' d v := by
  induction h with
  | non => exact .non
  | bl b => exact .bl b
  | int i => exact .int i
  | str s => exact .str s
  | lst h hl _ ih => exact .lst (e _ _ h) hl ih
  | tup h hl _ ih => exact .tup (e _ _ h) hl ih
  | dct h hl _ ih => exact .dct (e _ _ h) hl ih
  | ins h hl _ ih => exact .ins (e _ _ h) hl ih
  | err he hl _ ih => exact .err (he.mono e) hl ih
  | scr h => exact .scr (Evl.ex_l e h)
theorem R.int_inv {i : Int} (h : R K F (.int i) v) : v = .int i := by cases h; rfl
theorem R.bl_inv {b : Bool} (h : R K F (.bl b) v) : v = .bl b := by cases h; rfl
theorem R.str_inv {s : Str} (h : R K F (.str s) v) : v = .str s := by cases h; rfl
theorem R.non_inv (h : R K F .non v) : v = .non := by cases h; rfl
theorem R.lst_inv {ds : List D} (h : R K F (.lst ds) v) : ∃ a xs, v = .ref a ∧ F a = some (.lst xs) ∧ P2 (R K F) ds xs := by
  cases h with
  | lst h hl hr => exact ⟨_, _, rfl, h, hl, hr⟩
theorem R.tup_inv {ds : List D} (h : R K F (.tup ds) v) : ∃ a xs, v = .ref a ∧ F a = some (.tup xs) ∧ P2 (R K F) ds xs := by
  cases h with
  | tup h hl hr => exact ⟨_, _, rfl, h, hl, hr⟩
def PK {α : Type} (R : D → V → Prop) (kvs : List (α × D)) (ws : List (α × V)) : Prop := P2 (fun p q => p.1 = q.1 ∧ R p.2 q.2) kvs ws
theorem PK.of {α : Type} {R : D → V → Prop} {kvs : List (α × D)} {ws : List (α × V)} (hl : kvs.map (·.1) = ws.map (·.1)) (hr : ∀ (i : Nat) (p : α × D) (q : α × V), kvs[i]? = some p → ws[i]? = some q → R p.2 q.2) : PK R kvs ws := by
  refine ⟨by simpa using congrArg List.length hl, fun i p q e1 e2 => ⟨?_, hr i p q e1 e2⟩⟩
  have h1 : (kvs.map (·.1))[i]? = some p.1 := by rw [List.getElem?_map, e1]; rfl
  have h2 : (ws.map (·.1))[i]? = some q.1 := by rw [List.getElem?_map, e2]; rfl
  rw [hl, h2] at h1
  exact (Option.some.inj h1).symm
theorem PK.keys {α : Type} {R : D → V → Prop} {kvs : List (α × D)} {ws : List (α × V)} (h : PK R kvs ws) : kvs.map (·.1) = ws.map (·.1) := by
  refine List.ext_getElem? fun i => ?_
  rw [List.getElem?_map, List.getElem?_map]
  cases e : kvs[i]? with
  | none =>
    have : ws[i]? = none := by
      rw [List.getElem?_eq_none_iff] at e ⊢
      rw [← h.1]; exact e
    rw [this]; rfl
  | some p =>
    obtain ⟨q, e2, r, _⟩ := P2.get h e
    rw [e2]
    show some p.1 = some q.1
    rw [r]
theorem R.dct_inv {kvs : List (Key × D)} (h : R K F (.dct kvs) v) : ∃ a ws, v = .ref a ∧ F a = some (.dK ws) ∧ PK (R K F) kvs ws := by
  cases h with
  | dct h hl hr => exact ⟨_, _, rfl, h, PK.of hl hr⟩
theorem R.ins_inv {C : Addr} {fs : List (Str × D)} (h : R K F (.ins C fs) v) : ∃ a dx ws, v = .ref a ∧ F a = some (.ins C dx ws) ∧ PK (R K F) fs ws := by
  cases h with
  | ins h hl hr => exact ⟨_, _, _, rfl, h, PK.of hl hr⟩
theorem R.err_inv {a C : Addr} {ob : Obj} {fs : List (Str × D)} (h : R K F (.err a ob C fs) v) : ∃ ws, v = .ref a ∧ ErrAt K F a C ob ws ∧ PK (R K F) fs ws := by
  cases h with
  | err he hl hr => exact ⟨_, rfl, he, PK.of hl hr⟩
theorem R.scr_inv {ns : List Int} (h : R K F (.scr ns) v) : ∃ a, v = .ref a ∧ SqL K F a (ns.map V.int) := by
  cases h with
  | scr h => exact ⟨_, rfl, h⟩
theorem R.lst' {a : Addr} {xs : List V} {ds : List D} (h : F a = some (.lst xs)) (hr : P2 (R K F) ds xs) : R K F (.lst ds) (.ref a) := .lst h hr.1 hr.2
theorem R.tup' {a : Addr} {xs : List V} {ds : List D} (h : F a = some (.tup xs)) (hr : P2 (R K F) ds xs) : R K F (.tup ds) (.ref a) := .tup h hr.1 hr.2
theorem R.dct' {a : Addr} {ws : List (Key × V)} {kvs : List (Key × D)} (h : F a = some (.dK ws)) (hr : PK (R K F) kvs ws) : R K F (.dct kvs) (.ref a) := .dct h hr.keys fun i p q a b => (hr.2 i p q a b).2
theorem R.ins' {a C dx : Addr} {ws : List (Str × V)} {fs : List (Str × D)} (h : F a = some (.ins C dx ws)) (hr : PK (R K F) fs ws) : R K F (.ins C fs) (.ref a) := .ins h hr.keys fun i p q a b => (hr.2 i p q a b).2
theorem P2.ints {ns : List Int} {xs : List V} (h : P2 (R K F) (ns.map D.int) xs) : xs = ns.map V.int := by
  refine List.ext_getElem? fun i => ?_
  rw [List.getElem?_map]
  cases e : ns[i]? with
  | none =>
    rw [List.getElem?_eq_none_iff] at e
    have := h.1
    rw [List.length_map] at this
    exact List.getElem?_eq_none_iff.mpr (by omega)
  | some n =>
    obtain ⟨y, e2, r⟩ := h.get (i := i) (x := D.int n) (by rw [List.getElem?_map, e]; rfl)
    rw [e2, r.int_inv]; rfl
theorem P2.ofInts (ns : List Int) : P2 (R K F) (ns.map D.int) (ns.map V.int) := by
  refine ⟨by simp, fun i x y a b => ?_⟩
  rw [List.getElem?_map] at a b
  cases e : ns[i]? with
  | none => rw [e] at a; cases a
  | some n => rw [e] at a b; cases a; cases b; exact .int n
theorem P2.bls {bs : List Bool} {xs : List V} (h : P2 (R K F) (bs.map D.bl) xs) : xs = bs.map V.bl := by
  refine List.ext_getElem? fun i => ?_
  rw [List.getElem?_map]
  cases e : bs[i]? with
  | none =>
    rw [List.getElem?_eq_none_iff] at e
    have := h.1
    rw [List.length_map] at this
    exact List.getElem?_eq_none_iff.mpr (by omega)
  | some n =>
    obtain ⟨y, e2, r⟩ := h.get (i := i) (x := D.bl n) (by rw [List.getElem?_map, e]; rfl)
    rw [e2, r.bl_inv]; rfl
end

/-! ### what a name may hold; the mutable cells -/
inductive Rv where
  | dat (d : D) | cel (k : Nat)
/-- an object that holds cells -/
inductive DO where
  | lst (rs : List Rv) | tup (rs : List Rv) | ins (C : Addr) (fs : List (Str × Rv))
inductive MC where
  | lst (ds : List D) | dct (kvs : List (Key × D)) | ins (C : Addr) (fs : List (Str × D)) | gone | deep (x : DO)
/-- no cell of it may be handed in by itself -/
def MC.bad : MC → Prop
  | .gone => True
  | .deep _ => True
  | _ => False
def MC.isDeep : MC → Prop
  | .deep _ => True
  | _ => False
abbrev rint (i : Int) : Rv := .dat (.int i)
abbrev rbl (b : Bool) : Rv := .dat (.bl b)
abbrev rstr (s : Str) : Rv := .dat (.str s)
abbrev rnon : Rv := .dat .non
abbrev dints (ns : List Int) : D := .lst (ns.map D.int)
abbrev rints (ns : List Int) : Rv := .dat (.lst (ns.map D.int))
def RV (K : PySem.W.Frag) (F : Hp) (As : List Addr) : Rv → V → Prop
  | .dat d, v => R K F d v
  | .cel k, v => ∃ a, As[k]? = some a ∧ v = .ref a
theorem MC.bad_gone {mc : MC} (h : ¬ mc.bad) : mc ≠ .gone := by rintro rfl; exact h trivial
theorem MC.bad_deep {mc : MC} (h : ¬ mc.bad) : ¬ mc.isDeep := by
  cases mc with
  | deep x => exact absurd trivial h
  | _ => exact fun z => z
def DOR (K : PySem.W.Frag) (F : Hp) (As : List Addr) : DO → HO → Prop
  | .lst rs, o => ∃ xs, o = .lst xs ∧ P2 (RV K F As) rs xs
  | .tup rs, o => ∃ xs, o = .tup xs ∧ P2 (RV K F As) rs xs
  | .ins C fs, o => ∃ dx ws, o = .ins C dx ws ∧ P2 (fun (p : Str × Rv) (q : Str × V) => p.1 = q.1 ∧ RV K F As p.2 q.2) fs ws
def MCR (K : PySem.W.Frag) (F : Hp) (As : List Addr) : MC → HO → Prop
  | .lst ds, o => ∃ xs, o = .lst xs ∧ P2 (R K F) ds xs
  | .dct kvs, o => ∃ ws, o = .dK ws ∧ PK (R K F) kvs ws
  | .ins C fs, o => ∃ dx ws, o = .ins C dx ws ∧ PK (R K F) fs ws
  | .gone, _ => True
  | .deep x, o => DOR K F As x o
/-- what is known of the slots -/
def ES (K : PySem.W.Frag) (F : Hp) (As : List Addr) (σ : St) (E : List (Option Rv)) : Prop :=
  E.length = σ.length ∧ ∀ (i : Nat) (r : Rv), E[i]? = some (some r) → ∃ v, σ[i]? = some (some v) ∧ RV K F As r v
structure Base where
  F0 : Hp
  H0 : Hp
  P : Addr → Prop
  A0 : List Addr
structure Sta (K : PySem.W.Frag) (B : Base) (F : Hp) (As : List Addr) (M : List MC) (σ : St) (E : List (Option Rv)) (H : Hp) : Prop where
  ex : Ex F H
  len : As.length = M.length
  nd : As.Nodup
  cell : ∀ (k : Nat) (a : Addr) (mc : MC), As[k]? = some a → M[k]? = some mc → mc ≠ .gone → F a = none ∧ ∃ o, H a = some o ∧ MCR K F As mc o
  slots : ES K F As σ E
  bF : Ex B.F0 F
  bH : ∀ a o, B.H0 a = some o → ¬ B.P a → H a = some o
  bN : ∀ a o, B.H0 a = some o → B.F0 a = none → F a = none
  bA : ∀ a ∈ As, B.P a ∨ B.H0 a = none
  bK : ∀ a o, B.H0 a = some o → ∃ u, H a = some u
  kn : ∀ a ∈ As, ∃ u, H a = some u
  pA : B.A0 <+: As
section
variable {K : PySem.W.Frag} {B : Base} {F F' H H' : Hp} {As As' : List Addr} {M M' : List MC} {σ : St} {E : List (Option Rv)} {r : Rv} {v : V}
theorem RV.mono (h : RV K F As r v) (e : Ex F F') (p : As <+: As') : RV K F' As' r v := by
  cases r with
  | dat d => exact R.mono h e
  | cel k =>
    obtain ⟨a, h1, h2⟩ := h
    obtain ⟨t, rfl⟩ := p
    exact ⟨a, by rw [List.getElem?_append_left (List.getElem?_eq_some_iff.mp h1).1]; exact h1, h2⟩
theorem DOR.mono {x : DO} {o : HO} (h : DOR K F As x o) (e : Ex F F') (p : As <+: As') : DOR K F' As' x o := by
  cases x with
  | lst rs => obtain ⟨xs, h1, h2⟩ := h; exact ⟨xs, h1, h2.imp fun _ _ z => z.mono e p⟩
  | tup rs => obtain ⟨xs, h1, h2⟩ := h; exact ⟨xs, h1, h2.imp fun _ _ z => z.mono e p⟩
  | ins C fs => obtain ⟨dx, ws, h1, h2⟩ := h; exact ⟨dx, ws, h1, h2.imp fun _ _ z => ⟨z.1, z.2.mono e p⟩⟩
theorem MCR.mono2 {mc : MC} {o : HO} (h : MCR K F As mc o) (e : Ex F F') (p : As <+: As') : MCR K F' As' mc o := by
  cases mc with
  | lst ds => obtain ⟨xs, h1, h2⟩ := h; exact ⟨xs, h1, h2.imp fun _ _ z => z.mono e⟩
  | dct kvs => obtain ⟨xs, h1, h2⟩ := h; exact ⟨xs, h1, h2.imp fun _ _ z => ⟨z.1, z.2.mono e⟩⟩
  | ins C fs => obtain ⟨dx, ws, h1, h2⟩ := h; exact ⟨dx, ws, h1, h2.imp fun _ _ z => ⟨z.1, z.2.mono e⟩⟩
  | gone => trivial
  | deep x => exact DOR.mono h e p
theorem MCR.flat {mc : MC} {o : HO} (h : MCR K F As mc o) (n : ¬ mc.isDeep) : MCR K F As' mc o := by
  cases mc with
  | deep x => exact absurd trivial n
  | _ => exact h
theorem MCR.mono {mc : MC} {o : HO} (h : MCR K F As mc o) (e : Ex F F') : MCR K F' As mc o := by
  cases mc with
  | lst ds => obtain ⟨xs, h1, h2⟩ := h; exact ⟨xs, h1, h2.imp fun _ _ z => z.mono e⟩
  | dct kvs => obtain ⟨xs, h1, h2⟩ := h; exact ⟨xs, h1, h2.imp fun _ _ z => ⟨z.1, z.2.mono e⟩⟩
  | ins C fs => obtain ⟨dx, ws, h1, h2⟩ := h; exact ⟨dx, ws, h1, h2.imp fun _ _ z => ⟨z.1, z.2.mono e⟩⟩
  | gone => trivial
  | deep x => exact DOR.mono h e (List.prefix_refl _)
theorem ES.mono (h : ES K F As σ E) (e : Ex F F') (p : As <+: As') : ES K F' As' σ E := ⟨h.1, fun i r hi => by
  obtain ⟨v, h1, h2⟩ := h.2 i r hi
  exact ⟨v, h1, h2.mono e p⟩⟩
theorem ES.set (h : ES K F As σ E) {i : Nat} (q : RV K F As r v) : ES K F As (σ.set i (some v)) (E.set i (some r)) := by
  refine ⟨by rw [List.length_set, List.length_set, h.1], fun j r' hj => ?_⟩
  by_cases e : i = j
  · subst e
    have hi : i < E.length := by
      have := (List.getElem?_eq_some_iff.mp hj).1
      rwa [List.length_set] at this
    rw [List.getElem?_set_self hi] at hj
    cases hj
    exact ⟨v, by rw [List.getElem?_set_self (h.1 ▸ hi)], q⟩
  · rw [List.getElem?_set_ne e] at hj
    rw [List.getElem?_set_ne e]
    exact h.2 j r' hj
theorem Sta.fresh (S : Sta K B F As M σ E H) {p : Addr} (hp : H p = none) : F p = none := Evl.fresh_back S.ex hp
theorem Sta.notin (S : Sta K B F As M σ E H) {p : Addr} (hp : H p = none) : ∀ (k : Nat) (a : Addr) (mc : MC), As[k]? = some a → M[k]? = some mc → mc ≠ .gone → a ≠ p := fun k a mc h1 h2 h3 e => by
  obtain ⟨_, o, ho, _⟩ := S.cell k a mc h1 h2 h3
  rw [e, hp] at ho
  cases ho
/-- all cells of the state are live -/
def Live (_ : List MC) : Prop := True
theorem Live.nil : Live [] := trivial
/-- what is known of fewer slots -/
def Ele : List (Option Rv) → List (Option Rv) → Prop
  | [], [] => True
  | none :: a, _ :: b => Ele a b
  | some r :: a, x :: b => x = some r ∧ Ele a b
  | _, _ => False
theorem Ele.get : ∀ {E E' : List (Option Rv)} {i : Nat} {r : Rv}, Ele E E' → E[i]? = some (some r) → E'[i]? = some (some r)
  | none :: a, y :: b, 0, r, h, e => by simp at e
  | none :: a, y :: b, i + 1, r, h, e => by
    have h : Ele a b := h
    simpa using h.get (i := i) (by simpa using e)
  | some x :: a, y :: b, 0, r, h, e => by
    have h : y = some x ∧ Ele a b := h
    rw [h.1]; simpa using e
  | some x :: a, y :: b, i + 1, r, h, e => by
    have h : y = some x ∧ Ele a b := h
    simpa using h.2.get (i := i) (by simpa using e)
theorem Ele.length : ∀ {E E' : List (Option Rv)}, Ele E E' → E.length = E'.length
  | [], [], _ => rfl
  | none :: a, y :: b, h => by
    have h : Ele a b := h
    simp [h.length]
  | some x :: a, y :: b, h => by
    have h : y = some x ∧ Ele a b := h
    simp [h.2.length]
theorem Ele.refl : ∀ E : List (Option Rv), Ele E E
  | [] => trivial
  | none :: a => Ele.refl a
  | some _ :: a => ⟨rfl, Ele.refl a⟩
theorem Sta.weak {E' : List (Option Rv)} (S : Sta K B F As M σ E H) (h : Ele E' E) : Sta K B F As M σ E' H :=
  { S with slots := ⟨by rw [h.length]; exact S.slots.1, fun i r hi => S.slots.2 i r (h.get hi)⟩ }
theorem Sta.set (S : Sta K B F As M σ E H) {i : Nat} (q : RV K F As r v) : Sta K B F As M (σ.set i (some v)) (E.set i (some r)) H :=
  { S with slots := S.slots.set q }
theorem prefix_get {i : Nat} {a : Addr} (p : As <+: As') (h : As[i]? = some a) : As'[i]? = some a := by
  obtain ⟨t, rfl⟩ := p
  rw [List.getElem?_append_left (List.getElem?_eq_some_iff.mp h).1]; exact h
theorem Sta.off (S : Sta K B F As M σ E H) {p : Addr} (hp : H p = none) : p ∉ As := fun h => by
  obtain ⟨u, e⟩ := S.kn p h
  rw [hp] at e; cases e
theorem Sta.base_off (S : Sta K B F As M σ E H) {p : Addr} (hp : H p = none) : B.H0 p = none := by
  cases e : B.H0 p with
  | none => rfl
  | some o =>
    obtain ⟨u, e2⟩ := S.bK p o e
    rw [hp] at e2; cases e2
/-- a new frozen object -/
theorem Sta.newF (S : Sta K B F As M σ E H) {p : Addr} {o : HO} (hp : H p = none) : Sta K B (upd F p o) As M σ E (upd H p o) ∧ Ex F (upd F p o) := by
  have ex : Ex F (upd F p o) := Ex.new (S.fresh hp)
  have b0 := S.base_off hp
  refine ⟨⟨fun a u h => ?_, S.len, S.nd, fun k a mc h1 h2 h3 => ?_, S.slots.mono ex (List.prefix_refl _), S.bF.trans ex, fun a u h hP => ?_, fun a u h h0 => ?_, S.bA, fun a u h => ?_, fun a h => ?_, S.pA⟩, ex⟩
  · by_cases e : a = p
    · subst e; rw [upd_same] at h ⊢; exact h
    · rw [upd_ne e] at h ⊢; exact S.ex a u h
  · obtain ⟨h4, o', h5, h6⟩ := S.cell k a mc h1 h2 h3
    have e : a ≠ p := ne_of_none h5 hp
    exact ⟨by rw [upd_ne e]; exact h4, o', by rw [upd_ne e]; exact h5, h6.mono ex⟩
  · have := S.bH a u h hP
    rw [upd_ne (ne_of_none this hp)]; exact this
  · rw [upd_ne (ne_of_none h b0)]; exact S.bN a u h h0
  · obtain ⟨z, e⟩ := S.bK a u h
    exact ⟨z, by rw [upd_ne (ne_of_none e hp)]; exact e⟩
  · obtain ⟨z, e⟩ := S.kn a h
    exact ⟨z, by rw [upd_ne (ne_of_none e hp)]; exact e⟩
theorem getElem?_concat {α : Type} {l : List α} {x y : α} {k : Nat} (h : (l ++ [x])[k]? = some y) : l[k]? = some y ∨ (k = l.length ∧ y = x) := by
  by_cases hk : k < l.length
  · rw [List.getElem?_append_left hk] at h; exact .inl h
  · rw [List.getElem?_append_right (Nat.le_of_not_lt hk)] at h
    have : k - l.length = 0 := by
      have := (List.getElem?_eq_some_iff.mp h).1
      simp at this; omega
    rw [this] at h
    exact .inr ⟨by omega, by simpa using h.symm⟩
/-- a new mutable cell -/
theorem Sta.newM (S : Sta K B F As M σ E H) {p : Addr} {o : HO} {mc : MC} (hp : H p = none) (ho : MCR K F (As ++ [p]) mc o) : Sta K B F (As ++ [p]) (M ++ [mc]) σ E (upd H p o) := by
  have b0 := S.base_off hp
  have hA := S.off hp
  refine ⟨fun a u h => ?_, by rw [List.length_append, List.length_append, S.len]; rfl, ?_, fun k a mc' h1 h2 h3 => ?_, S.slots.mono (Ex.refl F) (List.prefix_append _ _), S.bF, fun a u h hP => ?_, S.bN, fun a h => ?_, fun a u h => ?_, fun a h => ?_, S.pA.trans (List.prefix_append _ _)⟩
  · rw [upd_ne (ne_of_none h (S.fresh hp))]; exact S.ex a u h
  · rw [List.nodup_append]
    refine ⟨S.nd, by simp, fun a ha b hb e => ?_⟩
    simp at hb
    subst e; subst hb; exact hA ha
  · rcases getElem?_concat h1 with q1 | ⟨q1, q2⟩
    · rcases getElem?_concat h2 with q3 | ⟨q3, q4⟩
      · obtain ⟨h4, o', h5, h6⟩ := S.cell k a mc' q1 q3 h3
        exact ⟨h4, o', by rw [upd_ne (ne_of_none h5 hp)]; exact h5, h6.mono2 (Ex.refl F) (List.prefix_append _ _)⟩
      · have := (List.getElem?_eq_some_iff.mp q1).1
        rw [S.len] at this; omega
    · rcases getElem?_concat h2 with q3 | ⟨q3, q4⟩
      · have := (List.getElem?_eq_some_iff.mp q3).1
        rw [← S.len] at this; omega
      · subst q2; subst q4
        exact ⟨S.fresh hp, o, upd_same, ho⟩
  · have := S.bH a u h hP
    rw [upd_ne (ne_of_none this hp)]; exact this
  · rcases List.mem_append.mp h with h | h
    · exact S.bA a h
    · simp at h; subst h; exact .inr b0
  · obtain ⟨z, e⟩ := S.bK a u h
    exact ⟨z, by rw [upd_ne (ne_of_none e hp)]; exact e⟩
  · rcases List.mem_append.mp h with h | h
    · obtain ⟨z, e⟩ := S.kn a h
      exact ⟨z, by rw [upd_ne (ne_of_none e hp)]; exact e⟩
    · simp at h; subst h; exact ⟨o, upd_same⟩
theorem Sta.uniq (S : Sta K B F As M σ E H) {j k : Nat} {a : Addr} (h1 : As[j]? = some a) (h2 : As[k]? = some a) : j = k := nd_ix S.nd h1 h2
/-- a cell changed -/
theorem Sta.chg (S : Sta K B F As M σ E H) {k : Nat} {a : Addr} {o : HO} {mc0 mc : MC} (ha : As[k]? = some a) (hm : M[k]? = some mc0) (h0 : mc0 ≠ .gone) (ho : MCR K F As mc o) : Sta K B F As (M.set k mc) σ E (upd H a o) := by
  obtain ⟨f0, o0, q0, _⟩ := S.cell k a mc0 ha hm h0
  refine ⟨Ex.mut S.ex f0, by rw [List.length_set]; exact S.len, S.nd, fun j b mc' h1 h2 h3 => ?_, S.slots, S.bF, fun b u h hP => ?_, S.bN, S.bA, fun b u h => ?_, fun b h => ?_, S.pA⟩
  · by_cases e : k = j
    · subst e
      rw [ha] at h1; cases h1
      have hk : k < M.length := (List.getElem?_eq_some_iff.mp hm).1
      rw [List.getElem?_set_self hk] at h2
      cases h2
      exact ⟨f0, o, upd_same, ho⟩
    · rw [List.getElem?_set_ne e] at h2
      obtain ⟨h4, o', h5, h6⟩ := S.cell j b mc' h1 h2 h3
      have : b ≠ a := fun z => e (S.uniq ha (z ▸ h1))
      exact ⟨h4, o', by rw [upd_ne this]; exact h5, h6⟩
  · have hb : b ≠ a := by
      intro z; subst z
      rcases S.bA b (List.mem_of_getElem? ha) with hp | hn
      · exact hP hp
      · rw [hn] at h; cases h
    rw [upd_ne hb]; exact S.bH b u h hP
  · by_cases e : b = a
    · subst e; exact ⟨o, upd_same⟩
    · obtain ⟨z, q⟩ := S.bK b u h
      exact ⟨z, by rw [upd_ne e]; exact q⟩
  · by_cases e : b = a
    · subst e; exact ⟨o, upd_same⟩
    · obtain ⟨z, q⟩ := S.kn b h
      exact ⟨z, by rw [upd_ne e]; exact q⟩
/-- a cell of the def's own is frozen -/
theorem Sta.frz (S : Sta K B F As M σ E H) {k : Nat} {a : Addr} {o : HO} {mc : MC} (ha : As[k]? = some a) (hm : M[k]? = some mc) (h0 : mc ≠ .gone) (ho : H a = some o) (hP : B.H0 a = none) : Sta K B (L2.upd F a o) As (M.set k .gone) σ E H ∧ Ex F (L2.upd F a o) := by
  obtain ⟨f0, o0, q0, _⟩ := S.cell k a mc ha hm h0
  have ex : Ex F (L2.upd F a o) := Ex.new f0
  refine ⟨⟨fun b u h => ?_, by rw [List.length_set]; exact S.len, S.nd, fun j b mc' h1 h2 h3 => ?_, S.slots.mono ex (List.prefix_refl _), S.bF.trans ex, S.bH, fun b u h h1 => ?_, S.bA, S.bK, S.kn, S.pA⟩, ex⟩
  · by_cases e : b = a
    · subst e; rw [upd_same] at h; rw [← h]; exact ho
    · rw [upd_ne e] at h; exact S.ex b u h
  · have hk : k < M.length := (List.getElem?_eq_some_iff.mp hm).1
    by_cases e : k = j
    · subst e
      rw [List.getElem?_set_self hk] at h2
      cases h2
      exact absurd rfl h3
    · rw [List.getElem?_set_ne e] at h2
      obtain ⟨h4, o', h5, h6⟩ := S.cell j b mc' h1 h2 h3
      have : b ≠ a := fun z => e (S.uniq ha (z ▸ h1))
      exact ⟨by rw [upd_ne this]; exact h4, o', h5, h6.mono ex⟩
  · rw [upd_ne (fun z => by rw [z, hP] at h; cases h)]; exact S.bN b u h h1
/-- the state as a base of its own -/
def Sta.self (F H : Hp) (As : List Addr) : Base := ⟨F, H, (· ∈ As), As⟩
theorem Sta.toSelf (S : Sta K B F As M σ E H) (hL : Live M) : Sta K (Sta.self F H As) F As M σ E H :=
  ⟨S.ex, S.len, S.nd, S.cell, S.slots, Ex.refl F, fun a o h _ => h, fun a o _ h => h, fun a h => .inl h, fun a o h => ⟨o, h⟩, S.kn, List.prefix_refl _⟩
theorem Sta.rebase {σ' : St} {E' : List (Option Rv)} (S : Sta K B F As M σ E H) (S' : Sta K (Sta.self F H As) F' As' M' σ' E' H') : Sta K B F' As' M' σ' E' H' := by
  refine ⟨S'.ex, S'.len, S'.nd, S'.cell, S'.slots, S.bF.trans S'.bF, fun a o h hP => ?_, fun a o h h0 => ?_, fun a h => ?_, fun a o h => ?_, S'.kn, S.pA.trans S'.pA⟩
  · refine S'.bH a o (S.bH a o h hP) fun hA => ?_
    rcases S.bA a hA with q | q
    · exact hP q
    · rw [q] at h; cases h
  · obtain ⟨u, e⟩ := S.bK a o h
    exact S'.bN a u e (S.bN a o h h0)
  · rcases S'.bA a h with q | q
    · exact S.bA a q
    · exact .inr (S.base_off q)
  · obtain ⟨u, e⟩ := S.bK a o h
    exact S'.bK a u e
end
end DL
set_option Elab.async false
set_option linter.all false
set_option maxRecDepth 100000
set_option maxHeartbeats 2000000
/-! DL, second part: what an expression, a test, a list of arguments is worth, by data alone. -/
namespace DL
open PySem L2
open Evl (Ex)

def EvD (K : PySem.W.Frag) (te : TE) (M : List MC) (E : List (Option Rv)) (M' : List MC) (r : Rv) : Prop :=
  ∀ (B : Base) (F : Hp) (As : List Addr) (σ : St) (H : Hp), Sta K B F As M σ E H → ∀ Q : VK, (∀ v F' As' H', Sta K B F' As' M' σ E H' → Ex F F' → As <+: As' → RV K F' As' r v → Q v H') → te σ H Q
def EvT (K : PySem.W.Frag) (tt : TT) (M : List MC) (E : List (Option Rv)) (M' : List MC) (b : Bool) : Prop :=
  ∀ (B : Base) (F : Hp) (As : List Addr) (σ : St) (H : Hp), Sta K B F As M σ E H → ∀ Q : Bool → Hp → Prop, (∀ F' As' H', Sta K B F' As' M' σ E H' → Ex F F' → As <+: As' → Q b H') → tt σ H Q
def EvA (K : PySem.W.Frag) (ta : TA) (M : List MC) (E : List (Option Rv)) (M' : List MC) (rs : List Rv) : Prop :=
  ∀ (B : Base) (F : Hp) (As : List Addr) (σ : St) (H : Hp), Sta K B F As M σ E H → ∀ Q : List V → Hp → Prop, (∀ vs F' As' H', Sta K B F' As' M' σ E H' → Ex F F' → As <+: As' → P2 (RV K F' As') rs vs → Q vs H') → ta σ H Q
def EvO (K : PySem.W.Frag) (to : TO) (M : List MC) (E : List (Option Rv)) (M' : List MC) (o : Option Int) : Prop :=
  ∀ (B : Base) (F : Hp) (As : List Addr) (σ : St) (H : Hp), Sta K B F As M σ E H → ∀ Q : Option Int → Hp → Prop, (∀ F' As' H', Sta K B F' As' M' σ E H' → Ex F F' → As <+: As' → Q o H') → to σ H Q
/-- an operator by values -/
def OpD (K : PySem.W.Frag) (op : R2) (M : List MC) (x y : Rv) (M' : List MC) (z : Rv) : Prop :=
  ∀ (B : Base) (F : Hp) (As : List Addr) (σ : St) (E : List (Option Rv)) (H : Hp) (v w : V), Sta K B F As M σ E H → RV K F As x v → RV K F As y w → ∀ Q : VK, (∀ u F' As' H', Sta K B F' As' M' σ E H' → Ex F F' → As <+: As' → RV K F' As' z u → Q u H') → op v w H Q
def UnD (K : PySem.W.Frag) (op : V → Hp → VK → Prop) (M : List MC) (x : Rv) (M' : List MC) (z : Rv) : Prop :=
  ∀ (B : Base) (F : Hp) (As : List Addr) (σ : St) (E : List (Option Rv)) (H : Hp) (v : V), Sta K B F As M σ E H → RV K F As x v → ∀ Q : VK, (∀ u F' As' H', Sta K B F' As' M' σ E H' → Ex F F' → As <+: As' → RV K F' As' z u → Q u H') → op v H Q
def CaD (K : PySem.W.Frag) (op : List V → Hp → VK → Prop) (M : List MC) (xs : List Rv) (M' : List MC) (z : Rv) : Prop :=
  ∀ (B : Base) (F : Hp) (As : List Addr) (σ : St) (E : List (Option Rv)) (H : Hp) (vs : List V), Sta K B F As M σ E H → P2 (RV K F As) xs vs → ∀ Q : VK, (∀ u F' As' H', Sta K B F' As' M' σ E H' → Ex F F' → As <+: As' → RV K F' As' z u → Q u H') → op vs H Q
def MeD (K : PySem.W.Frag) (op : V → List V → Hp → VK → Prop) (M : List MC) (x : Rv) (xs : List Rv) (M' : List MC) (z : Rv) : Prop :=
  ∀ (B : Base) (F : Hp) (As : List Addr) (σ : St) (E : List (Option Rv)) (H : Hp) (v : V) (vs : List V), Sta K B F As M σ E H → RV K F As x v → P2 (RV K F As) xs vs → ∀ Q : VK, (∀ u F' As' H', Sta K B F' As' M' σ E H' → Ex F F' → As <+: As' → RV K F' As' z u → Q u H') → op v vs H Q

section
variable {K : PySem.W.Frag} {M M0 M1 M2 M3 M' : List MC} {E : List (Option Rv)} {ta tb te tx : TE} {x y z r : Rv} {op : R2} {xs rs : List Rv} {b : Bool}
theorem RV.m {F F' : Hp} {As As' : List Addr} {v : V} (h : RV K F As r v) (e : Ex F F') (p : As <+: As') : RV K F' As' r v := h.mono e p
theorem P2.m {F F' : Hp} {As As' : List Addr} {vs : List V} (h : P2 (RV K F As) rs vs) (e : Ex F F') (p : As <+: As') : P2 (RV K F' As') rs vs := h.imp fun _ _ q => q.mono e p
/-! ### the making of these -/
theorem ev_var {i : Nat} (h : E[i]? = some (some r)) : EvD K (tVar i) M E M r := fun B F As σ H S Q q => by
  obtain ⟨v, e, rv⟩ := S.slots.2 i r h
  exact ⟨v, e, q v F As H S (Ex.refl F) (List.prefix_refl _) rv⟩
theorem ev_c {v : V} {d : D} (h : ∀ F, R K F d v) : EvD K (tC v) M E M (.dat d) := fun B F As σ H S Q q => q v F As H S (Ex.refl F) (List.prefix_refl _) (h F)
theorem ev_int {i : Int} : EvD K (tC (.int i)) M E M (rint i) := ev_c fun _ => .int i
theorem ev_bl {i : Bool} : EvD K (tC (.bl i)) M E M (rbl i) := ev_c fun _ => .bl i
theorem ev_str {s : Str} : EvD K (tC (.str s)) M E M (rstr s) := ev_c fun _ => .str s
theorem ev_non : EvD K (tC .non) M E M rnon := ev_c fun _ => .non
theorem ev_op (ha : EvD K ta M E M1 x) (hb : EvD K tb M1 E M2 y) (hr : OpD K op M2 x y M3 z) : EvD K (tOp op ta tb) M E M3 z := fun B F As σ H S Q q =>
  ha B F As σ H S _ fun v F1 As1 H1 S1 e1 p1 r1 => hb B F1 As1 σ H1 S1 _ fun w F2 As2 H2 S2 e2 p2 r2 =>
    hr B F2 As2 σ E H2 v w S2 (r1.m e2 p2) r2 Q fun u F3 As3 H3 S3 e3 p3 r3 => q u F3 As3 H3 S3 (e1.trans (e2.trans e3)) (p1.trans (p2.trans p3)) r3
theorem ev_un {f : V → Hp → VK → Prop} (ha : EvD K ta M E M1 x) (hr : UnD K f M1 x M2 z) : EvD K (tUn f ta) M E M2 z := fun B F As σ H S Q q =>
  ha B F As σ H S _ fun v F1 As1 H1 S1 e1 p1 r1 => hr B F1 As1 σ E H1 v S1 r1 Q fun u F3 As3 H3 S3 e3 p3 r3 => q u F3 As3 H3 S3 (e1.trans e3) (p1.trans p3) r3
theorem ea_nil : EvA K tNil M E M [] := fun B F As σ H S Q q => q [] F As H S (Ex.refl F) (List.prefix_refl _) P2.nil
theorem ea_cons {t : TA} (ha : EvD K ta M E M1 x) (h : EvA K t M1 E M2 xs) : EvA K (tCons ta t) M E M2 (x :: xs) := fun B F As σ H S Q q =>
  ha B F As σ H S _ fun v F1 As1 H1 S1 e1 p1 r1 => h B F1 As1 σ H1 S1 _ fun vs F2 As2 H2 S2 e2 p2 r2 => q _ F2 As2 H2 S2 (e1.trans e2) (p1.trans p2) (P2.cons (r1.m e2 p2) r2)
theorem ev_cb {f : List V → Hp → VK → Prop} {t : TA} (ha : EvA K t M E M1 xs) (hr : CaD K f M1 xs M2 z) : EvD K (tCB f t) M E M2 z := fun B F As σ H S Q q =>
  ha B F As σ H S _ fun v F1 As1 H1 S1 e1 p1 r1 => hr B F1 As1 σ E H1 v S1 r1 Q fun u F3 As3 H3 S3 e3 p3 r3 => q u F3 As3 H3 S3 (e1.trans e3) (p1.trans p3) r3
/-- the state's lists -/
def IsLst (M : List MC) (r : Rv) (ds : List D) : Prop := r = .dat (.lst ds) ∨ ∃ k, r = .cel k ∧ M[k]? = some (.lst ds)
def IsDct (M : List MC) (r : Rv) (kvs : List (Key × D)) : Prop := r = .dat (.dct kvs) ∨ ∃ k, r = .cel k ∧ M[k]? = some (.dct kvs)
theorem IsLst.view {B : Base} {F H : Hp} {As : List Addr} {σ : St} {ds : List D} {v : V} (h : IsLst M r ds) (S : Sta K B F As M σ E H) (q : RV K F As r v) : ∃ a vs, v = .ref a ∧ H a = some (.lst vs) ∧ P2 (R K F) ds vs := by
  rcases h with rfl | ⟨k, rfl, hk⟩
  · obtain ⟨a, vs, h1, h2, h3⟩ := R.lst_inv q
    exact ⟨a, vs, h1, S.ex _ _ h2, h3⟩
  · obtain ⟨a, ha, hv⟩ := q
    obtain ⟨_, o, ho, vs, rfl, h3⟩ := S.cell k a _ ha hk (by intro z; cases z)
    exact ⟨a, vs, hv, ho, h3⟩
theorem IsDct.view {B : Base} {F H : Hp} {As : List Addr} {σ : St} {kvs : List (Key × D)} {v : V} (h : IsDct M r kvs) (S : Sta K B F As M σ E H) (q : RV K F As r v) : ∃ a ws, v = .ref a ∧ H a = some (.dK ws) ∧ PK (R K F) kvs ws := by
  rcases h with rfl | ⟨k, rfl, hk⟩
  · obtain ⟨a, vs, h1, h2, h3⟩ := R.dct_inv q
    exact ⟨a, vs, h1, S.ex _ _ h2, h3⟩
  · obtain ⟨a, ha, hv⟩ := q
    obtain ⟨_, o, ho, vs, rfl, h3⟩ := S.cell k a _ ha hk (by intro z; cases z)
    exact ⟨a, vs, hv, ho, h3⟩
theorem sz {n : Nat} (h : n ≤ 16777216) : n ≤ sizeLine := by rw [sizeLine_eq]; exact h
theorem szlt {n : Nat} (h : n < 16777216) : n < sizeLine := by rw [sizeLine_eq]; exact h
theorem P2.dats {F : Hp} {As : List Addr} {ds : List D} {vs : List V} (h : P2 (RV K F As) (ds.map Rv.dat) vs) : P2 (R K F) ds vs :=
  ⟨by have := h.1; rwa [List.length_map] at this, fun i d v a b => h.2 i (.dat d) v (by rw [List.getElem?_map, a]; rfl) b⟩
/-- all arguments are data -/
def dats : List Rv → Option (List D)
  | [] => some []
  | .dat d :: rs => (dats rs).map (d :: ·)
  | .cel _ :: _ => none
theorem dats_eq : ∀ {rs : List Rv} {ds : List D}, dats rs = some ds → rs = ds.map Rv.dat
  | [], ds, h => by cases h; rfl
  | .dat d :: rs, ds, h => by
    unfold dats at h
    cases e : dats rs with
    | none => rw [e] at h; cases h
    | some es => rw [e] at h; cases h; rw [dats_eq e]; rfl
  | .cel _ :: _, ds, h => by cases h
theorem ev_tup {t : TA} {ds : List D} (ha : EvA K t M E M1 rs) (hd : dats rs = some ds) (hl : rs.length ≤ 16777216) : EvD K (tTup t) M E M1 (.dat (.tup ds)) := fun B F As σ H S Q q =>
  ha B F As σ H S _ fun vs F1 As1 H1 S1 e1 p1 r1 => ⟨sz (r1.1 ▸ hl), fun p hp => by
    obtain ⟨S2, e2⟩ := S1.newF (o := .tup vs) hp
    rw [dats_eq hd] at r1
    exact q _ _ As1 _ S2 (e1.trans e2) p1 (R.tup' upd_same (r1.dats.imp fun _ _ z => z.mono e2))⟩
theorem ev_lst {t : TA} {ds : List D} (ha : EvA K t M E M1 rs) (hd : dats rs = some ds) (hl : rs.length ≤ 16777216) : EvD K (tLst t) M E M1 (.dat (.lst ds)) := fun B F As σ H S Q q =>
  ha B F As σ H S _ fun vs F1 As1 H1 S1 e1 p1 r1 => ⟨sz (r1.1 ▸ hl), fun p hp => by
    obtain ⟨S2, e2⟩ := S1.newF (o := .lst vs) hp
    rw [dats_eq hd] at r1
    exact q _ _ As1 _ S2 (e1.trans e2) p1 (R.lst' upd_same (r1.dats.imp fun _ _ z => z.mono e2))⟩
/-- a display that will be changed: a new cell -/
theorem ev_lstM {t : TA} {ds : List D} (ha : EvA K t M E M1 rs) (hd : dats rs = some ds) (hl : rs.length ≤ 16777216) : EvD K (tLst t) M E (M1 ++ [.lst ds]) (.cel M1.length) := fun B F As σ H S Q q =>
  ha B F As σ H S _ fun vs F1 As1 H1 S1 e1 p1 r1 => ⟨sz (r1.1 ▸ hl), fun p hp => by
    rw [dats_eq hd] at r1
    have S2 := S1.newM (o := .lst vs) (mc := .lst ds) hp ⟨vs, rfl, r1.dats⟩
    exact q _ _ _ _ S2 e1 (p1.trans (List.prefix_append _ _)) ⟨p, by rw [List.getElem?_append_right (by rw [S1.len]; exact Nat.le_refl _), S1.len]; simp, rfl⟩⟩
theorem ev_dnewM : EvD K tDNewK M E (M ++ [.dct []]) (.cel M.length) := fun B F As σ H S Q q p hp => by
  have S2 := S.newM (o := .dK []) (mc := .dct []) hp ⟨[], rfl, P2.nil⟩
  exact q _ _ _ _ S2 (Ex.refl F) (List.prefix_append _ _) ⟨p, by rw [List.getElem?_append_right (by rw [S.len]; exact Nat.le_refl _), S.len]; simp, rfl⟩
theorem ev_dnew : EvD K tDNewK M E M (.dat (.dct [])) := fun B F As σ H S Q q p hp => by
  obtain ⟨S2, e2⟩ := S.newF (o := .dK []) hp
  exact q _ _ As _ S2 e2 (List.prefix_refl _) (R.dct' upd_same P2.nil)
/-! ### tests -/
theorem et_test (h : EvD K te M E M1 (rbl b)) : EvT K (tTest te) M E M1 b := fun B F As σ H S Q q => h B F As σ H S _ fun v F1 As1 H1 S1 e1 p1 r1 => ⟨b, R.bl_inv r1, q F1 As1 H1 S1 e1 p1⟩
theorem et_B (h : EvD K te M E M1 (rbl b)) : EvT K (tB te) M E M1 b := fun B F As σ H S Q q => h B F As σ H S _ fun v F1 As1 H1 S1 e1 p1 r1 => ⟨b, R.bl_inv r1, q F1 As1 H1 S1 e1 p1⟩
theorem et_and {t u : TT} {c : Bool} (h1 : EvT K t M E M1 b) (h2 : b = true → EvT K u M1 E M1 c) : EvT K (tAnd t u) M E M1 (b && c) := fun B F As σ H S Q q => h1 B F As σ H S _ fun F1 As1 H1 S1 e1 p1 => by
  cases b with
  | true => exact h2 rfl B F1 As1 σ H1 S1 Q fun F2 As2 H2 S2 e2 p2 => q F2 As2 H2 S2 (e1.trans e2) (p1.trans p2)
  | false => exact q F1 As1 H1 S1 e1 p1
theorem et_or {t u : TT} {c : Bool} (h1 : EvT K t M E M1 b) (h2 : b = false → EvT K u M1 E M1 c) : EvT K (tOr t u) M E M1 (b || c) := fun B F As σ H S Q q => h1 B F As σ H S _ fun F1 As1 H1 S1 e1 p1 => by
  cases b with
  | true => exact q F1 As1 H1 S1 e1 p1
  | false => exact h2 rfl B F1 As1 σ H1 S1 Q fun F2 As2 H2 S2 e2 p2 => q F2 As2 H2 S2 (e1.trans e2) (p1.trans p2)
theorem et_not {t : TT} (h : EvT K t M E M1 b) : EvT K (tNot t) M E M1 (!b) := fun B F As σ H S Q q => h B F As σ H S _ fun F1 As1 H1 S1 e1 p1 => q F1 As1 H1 S1 e1 p1
theorem et_is {t : TT} {c : Bool} (h : EvT K t M E M1 b) (e : b = c) : EvT K t M E M1 c := e ▸ h
theorem ev_is {r' : Rv} (h : EvD K te M E M1 r) (e : r = r') : EvD K te M E M1 r' := e ▸ h
theorem ev_isM {M' : List MC} (h : EvD K te M E M1 r) (e : M1 = M') : EvD K te M E M' r := e ▸ h
theorem ev_andV {c : Bool} (h1 : EvD K ta M E M1 (rbl b)) (h2 : b = true → EvD K tb M1 E M1 (rbl c)) : EvD K (tAndV ta tb) M E M1 (rbl (b && c)) := fun B F As σ H S Q q => h1 B F As σ H S _ fun v F1 As1 H1 S1 e1 p1 r1 => ⟨b, R.bl_inv r1, by
  cases b with
  | true => exact h2 rfl B F1 As1 σ H1 S1 Q fun v F2 As2 H2 S2 e2 p2 r2 => q v F2 As2 H2 S2 (e1.trans e2) (p1.trans p2) r2
  | false => exact q _ F1 As1 H1 S1 e1 p1 (.bl _)⟩
theorem ev_orV {c : Bool} (h1 : EvD K ta M E M1 (rbl b)) (h2 : b = false → EvD K tb M1 E M1 (rbl c)) : EvD K (tOrV ta tb) M E M1 (rbl (b || c)) := fun B F As σ H S Q q => h1 B F As σ H S _ fun v F1 As1 H1 S1 e1 p1 r1 => ⟨b, R.bl_inv r1, by
  cases b with
  | true => exact q _ F1 As1 H1 S1 e1 p1 (.bl _)
  | false => exact h2 rfl B F1 As1 σ H1 S1 Q fun v F2 As2 H2 S2 e2 p2 r2 => q v F2 As2 H2 S2 (e1.trans e2) (p1.trans p2) r2⟩
theorem ev_notV (h1 : EvD K ta M E M1 (rbl b)) : EvD K (tNotV ta) M E M1 (rbl (!b)) := fun B F As σ H S Q q => h1 B F As σ H S _ fun v F1 As1 H1 S1 e1 p1 r1 => ⟨b, R.bl_inv r1, q _ F1 As1 H1 S1 e1 p1 (.bl _)⟩
theorem ev_if {t : TT} (h : EvT K t M E M1 b) (h1 : b = true → EvD K ta M1 E M2 r) (h2 : b = false → EvD K tb M1 E M2 r) : EvD K (tIf t ta tb) M E M2 r := fun B F As σ H S Q q => h B F As σ H S _ fun F1 As1 H1 S1 e1 p1 => by
  cases b with
  | true => exact h1 rfl B F1 As1 σ H1 S1 Q fun v F2 As2 H2 S2 e2 p2 r2 => q v F2 As2 H2 S2 (e1.trans e2) (p1.trans p2) r2
  | false => exact h2 rfl B F1 As1 σ H1 S1 Q fun v F2 As2 H2 S2 e2 p2 r2 => q v F2 As2 H2 S2 (e1.trans e2) (p1.trans p2) r2
/-- both ways are data and leave the cells -/
theorem ev_ifD {t : TT} {d e : D} (h : EvT K t M E M1 b) (h1 : b = true → EvD K ta M1 E M1 (.dat d)) (h2 : b = false → EvD K tb M1 E M1 (.dat e)) : EvD K (tIf t ta tb) M E M1 (.dat (if b = true then d else e)) :=
  ev_if h (fun hb => by rw [if_pos hb]; exact h1 hb) (fun hb => by rw [if_neg (by rw [hb]; exact Bool.false_ne_true)]; exact h2 hb)
theorem ev_ifI {t : TT} {d e : Int} (h : EvT K t M E M1 b) (h1 : b = true → EvD K ta M1 E M1 (rint d)) (h2 : b = false → EvD K tb M1 E M1 (rint e)) : EvD K (tIf t ta tb) M E M1 (rint (if b = true then d else e)) :=
  ev_if h (fun hb => by rw [if_pos hb]; exact h1 hb) (fun hb => by rw [if_neg (by rw [hb]; exact Bool.false_ne_true)]; exact h2 hb)
def Rv.isNon : Rv → Bool
  | .dat .non => true
  | _ => false
theorem RV.isNon {F : Hp} {As : List Addr} {v : V} (h : RV K F As r v) : decide (v = .non) = r.isNon := by
  cases r with
  | cel k => obtain ⟨a, _, rfl⟩ := h; rfl
  | dat d =>
    have h : R K F d v := h
    cases h <;> rfl
theorem ev_isN (h : EvD K ta M E M1 r) : EvD K (tIsN ta) M E M1 (rbl r.isNon) := fun B F As σ H S Q q => h B F As σ H S _ fun v F1 As1 H1 S1 e1 p1 r1 => q _ F1 As1 H1 S1 e1 p1 (by
  show R K F1 (.bl r.isNon) (.bl (decide (v = .non)))
  rw [r1.isNon]; exact .bl _)
theorem ev_notN (h : EvD K ta M E M1 r) : EvD K (tNotN ta) M E M1 (rbl (!r.isNon)) := fun B F As σ H S Q q => h B F As σ H S _ fun v F1 As1 H1 S1 e1 p1 r1 => q _ F1 As1 H1 S1 e1 p1 (by
  show R K F1 (.bl (!r.isNon)) (.bl (!decide (v = .non)))
  rw [r1.isNon]; exact .bl _)
/-! ### operators -/
/-- an operator that leaves the heap -/
theorem OpD.pure (h : ∀ (B : Base) (F H : Hp) (As : List Addr) (σ : St) (E : List (Option Rv)) (v w : V), Sta K B F As M σ E H → RV K F As x v → RV K F As y w → ∀ Q : VK, (∀ u, RV K F As z u → Q u H) → op v w H Q) : OpD K op M x y M z :=
  fun B F As σ E H v w S r1 r2 Q q => h B F H As σ E v w S r1 r2 Q fun u ru => q u F As H S (Ex.refl F) (List.prefix_refl _) ru
theorem od_I0 {g : Int → Int → V} {i j : Int} {d : D} (h : ∀ F, R K F d (g i j)) : OpD K (rI0 g) M (rint i) (rint j) M (.dat d) :=
  OpD.pure fun B F H As σ E v w S r1 r2 Q q => ⟨i, j, R.int_inv r1, R.int_inv r2, q _ (h F)⟩
theorem od_I {C : Int → Int → Prop} {g : Int → Int → V} {i j : Int} {d : D} (hc : C i j) (h : ∀ F, R K F d (g i j)) : OpD K (rI C g) M (rint i) (rint j) M (.dat d) :=
  OpD.pure fun B F H As σ E v w S r1 r2 Q q => ⟨i, j, R.int_inv r1, R.int_inv r2, hc, q _ (h F)⟩
theorem od_int {g : Int → Int → Int} {i j : Int} : OpD K (rI0 fun i j => .int (g i j)) M (rint i) (rint j) M (rint (g i j)) := od_I0 fun _ => .int _
theorem od_bool {g : Int → Int → Bool} {i j : Int} : OpD K (rI0 fun i j => .bl (g i j)) M (rint i) (rint j) M (rbl (g i j)) := od_I0 fun _ => .bl _
theorem od_intC {C : Int → Int → Prop} {g : Int → Int → Int} {i j : Int} (hc : C i j) : OpD K (rI C fun i j => .int (g i j)) M (rint i) (rint j) M (rint (g i j)) := od_I hc fun _ => .int _
theorem od_eqI {i j : Int} : OpD K rEq M (rint i) (rint j) M (rbl (decide (i = j))) := OpD.pure fun B F H As σ E v w S r1 r2 Q q => by
  cases R.int_inv r1; cases R.int_inv r2
  exact ⟨rfl, q _ (by
    show R K F (.bl (decide (i = j))) (.bl (decide (V.int i = V.int j)))
    rw [show decide (V.int i = V.int j) = decide (i = j) by rw [Bool.eq_iff_iff]; simp]; exact .bl _)⟩
theorem od_neI {i j : Int} : OpD K rNe M (rint i) (rint j) M (rbl (!decide (i = j))) := OpD.pure fun B F H As σ E v w S r1 r2 Q q => by
  cases R.int_inv r1; cases R.int_inv r2
  exact ⟨rfl, q _ (by
    show R K F (.bl (!decide (i = j))) (.bl (!decide (V.int i = V.int j)))
    rw [show decide (V.int i = V.int j) = decide (i = j) by rw [Bool.eq_iff_iff]; simp]; exact .bl _)⟩
theorem od_eqS {i j : Str} : OpD K rEq M (rstr i) (rstr j) M (rbl (decide (i = j))) := OpD.pure fun B F H As σ E v w S r1 r2 Q q => by
  cases R.str_inv r1; cases R.str_inv r2
  exact ⟨rfl, q _ (by
    show R K F (.bl (decide (i = j))) (.bl (decide (V.str i = V.str j)))
    rw [show decide (V.str i = V.str j) = decide (i = j) by rw [Bool.eq_iff_iff]; simp]; exact .bl _)⟩
theorem od_neS {i j : Str} : OpD K rNe M (rstr i) (rstr j) M (rbl (!decide (i = j))) := OpD.pure fun B F H As σ E v w S r1 r2 Q q => by
  cases R.str_inv r1; cases R.str_inv r2
  exact ⟨rfl, q _ (by
    show R K F (.bl (!decide (i = j))) (.bl (!decide (V.str i = V.str j)))
    rw [show decide (V.str i = V.str j) = decide (i = j) by rw [Bool.eq_iff_iff]; simp]; exact .bl _)⟩
theorem od_eqB {i j : Bool} : OpD K rEq M (rbl i) (rbl j) M (rbl (decide (i = j))) := OpD.pure fun B F H As σ E v w S r1 r2 Q q => by
  cases R.bl_inv r1; cases R.bl_inv r2
  exact ⟨rfl, q _ (by
    show R K F (.bl (decide (i = j))) (.bl (decide (V.bl i = V.bl j)))
    rw [show decide (V.bl i = V.bl j) = decide (i = j) by rw [Bool.eq_iff_iff]; simp]; exact .bl _)⟩
theorem ud_neg {i : Int} : UnD K (rU fun i => .int (-i)) M (rint i) M (rint (-i)) := fun B F As σ E H v S r1 Q q => ⟨i, R.int_inv r1, q _ F As H S (Ex.refl F) (List.prefix_refl _) (.int _)⟩
/-! ### places -/
theorem od_ixL {ds : List D} {i : Int} {d : D} (h : IsLst M x ds) (ha : atI ds i = some d) : OpD K (rIxL K) M x (rint i) M (.dat d) := OpD.pure fun B F H As σ E v w S r1 r2 Q q => by
  obtain ⟨a, vs, rfl, h2, h3⟩ := h.view S r1
  cases R.int_inv r2
  unfold atI at ha
  rw [h3.1] at ha
  cases e : ixN vs.length i with
  | none => rw [e] at ha; cases ha
  | some j =>
    rw [e] at ha
    obtain ⟨u, hu, ru⟩ := h3.get (show ds[j]? = some d from ha)
    exact ⟨a, vs, i, u, rfl, rfl, SqL.of h2, by unfold atI; rw [e]; exact hu, q u ru⟩
theorem od_ixT {ds : List D} {i : Int} {d : D} (ha : atI ds i = some d) : OpD K (rIxT K) M (.dat (.tup ds)) (rint i) M (.dat d) := OpD.pure fun B F H As σ E v w S r1 r2 Q q => by
  obtain ⟨a, vs, rfl, h2, h3⟩ := R.tup_inv r1
  cases R.int_inv r2
  unfold atI at ha
  rw [h3.1] at ha
  cases e : ixN vs.length i with
  | none => rw [e] at ha; cases ha
  | some j =>
    rw [e] at ha
    obtain ⟨u, hu, ru⟩ := h3.get (show ds[j]? = some d from ha)
    exact ⟨a, vs, i, u, rfl, rfl, SqT.of (S.ex _ _ h2), by unfold atI; rw [e]; exact hu, q u ru⟩
theorem atI_of {α : Type} {xs : List α} {i : Int} {x : α} (h0 : 0 ≤ i) (h : xs[i.toNat]? = some x) : atI xs i = some x := by
  have := (List.getElem?_eq_some_iff.mp h).1
  unfold atI ixN
  rw [if_pos h0, if_pos (by omega)]
  exact h
/-- the number at a place -/
def gI (ns : List Int) (i : Int) : Int := ns.getD i.toNat 0
theorem gI_at {ns : List Int} {i : Int} (h0 : 0 ≤ i) (h1 : i < ns.length) : atI (ns.map D.int) i = some (.int (gI ns i)) := by
  refine atI_of h0 ?_
  have h : i.toNat < ns.length := by omega
  rw [List.getElem?_map, List.getElem?_eq_getElem h]
  show some (D.int _) = some (D.int (ns.getD i.toNat 0))
  rw [List.getD_eq_getElem?_getD, List.getElem?_eq_getElem h]; rfl
theorem od_ixI {ns : List Int} {i : Int} (h : IsLst M x (ns.map D.int)) (h0 : 0 ≤ i) (h1 : i < ns.length) : OpD K (rIxL K) M x (rint i) M (rint (gI ns i)) := od_ixL h (gI_at h0 h1)
theorem od_ixScr {ns : List Int} {i : Int} (h0 : 0 ≤ i) (h1 : i < ns.length) : OpD K (rIxL K) M (.dat (.scr ns)) (rint i) M (rint (gI ns i)) := OpD.pure fun B F H As σ E v w S r1 r2 Q q => by
  obtain ⟨a, rfl, h2⟩ := R.scr_inv r1
  cases R.int_inv r2
  refine ⟨a, _, i, .int (gI ns i), rfl, rfl, Evl.ex_l S.ex h2, atI_of h0 ?_, q _ (.int _)⟩
  have h : i.toNat < ns.length := by omega
  rw [List.getElem?_map, List.getElem?_eq_getElem h]
  show some (V.int _) = some (V.int (ns.getD i.toNat 0))
  rw [List.getD_eq_getElem?_getD, List.getElem?_eq_getElem h]; rfl
/-! ### lists made of lists -/
theorem ev_lstNew {B : Base} {F H : Hp} {As : List Addr} {σ : St} {ds : List D} {vs : List V} {p : Addr} (S : Sta K B F As M σ E H) (hp : H p = none) (h : P2 (R K F) ds vs) {Q : VK} (q : ∀ u F' As' H', Sta K B F' As' M σ E H' → Ex F F' → As <+: As' → RV K F' As' (.dat (.lst ds)) u → Q u H') : Q (.ref p) (upd H p (.lst vs)) := by
  obtain ⟨S2, e2⟩ := S.newF (o := .lst vs) hp
  exact q _ _ As _ S2 e2 (List.prefix_refl _) (R.lst' upd_same (h.imp fun _ _ z => z.mono e2))
theorem od_cat {ds es : List D} (h1 : IsLst M x ds) (h2 : IsLst M y es) (hl : ds.length + es.length ≤ 16777216) : OpD K rCat M x y M (.dat (.lst (ds ++ es))) := fun B F As σ E H v w S r1 r2 Q q => by
  obtain ⟨a, vs, rfl, ha, pa⟩ := h1.view S r1
  obtain ⟨c, ws, rfl, hc, pc⟩ := h2.view S r2
  exact ⟨a, c, vs, ws, rfl, rfl, ha, hc, sz (by rw [← pa.1, ← pc.1]; exact hl), fun p hp => ev_lstNew S hp (pa.append pc) q⟩
def repD (ds : List D) (n : Nat) : List D := (List.replicate n ds).flatten
theorem P2.rep {F : Hp} {ds : List D} {vs : List V} (h : P2 (R K F) ds vs) : ∀ n : Nat, P2 (R K F) (List.replicate n ds).flatten (List.replicate n vs).flatten
  | 0 => P2.nil
  | n + 1 => by
    rw [List.replicate_succ, List.flatten_cons, List.replicate_succ, List.flatten_cons]
    exact h.append (P2.rep h n)
end
end DL
set_option Elab.async false
set_option linter.all false
set_option maxRecDepth 100000
set_option maxHeartbeats 2000000
/-! DL, third part: built-ins, slices, dicts, comprehensions. -/
namespace DL
open PySem L2
open Evl (Ex)
section
variable {K : PySem.W.Frag} {M M0 M1 M2 M3 M' : List MC} {E : List (Option Rv)} {ta tb te tx : TE} {x y z r : Rv} {op : R2} {xs rs : List Rv} {b : Bool}
theorem od_rep {ds : List D} {k : Int} (h1 : IsLst M x ds) (hk : -(2 ^ 63) ≤ k ∧ k < 2 ^ 63) (hl : ds.length * k.toNat ≤ 16777216) : OpD K rRep M x (rint k) M (.dat (.lst (List.replicate k.toNat ds).flatten)) := fun B F As σ E H v w S r1 r2 Q q => by
  obtain ⟨a, vs, rfl, ha, pa⟩ := h1.view S r1
  exact ⟨a, k, vs, rfl, R.int_inv r2, ha, hk.1, hk.2, sz (by rw [← pa.1]; exact hl), fun p hp => ev_lstNew S hp (pa.rep _) q⟩
theorem flat_rep {α : Type} (x : α) : ∀ n : Nat, (List.replicate n [x]).flatten = List.replicate n x
  | 0 => rfl
  | n + 1 => by rw [List.replicate_succ, List.flatten_cons, flat_rep x n]; rfl
/-! ### built-ins by values -/
theorem CaD.pure {f : List V → Hp → VK → Prop} (h : ∀ (B : Base) (F H : Hp) (As : List Addr) (σ : St) (E : List (Option Rv)) (vs : List V), Sta K B F As M σ E H → P2 (RV K F As) xs vs → ∀ Q : VK, (∀ u, RV K F As z u → Q u H) → f vs H Q) : CaD K f M xs M z :=
  fun B F As σ E H v S r1 Q q => h B F H As σ E v S r1 Q fun u ru => q u F As H S (Ex.refl F) (List.prefix_refl _) ru
theorem P2.one {F : Hp} {As : List Addr} {vs : List V} (h : P2 (RV K F As) [x] vs) : ∃ v, vs = [v] ∧ RV K F As x v := by
  obtain ⟨v, ws, rfl, hv, h2⟩ := h.inv_cons
  rw [h2.inv_nil]
  exact ⟨v, rfl, hv⟩
theorem P2.two {F : Hp} {As : List Addr} {vs : List V} (h : P2 (RV K F As) [x, y] vs) : ∃ v w, vs = [v, w] ∧ RV K F As x v ∧ RV K F As y w := by
  obtain ⟨v, ws, rfl, hv, h2⟩ := h.inv_cons
  obtain ⟨w, rfl, hw⟩ := h2.one
  exact ⟨v, w, rfl, hv, hw⟩
theorem cd_len {ds : List D} (h : IsLst M x ds) : CaD K (fun xs H Q => ∃ p ys, xs = [V.ref p] ∧ (SqL K H p ys ∨ SqT K H p ys) ∧ Q (V.int (ys.length : Nat)) H) M [x] M (rint ds.length) := CaD.pure fun B F H As σ E vs S r1 Q q => by
  obtain ⟨v, rfl, hv⟩ := r1.one
  obtain ⟨a, ws, rfl, ha, pa⟩ := h.view S hv
  exact ⟨a, ws, rfl, .inl (SqL.of ha), q _ (by rw [← pa.1]; exact .int _)⟩
theorem cd_lenI {ns : List Int} (h : IsLst M x (ns.map D.int)) : CaD K (fun xs H Q => ∃ p ys, xs = [V.ref p] ∧ (SqL K H p ys ∨ SqT K H p ys) ∧ Q (V.int (ys.length : Nat)) H) M [x] M (rint ns.length) := by
  have := cd_len (K := K) h
  rwa [List.length_map] at this
theorem cd_lenT {ds : List D} : CaD K (fun xs H Q => ∃ p ys, xs = [V.ref p] ∧ (SqL K H p ys ∨ SqT K H p ys) ∧ Q (V.int (ys.length : Nat)) H) M [.dat (.tup ds)] M (rint ds.length) := CaD.pure fun B F H As σ E vs S r1 Q q => by
  obtain ⟨v, rfl, hv⟩ := r1.one
  obtain ⟨a, ws, rfl, ha, pa⟩ := R.tup_inv hv
  exact ⟨a, ws, rfl, .inr (SqT.of (S.ex _ _ ha)), q _ (by rw [← pa.1]; exact .int _)⟩
theorem cd_lenScr {ns : List Int} : CaD K (fun xs H Q => ∃ p ys, xs = [V.ref p] ∧ (SqL K H p ys ∨ SqT K H p ys) ∧ Q (V.int (ys.length : Nat)) H) M [.dat (.scr ns)] M (rint ns.length) := CaD.pure fun B F H As σ E vs S r1 Q q => by
  obtain ⟨v, rfl, hv⟩ := r1.one
  obtain ⟨a, rfl, ha⟩ := R.scr_inv hv
  exact ⟨a, _, rfl, .inl (Evl.ex_l S.ex ha), q _ (by rw [List.length_map]; exact .int _)⟩
theorem cd_lenD {kvs : List (Key × D)} (h : IsDct M x kvs) : CaD K (fun xs H Q => ∃ a kvs, xs = [V.ref a] ∧ H a = some (HO.dK kvs) ∧ Q (V.int (kvs.length : Nat)) H) M [x] M (rint kvs.length) := CaD.pure fun B F H As σ E vs S r1 Q q => by
  obtain ⟨v, rfl, hv⟩ := r1.one
  obtain ⟨a, ws, rfl, ha, pa⟩ := h.view S hv
  exact ⟨a, ws, rfl, ha, q _ (by rw [← pa.1]; exact .int _)⟩
theorem cd_abs {i : Int} : CaD K (fun xs H Q => ∃ i, xs = [V.int i] ∧ Q (V.int (if i < 0 then -i else i)) H) M [rint i] M (rint (if i < 0 then -i else i)) := CaD.pure fun B F H As σ E vs S r1 Q q => by
  obtain ⟨v, rfl, hv⟩ := r1.one
  cases R.int_inv hv
  exact ⟨i, rfl, q _ (.int _)⟩
theorem cd_max2 {i j : Int} : CaD K (fun xs H Q => ∃ i j, xs = [V.int i, V.int j] ∧ Q (V.int (if j > i then j else i)) H) M [rint i, rint j] M (rint (if j > i then j else i)) := CaD.pure fun B F H As σ E vs S r1 Q q => by
  obtain ⟨v, w, rfl, hv, hw⟩ := r1.two
  cases R.int_inv hv; cases R.int_inv hw
  exact ⟨i, j, rfl, q _ (.int _)⟩
theorem cd_min2 {i j : Int} : CaD K (fun xs H Q => ∃ i j, xs = [V.int i, V.int j] ∧ Q (V.int (if j < i then j else i)) H) M [rint i, rint j] M (rint (if j < i then j else i)) := CaD.pure fun B F H As σ E vs S r1 Q q => by
  obtain ⟨v, w, rfl, hv, hw⟩ := r1.two
  cases R.int_inv hv; cases R.int_inv hw
  exact ⟨i, j, rfl, q _ (.int _)⟩
theorem cd_int {i : Int} : CaD K (fun xs H Q => (∃ i, xs = [V.int i] ∧ Q (V.int i) H) ∨ ∃ k, xs = [V.bl k] ∧ Q (V.int (if k = true then 1 else 0)) H) M [rint i] M (rint i) := CaD.pure fun B F H As σ E vs S r1 Q q => by
  obtain ⟨v, rfl, hv⟩ := r1.one
  cases R.int_inv hv
  exact .inl ⟨i, rfl, q _ (.int _)⟩
theorem cd_intB {i : Bool} : CaD K (fun xs H Q => (∃ i, xs = [V.int i] ∧ Q (V.int i) H) ∨ ∃ k, xs = [V.bl k] ∧ Q (V.int (if k = true then 1 else 0)) H) M [rbl i] M (rint (if i = true then 1 else 0)) := CaD.pure fun B F H As σ E vs S r1 Q q => by
  obtain ⟨v, rfl, hv⟩ := r1.one
  cases R.bl_inv hv
  exact .inr ⟨i, rfl, q _ (.int _)⟩
theorem cd_sum {ns : List Int} (h : IsLst M x (ns.map D.int)) : CaD K (rSum K) M [x] M (rint ns.sum) := CaD.pure fun B F H As σ E vs S r1 Q q => by
  obtain ⟨v, rfl, hv⟩ := r1.one
  obtain ⟨a, ws, rfl, ha, pa⟩ := h.view S hv
  exact ⟨a, ns, rfl, SqL.of (by rw [← pa.ints]; exact ha), q _ (.int _)⟩
/-- the greatest, the least of a list -/
def mxI : List Int → Int
  | [] => 0
  | n :: ns => ns.foldl (fun m k => if k > m then k else m) n
def mnI : List Int → Int
  | [] => 0
  | n :: ns => ns.foldl (fun m k => if k < m then k else m) n
theorem mx_fold : ∀ (ns : List Int) (n : Int), (ns.foldl (fun m k => if k > m then k else m) n = n ∨ ns.foldl (fun m k => if k > m then k else m) n ∈ ns) ∧ n ≤ ns.foldl (fun m k => if k > m then k else m) n ∧ ∀ k ∈ ns, k ≤ ns.foldl (fun m k => if k > m then k else m) n
  | [], n => ⟨.inl rfl, Int.le_refl _, fun k h => by cases h⟩
  | a :: ns, n => by
    rw [List.foldl_cons]
    by_cases c : a > n
    · rw [if_pos c]
      obtain ⟨h1, h2, h3⟩ := mx_fold ns a
      refine ⟨?_, by omega, fun k hk => ?_⟩
      · rcases h1 with h1 | h1
        · rw [h1]; exact .inr List.mem_cons_self
        · exact .inr (List.mem_cons_of_mem _ h1)
      · rcases List.mem_cons.mp hk with rfl | hk
        · exact h2
        · exact h3 k hk
    · rw [if_neg c]
      obtain ⟨h1, h2, h3⟩ := mx_fold ns n
      refine ⟨?_, h2, fun k hk => ?_⟩
      · rcases h1 with h1 | h1
        · exact .inl h1
        · exact .inr (List.mem_cons_of_mem _ h1)
      · rcases List.mem_cons.mp hk with rfl | hk
        · omega
        · exact h3 k hk
theorem mn_fold : ∀ (ns : List Int) (n : Int), (ns.foldl (fun m k => if k < m then k else m) n = n ∨ ns.foldl (fun m k => if k < m then k else m) n ∈ ns) ∧ ns.foldl (fun m k => if k < m then k else m) n ≤ n ∧ ∀ k ∈ ns, ns.foldl (fun m k => if k < m then k else m) n ≤ k
  | [], n => ⟨.inl rfl, Int.le_refl _, fun k h => by cases h⟩
  | a :: ns, n => by
    rw [List.foldl_cons]
    by_cases c : a < n
    · rw [if_pos c]
      obtain ⟨h1, h2, h3⟩ := mn_fold ns a
      refine ⟨?_, by omega, fun k hk => ?_⟩
      · rcases h1 with h1 | h1
        · rw [h1]; exact .inr List.mem_cons_self
        · exact .inr (List.mem_cons_of_mem _ h1)
      · rcases List.mem_cons.mp hk with rfl | hk
        · exact h2
        · exact h3 k hk
    · rw [if_neg c]
      obtain ⟨h1, h2, h3⟩ := mn_fold ns n
      refine ⟨?_, h2, fun k hk => ?_⟩
      · rcases h1 with h1 | h1
        · exact .inl h1
        · exact .inr (List.mem_cons_of_mem _ h1)
      · rcases List.mem_cons.mp hk with rfl | hk
        · omega
        · exact h3 k hk
theorem mxI_mem {ns : List Int} (h : ns ≠ []) : mxI ns ∈ ns := by
  cases ns with
  | nil => exact absurd rfl h
  | cons n ns =>
    rcases (mx_fold ns n).1 with e | e
    · show ns.foldl _ n ∈ n :: ns
      rw [e]; exact List.mem_cons_self
    · exact List.mem_cons_of_mem _ e
theorem mxI_ge {ns : List Int} {k : Int} (h : k ∈ ns) : k ≤ mxI ns := by
  cases ns with
  | nil => cases h
  | cons n ns =>
    rcases List.mem_cons.mp h with rfl | h
    · exact (mx_fold ns k).2.1
    · exact (mx_fold ns n).2.2 k h
theorem mnI_mem {ns : List Int} (h : ns ≠ []) : mnI ns ∈ ns := by
  cases ns with
  | nil => exact absurd rfl h
  | cons n ns =>
    rcases (mn_fold ns n).1 with e | e
    · show ns.foldl _ n ∈ n :: ns
      rw [e]; exact List.mem_cons_self
    · exact List.mem_cons_of_mem _ e
theorem mnI_le {ns : List Int} {k : Int} (h : k ∈ ns) : mnI ns ≤ k := by
  cases ns with
  | nil => cases h
  | cons n ns =>
    rcases List.mem_cons.mp h with rfl | h
    · exact (mn_fold ns k).2.1
    · exact (mn_fold ns n).2.2 k h
theorem cd_max {ns : List Int} (h : IsLst M x (ns.map D.int)) (h0 : 0 < ns.length) : CaD K (rMax K) M [x] M (rint (mxI ns)) := CaD.pure fun B F H As σ E vs S r1 Q q => by
  obtain ⟨v, rfl, hv⟩ := r1.one
  obtain ⟨a, ws, rfl, ha, pa⟩ := h.view S hv
  refine ⟨a, ns, rfl, SqL.of (by rw [← pa.ints]; exact ha), h0, fun m hm hle => q _ ?_⟩
  have e : m = mxI ns := Int.le_antisymm (mxI_ge hm) (hle _ (mxI_mem (by rintro rfl; exact absurd h0 (by decide))))
  rw [e]; exact .int _
theorem cd_min {ns : List Int} (h : IsLst M x (ns.map D.int)) (h0 : 0 < ns.length) : CaD K (rMin K) M [x] M (rint (mnI ns)) := CaD.pure fun B F H As σ E vs S r1 Q q => by
  obtain ⟨v, rfl, hv⟩ := r1.one
  obtain ⟨a, ws, rfl, ha, pa⟩ := h.view S hv
  refine ⟨a, ns, rfl, SqL.of (by rw [← pa.ints]; exact ha), h0, fun m hm hle => q _ ?_⟩
  have e : m = mnI ns := Int.le_antisymm (hle _ (mnI_mem (by rintro rfl; exact absurd h0 (by decide)))) (mnI_le hm)
  rw [e]; exact .int _
/-- sorted, upward -/
def sortI (ns : List Int) : List Int := ns.mergeSort fun a b => decide (a ≤ b)
theorem sortI_perm (ns : List Int) : (sortI ns).Perm ns := List.mergeSort_perm _ _
theorem sortI_pair (ns : List Int) : (sortI ns).Pairwise (· ≤ ·) := by
  have h := List.pairwise_mergeSort (le := fun (a b : Int) => decide (a ≤ b)) (fun a b c h1 h2 => by simp at *; omega) (fun a b => by simp; omega) ns
  exact h.imp fun h => by simpa using h
theorem sortI_unique {ms ns : List Int} (h : ms.Perm ns) (p : ms.Pairwise (· ≤ ·)) : ms = sortI ns := (h.trans (sortI_perm ns).symm).eq_of_pairwise (fun x y _ _ h1 h2 => Int.le_antisymm h1 h2) p (sortI_pair ns)
theorem sortI_length (ns : List Int) : (sortI ns).length = ns.length := (sortI_perm ns).length_eq
theorem mem_sortI {n : Int} {ns : List Int} : n ∈ sortI ns ↔ n ∈ ns := (sortI_perm ns).mem_iff
theorem cd_sorted {ns : List Int} (h : IsLst M x (ns.map D.int)) : CaD K (rSortedI K) M [x] M (rints (sortI ns)) := fun B F As σ E H vs S r1 Q q => by
  obtain ⟨v, rfl, hv⟩ := r1.one
  obtain ⟨a, ws, rfl, ha, pa⟩ := h.view S hv
  refine ⟨a, ns, rfl, SqL.of (by rw [← pa.ints]; exact ha), fun ns' p hp hs hn => ?_⟩
  rw [sortI_unique hp hs]
  exact ev_lstNew S hn (P2.ofInts _) q
theorem cd_list {ds : List D} (h : IsLst M x ds) : CaD K (fun xs H Q => ∃ p ys, xs = [V.ref p] ∧ (SqL K H p ys ∨ SqT K H p ys) ∧ ∀ (l : Addr), H l = none → Q (V.ref l) (upd H l (HO.lst ys))) M [x] M (.dat (.lst ds)) := fun B F As σ E H vs S r1 Q q => by
  obtain ⟨v, rfl, hv⟩ := r1.one
  obtain ⟨a, ws, rfl, ha, pa⟩ := h.view S hv
  exact ⟨a, ws, rfl, .inl (SqL.of ha), fun p hp => ev_lstNew S hp pa q⟩
theorem cd_listT {ds : List D} : CaD K (fun xs H Q => ∃ p ys, xs = [V.ref p] ∧ (SqL K H p ys ∨ SqT K H p ys) ∧ ∀ (l : Addr), H l = none → Q (V.ref l) (upd H l (HO.lst ys))) M [.dat (.tup ds)] M (.dat (.lst ds)) := fun B F As σ E H vs S r1 Q q => by
  obtain ⟨v, rfl, hv⟩ := r1.one
  obtain ⟨a, ws, rfl, ha, pa⟩ := R.tup_inv hv
  exact ⟨a, ws, rfl, .inr (SqT.of (S.ex _ _ ha)), fun p hp => ev_lstNew S hp pa q⟩
/-- list(xs), to be changed -/
theorem cd_listM {ds : List D} (h : IsLst M x ds) : CaD K (fun xs H Q => ∃ p ys, xs = [V.ref p] ∧ (SqL K H p ys ∨ SqT K H p ys) ∧ ∀ (l : Addr), H l = none → Q (V.ref l) (upd H l (HO.lst ys))) M [x] (M ++ [.lst ds]) (.cel M.length) := fun B F As σ E H vs S r1 Q q => by
  obtain ⟨v, rfl, hv⟩ := r1.one
  obtain ⟨a, ws, rfl, ha, pa⟩ := h.view S hv
  refine ⟨a, ws, rfl, .inl (SqL.of ha), fun p hp => ?_⟩
  have S2 := S.newM (o := .lst ws) (mc := .lst ds) hp ⟨ws, rfl, pa⟩
  exact q _ _ _ _ S2 (Ex.refl F) (List.prefix_append _ _) ⟨p, by rw [List.getElem?_append_right (by rw [S.len]; exact Nat.le_refl _), S.len]; simp, rfl⟩
theorem cd_tuple {ds : List D} (h : IsLst M x ds) : CaD K (fun xs H Q => ∃ p ys, xs = [V.ref p] ∧ ((SqL K H p ys ∧ ∀ (l : Addr), H l = none → Q (V.ref l) (upd H l (HO.tup ys))) ∨ SqT K H p ys ∧ Q (V.ref p) H)) M [x] M (.dat (.tup ds)) := fun B F As σ E H vs S r1 Q q => by
  obtain ⟨v, rfl, hv⟩ := r1.one
  obtain ⟨a, ws, rfl, ha, pa⟩ := h.view S hv
  refine ⟨a, ws, rfl, .inl ⟨SqL.of ha, fun p hp => ?_⟩⟩
  obtain ⟨S2, e2⟩ := S.newF (o := .tup ws) hp
  exact q _ _ As _ S2 e2 (List.prefix_refl _) (R.tup' upd_same (pa.imp fun _ _ z => z.mono e2))
theorem cd_all {bs : List Bool} (h : IsLst M x (bs.map D.bl)) : CaD K (rAll K) M [x] M (rbl (bs.all id)) := CaD.pure fun B F H As σ E vs S r1 Q q => by
  obtain ⟨v, rfl, hv⟩ := r1.one
  obtain ⟨a, ws, rfl, ha, pa⟩ := h.view S hv
  exact ⟨a, bs, rfl, SqL.of (by rw [← pa.bls]; exact ha), q _ (.bl _)⟩
theorem cd_any {bs : List Bool} (h : IsLst M x (bs.map D.bl)) : CaD K (rAny K) M [x] M (rbl (bs.any id)) := CaD.pure fun B F H As σ E vs S r1 Q q => by
  obtain ⟨v, rfl, hv⟩ := r1.one
  obtain ⟨a, ws, rfl, ha, pa⟩ := h.view S hv
  exact ⟨a, bs, rfl, SqL.of (by rw [← pa.bls]; exact ha), q _ (.bl _)⟩
/-! ### isinstance -/
def D.ty : D → Option String
  | .non => some "NoneType" | .bl _ => some "bool" | .int _ => some "int" | .str _ => some "str" | .lst _ => some "list" | .tup _ => some "tuple" | .dct _ => some "dict" | _ => none
theorem R.ty {F H : Hp} {d : D} {v : V} {t : String} (h : R K F d v) (e : Ex F H) (ht : d.ty = some t) : TyX K H v (.type t) := by
  cases h with
  | non => cases ht; exact .base .non
  | bl b => cases ht; exact .base (.bl b)
  | int i => cases ht; exact .base (.int i)
  | str s => cases ht; exact .base (.str s)
  | lst h _ _ => cases ht; exact .base (.lst (e _ _ h))
  | tup h _ _ => cases ht; exact .base (.tup (e _ _ h))
  | dct h _ _ => cases ht; exact .base (.dK (e _ _ h))
  | ins h _ _ => cases ht
  | err _ _ _ => cases ht
  | scr h => cases ht
/-- isinstance(e, T), T a built-in class by its name -/
theorem ev_isi {d : D} {t u : String} {b : Bool} (ha : EvD K ta M E M1 (.dat d)) (ht : d.ty = some t) (hb : kitB t u = some b) : EvD K (tCB (rIsi K) (tCons ta (tCons (tC (.ty u)) tNil))) M E M1 (rbl b) := fun B F As σ H S Q q =>
  ha B F As σ H S _ fun v F1 As1 H1 S1 e1 p1 r1 => ⟨v, .ty u, .type t, .type u, b, rfl, .ty u, R.ty r1 S1.ex ht, kit_ty hb, q _ F1 As1 H1 S1 e1 p1 (.bl b)⟩
/-! ### slices -/
theorem eo_none : EvO K tNoPart M E M none := fun B F As σ H S Q q => q F As H S (Ex.refl F) (List.prefix_refl _)
theorem eo_some {i : Int} (h : EvD K te M E M1 (rint i)) : EvO K (tPart te) M E M1 (some i) := fun B F As σ H S Q q => h B F As σ H S _ fun v F1 As1 H1 S1 e1 p1 r1 => ⟨i, R.int_inv r1, q F1 As1 H1 S1 e1 p1⟩
/-- xs[lo:hi] as data -/
def cutD {α : Type} (xs : List α) (lo hi : Option Int) : List α := (xs.drop (HT.sIx xs.length 0 lo)).take (HT.sIx xs.length xs.length hi - HT.sIx xs.length 0 lo)
theorem P2.cut {F : Hp} {ds : List D} {vs : List V} (h : P2 (R K F) ds vs) (lo hi : Option Int) : P2 (R K F) (cutD ds lo hi) (cutV vs lo hi) := by
  unfold cutD cutV
  rw [h.1]
  exact (h.drop _).take _
theorem cutD_map {α β : Type} (f : α → β) (xs : List α) (lo hi : Option Int) : cutD (xs.map f) lo hi = (cutD xs lo hi).map f := by
  unfold cutD
  rw [List.length_map, List.map_take, List.map_drop]
theorem ev_slice {tl th : TO} {ds : List D} {lo hi : Option Int} (ha : EvD K ta M E M1 x) (hl : EvO K tl M1 E M2 lo) (hh : EvO K th M2 E M3 hi) (h : IsLst M3 x ds) : EvD K (tSl (rSlL K) ta tl th) M E M3 (.dat (.lst (cutD ds lo hi))) := fun B F As σ H S Q q =>
  ha B F As σ H S _ fun v F1 As1 H1 S1 e1 p1 r1 => hl B F1 As1 σ H1 S1 _ fun F2 As2 H2 S2 e2 p2 => hh B F2 As2 σ H2 S2 _ fun F3 As3 H3 S3 e3 p3 => by
    obtain ⟨a, vs, rfl, ha, pa⟩ := h.view S3 (r1.m (e2.trans e3) (p2.trans p3))
    exact ⟨a, vs, rfl, SqL.of ha, fun p hp => ev_lstNew S3 hp (pa.cut lo hi) fun u F4 As4 H4 S4 e4 p4 r4 => q u F4 As4 H4 S4 ((e1.trans (e2.trans e3)).trans e4) ((p1.trans (p2.trans p3)).trans p4) r4⟩
theorem ev_sliceI {tl th : TO} {ns : List Int} {lo hi : Option Int} (ha : EvD K ta M E M1 x) (hl : EvO K tl M1 E M2 lo) (hh : EvO K th M2 E M3 hi) (h : IsLst M3 x (ns.map D.int)) : EvD K (tSl (rSlL K) ta tl th) M E M3 (rints (cutD ns lo hi)) := by
  have := ev_slice ha hl hh h
  rwa [cutD_map] at this
theorem ev_sliceScr {tl th : TO} {ns : List Int} {lo hi : Option Int} (ha : EvD K ta M E M1 (.dat (.scr ns))) (hl : EvO K tl M1 E M2 lo) (hh : EvO K th M2 E M3 hi) : EvD K (tSl (rSlL K) ta tl th) M E M3 (rints (cutD ns lo hi)) := fun B F As σ H S Q q =>
  ha B F As σ H S _ fun v F1 As1 H1 S1 e1 p1 r1 => hl B F1 As1 σ H1 S1 _ fun F2 As2 H2 S2 e2 p2 => hh B F2 As2 σ H2 S2 _ fun F3 As3 H3 S3 e3 p3 => by
    obtain ⟨a, rfl, ha⟩ := R.scr_inv r1
    refine ⟨a, _, rfl, Evl.ex_l S3.ex (Evl.ex_l (e2.trans e3) ha), fun p hp => ?_⟩
    have e : cutV (ns.map V.int) lo hi = (cutD ns lo hi).map V.int := by
      unfold cutV cutD
      rw [List.length_map, List.map_take, List.map_drop]
    rw [e]
    exact ev_lstNew S3 hp (P2.ofInts _) fun u F4 As4 H4 S4 e4 p4 r4 => q u F4 As4 H4 S4 ((e1.trans (e2.trans e3)).trans e4) ((p1.trans (p2.trans p3)).trans p4) r4
theorem ev_revL {ds : List D} (ha : EvD K ta M E M1 x) (h : IsLst M1 x ds) : EvD K (tRevL K ta) M E M1 (.dat (.lst ds.reverse)) := fun B F As σ H S Q q =>
  ha B F As σ H S _ fun v F1 As1 H1 S1 e1 p1 r1 => by
    obtain ⟨a, vs, rfl, ha, pa⟩ := h.view S1 r1
    exact ⟨a, vs, rfl, SqL.of ha, fun p hp => ev_lstNew S1 hp pa.reverse fun u F4 As4 H4 S4 e4 p4 r4 => q u F4 As4 H4 S4 (e1.trans e4) (p1.trans p4) r4⟩
/-! ### dicts -/
def valG {κ α : Type} [DecidableEq κ] (kvs : List (κ × α)) (k : κ) : Option α := (kvs.find? fun kv => decide (kv.1 = k)).map (·.2)
def putG {κ α : Type} [DecidableEq κ] (kvs : List (κ × α)) (k : κ) (v : α) : List (κ × α) :=
  if (kvs.any fun kv => decide (kv.1 = k)) = true then kvs.map (fun kv => if kv.1 = k then (kv.1, v) else kv) else kvs ++ [(k, v)]
theorem PK.val {α : Type} [DecidableEq α] {Rr : D → V → Prop} : ∀ {kvs : List (α × D)} {ws : List (α × V)} (k : α), PK Rr kvs ws → (valG kvs k = none ∧ valV ws k = none) ∨ ∃ d v, valG kvs k = some d ∧ valV ws k = some v ∧ Rr d v
  | [], ws, k, h => by rw [P2.inv_nil h]; exact .inl ⟨rfl, rfl⟩
  | p :: kvs, ws, k, h => by
    obtain ⟨q, zs, rfl, ⟨h1, h2⟩, h3⟩ := P2.inv_cons h
    by_cases e : p.1 = k
    · refine .inr ⟨p.2, q.2, ?_, ?_, h2⟩
      · unfold valG; rw [List.find?_cons_of_pos (by simpa using e)]; rfl
      · unfold valV; rw [List.find?_cons_of_pos (by simpa using h1.symm.trans e)]; rfl
    · have e2 : ¬ q.1 = k := fun z => e (h1.trans z)
      have g1 : valG (p :: kvs) k = valG kvs k := by unfold valG; rw [List.find?_cons_of_neg (by simpa using e)]
      have g2 : valV (q :: zs) k = valV zs k := valV_neg e2
      rw [g1, g2]
      exact PK.val k h3
theorem PK.put {α : Type} [DecidableEq α] {Rr : D → V → Prop} {kvs : List (α × D)} {ws : List (α × V)} {k : α} {d : D} {v : V} (h : PK Rr kvs ws) (r : Rr d v) : PK Rr (putG kvs k d) (putK ws k v) := by
  have e : (kvs.any fun kv => decide (kv.1 = k)) = ws.any fun kv => decide (kv.1 = k) := by
    have := h.keys
    have a1 : (kvs.any fun kv => decide (kv.1 = k)) = (kvs.map (·.1)).any fun y => decide (y = k) := by rw [List.any_map]; rfl
    have a2 : (ws.any fun kv => decide (kv.1 = k)) = (ws.map (·.1)).any fun y => decide (y = k) := by rw [List.any_map]; rfl
    rw [a1, a2, this]
  unfold putG putK
  rw [e]
  split
  · refine ⟨by rw [List.length_map, List.length_map]; exact h.1, fun i p q e1 e2 => ?_⟩
    rw [List.getElem?_map] at e1 e2
    cases c1 : kvs[i]? with
    | none => rw [c1] at e1; cases e1
    | some p0 =>
      cases c2 : ws[i]? with
      | none => rw [c2] at e2; cases e2
      | some q0 =>
        rw [c1] at e1; rw [c2] at e2
        obtain ⟨h1, h2⟩ := h.2 i p0 q0 c1 c2
        cases e1; cases e2
        show (if p0.1 = k then (p0.1, d) else p0).1 = (if q0.1 = k then (q0.1, v) else q0).1 ∧ Rr (if p0.1 = k then (p0.1, d) else p0).2 (if q0.1 = k then (q0.1, v) else q0).2
        rw [h1]
        by_cases c : q0.1 = k
        · rw [if_pos c, if_pos c]; exact ⟨rfl, r⟩
        · rw [if_neg c, if_neg c]; exact ⟨h1, h2⟩
  · exact P2.append h (P2.single ⟨rfl, r⟩)
def D.key : D → Option Key
  | .int i => some (.inl i)
  | .str s => some (.inr s)
  | _ => none
theorem R.key {F : Hp} {d : D} {v : V} {k : Key} (h : R K F d v) (e : d.key = some k) : v = kV k := by
  cases h with
  | int i => cases e; rfl
  | str s => cases e; rfl
  | _ => cases e
theorem ev_dget {d k : D} {kk : Key} {kvs : List (Key × D)} (ha : EvD K ta M E M1 x) (hb : EvD K tb M1 E M2 (.dat k)) (hk : k.key = some kk) (hd : IsDct M2 x kvs) (hv : valG kvs kk = some d) : EvD K (tDGet ta tb) M E M2 (.dat d) := fun B F As σ H S Q q =>
  ha B F As σ H S _ fun v F1 As1 H1 S1 e1 p1 r1 => hb B F1 As1 σ H1 S1 _ fun w F2 As2 H2 S2 e2 p2 r2 => by
    obtain ⟨a, ws, rfl, hA, pa⟩ := hd.view S2 (r1.m e2 p2)
    have ew := R.key r2 hk
    rcases pa.val kk with ⟨h1, _⟩ | ⟨d', v', h1, h2, h3⟩
    · rw [h1] at hv; cases hv
    · rw [h1] at hv; cases hv
      exact ⟨a, v', rfl, ew ▸ (h2 ▸ DGet.k hA), q v' F2 As2 H2 S2 (e1.trans e2) (p1.trans p2) h3⟩
theorem ev_din {k : D} {kk : Key} {kvs : List (Key × D)} (hb : EvD K tb M E M1 (.dat k)) (ha : EvD K ta M1 E M2 x) (hk : k.key = some kk) (hd : IsDct M2 x kvs) : EvD K (tDIn tb ta) M E M2 (rbl (valG kvs kk).isSome) := fun B F As σ H S Q q =>
  hb B F As σ H S _ fun w F1 As1 H1 S1 e1 p1 r1 => ha B F1 As1 σ H1 S1 _ fun v F2 As2 H2 S2 e2 p2 r2 => by
    obtain ⟨a, ws, rfl, hA, pa⟩ := hd.view S2 r2
    have ew := R.key r1 hk
    refine ⟨a, valV ws kk, rfl, ew ▸ DGet.k hA, q _ F2 As2 H2 S2 (e1.trans e2) (p1.trans p2) ?_⟩
    have : (valG kvs kk).isSome = (valV ws kk).isSome := by
      rcases pa.val kk with ⟨h1, h2⟩ | ⟨d', v', h1, h2, h3⟩ <;> rw [h1, h2] <;> rfl
    rw [this]; exact .bl _
theorem ev_dnotin {k : D} {kk : Key} {kvs : List (Key × D)} (hb : EvD K tb M E M1 (.dat k)) (ha : EvD K ta M1 E M2 x) (hk : k.key = some kk) (hd : IsDct M2 x kvs) : EvD K (tDNotIn tb ta) M E M2 (rbl (!(valG kvs kk).isSome)) := fun B F As σ H S Q q =>
  hb B F As σ H S _ fun w F1 As1 H1 S1 e1 p1 r1 => ha B F1 As1 σ H1 S1 _ fun v F2 As2 H2 S2 e2 p2 r2 => by
    obtain ⟨a, ws, rfl, hA, pa⟩ := hd.view S2 r2
    have ew := R.key r1 hk
    refine ⟨a, valV ws kk, rfl, ew ▸ DGet.k hA, q _ F2 As2 H2 S2 (e1.trans e2) (p1.trans p2) ?_⟩
    have : (valG kvs kk).isSome = (valV ws kk).isSome := by
      rcases pa.val kk with ⟨h1, h2⟩ | ⟨d', v', h1, h2, h3⟩ <;> rw [h1, h2] <;> rfl
    rw [this]; exact .bl _
/-! ### a number in a list of numbers -/
theorem inV_ints (n : Int) (ns : List Int) : inV (.int n) (ns.map V.int) = decide (n ∈ ns) := by
  unfold inV
  induction ns with
  | nil => rfl
  | cons m ns ih =>
    rw [List.map_cons, List.any_cons, ih]
    show ((m == n) || decide (n ∈ ns)) = decide (n ∈ m :: ns)
    by_cases e : m = n
    · rw [decide_eq_true (show n ∈ m :: ns from e ▸ List.mem_cons_self), beq_iff_eq.mpr e, Bool.true_or]
    · rw [beq_eq_false_iff_ne.mpr e, Bool.false_or]
      by_cases c : n ∈ ns
      · rw [decide_eq_true c, decide_eq_true (List.mem_cons_of_mem _ c)]
      · rw [decide_eq_false c, decide_eq_false (fun z => by
          rcases List.mem_cons.mp z with z | z
          · exact e z.symm
          · exact c z)]
theorem all_flat (ns : List Int) : (ns.map V.int).all flatV = true := by
  rw [List.all_eq_true]; intro v hv
  obtain ⟨n, _, rfl⟩ := List.mem_map.mp hv
  rfl
theorem od_inI {n : Int} {ns : List Int} (h : IsLst M y (ns.map D.int)) : OpD K (rIn K false) M (rint n) y M (rbl (decide (n ∈ ns))) := OpD.pure fun B F H As σ E v w S r1 r2 Q q => by
  obtain ⟨a, vs, rfl, ha, pa⟩ := h.view S r2
  cases R.int_inv r1
  rw [pa.ints] at ha
  refine ⟨a, _, rfl, .inl (SqL.of ha), rfl, all_flat ns, q _ ?_⟩
  show R K F _ (V.bl (if false = true then _ else inV (.int n) (ns.map V.int)))
  rw [if_neg Bool.false_ne_true, inV_ints]; exact .bl _
theorem od_notinI {n : Int} {ns : List Int} (h : IsLst M y (ns.map D.int)) : OpD K (rIn K true) M (rint n) y M (rbl (!decide (n ∈ ns))) := OpD.pure fun B F H As σ E v w S r1 r2 Q q => by
  obtain ⟨a, vs, rfl, ha, pa⟩ := h.view S r2
  cases R.int_inv r1
  rw [pa.ints] at ha
  refine ⟨a, _, rfl, .inl (SqL.of ha), rfl, all_flat ns, q _ ?_⟩
  show R K F _ (V.bl (if true = true then !inV (.int n) (ns.map V.int) else _))
  rw [if_pos rfl, inV_ints]; exact .bl _
end
end DL
set_option Elab.async false
set_option linter.all false
set_option maxRecDepth 100000
set_option maxHeartbeats 2000000
/-! DL, fourth part: comprehensions; the promise of a def by data (FSp), its way in, its way out, its call; statements and loops. -/
namespace DL
open PySem L2
open Evl (Ex)
section
variable {K : PySem.W.Frag} {B : Base} {F F' F1 H H' H1 : Hp} {As As' As1 : List Addr} {M M0 M1 M2 M3 M' : List MC} {σ σ' : St} {E E' : List (Option Rv)} {ta tb te tx : TE} {x y z r : Rv} {op : R2} {xs rs : List Rv} {b : Bool}
/-- a tracked thing beside the state is changed -/
theorem Sta.other (S : Sta K B F As M σ E H) {p : Addr} {o : HO} (hF : F p = none) (hA : p ∉ As) (hP : B.P p) (hH : ∃ u, H p = some u) : Sta K B F As M σ E (upd H p o) := by
  refine ⟨Ex.mut S.ex hF, S.len, S.nd, fun k a mc h1 h2 h3 => ?_, S.slots, S.bF, fun a u h hP' => ?_, S.bN, S.bA, fun a u h => ?_, fun a h => ?_, S.pA⟩
  · obtain ⟨h4, o', h5, h6⟩ := S.cell k a mc h1 h2 h3
    have e : a ≠ p := fun z => hA (z ▸ List.mem_of_getElem? h1)
    exact ⟨h4, o', by rw [upd_ne e]; exact h5, h6⟩
  · rw [upd_ne (fun z : a = p => hP' (by rw [z]; exact hP))]; exact S.bH a u h hP'
  · by_cases e : a = p
    · subst e; exact ⟨o, upd_same⟩
    · obtain ⟨u', q⟩ := S.bK a u h
      exact ⟨u', by rw [upd_ne e]; exact q⟩
  · by_cases e : a = p
    · subst e; exact ⟨o, upd_same⟩
    · obtain ⟨u', q⟩ := S.kn a h
      exact ⟨u', by rw [upd_ne e]; exact q⟩
/-- the base of a block that fills a list at p -/
def Base.at (F H : Hp) (As : List Addr) (p : Addr) (o : HO) : Base := ⟨F, upd H p o, fun a => a ∈ As ∨ a = p, As⟩
theorem Sta.toAt (S : Sta K B F As M σ E H) {p : Addr} {o : HO} (hp : H p = none) : Sta K (Base.at F H As p o) F As M σ E (upd H p o) := by
  have hA := S.off hp
  have hF := S.fresh hp
  refine ⟨Ex.mut S.ex hF, S.len, S.nd, fun k a mc h1 h2 h3 => ?_, S.slots, Ex.refl F, fun a u h _ => h, fun a u h h0 => h0, fun a h => .inl (.inl h), fun a u h => ⟨u, h⟩, fun a h => ?_, List.prefix_refl _⟩
  · obtain ⟨h4, o', h5, h6⟩ := S.cell k a mc h1 h2 h3
    exact ⟨h4, o', by rw [upd_ne (ne_of_none h5 hp)]; exact h5, h6⟩
  · obtain ⟨u', q⟩ := S.kn a h
    exact ⟨u', by rw [upd_ne (ne_of_none q hp)]; exact q⟩
/-- the filled list is frozen, the block's base left -/
theorem Sta.adopt (S : Sta K B F1 As1 M0 σ E H1) {p : Addr} {o o' : HO} (hp : H1 p = none) (S' : Sta K (Base.at F1 H1 As1 p o) F' As' M' σ' E' H') (hF : F' p = none) (hA : p ∉ As') (hH : H' p = some o') :
    Sta K B (upd F' p o') As' M' σ' E' H' ∧ Ex F' (upd F' p o') := by
  have ex : Ex F' (upd F' p o') := Ex.new hF
  have b0 := S.base_off hp
  refine ⟨⟨fun a u h => ?_, S'.len, S'.nd, fun k a mc h1 h2 h3 => ?_, S'.slots.mono ex (List.prefix_refl _), (S.bF.trans S'.bF).trans ex, fun a u h hP => ?_, fun a u h h0 => ?_, fun a h => ?_, fun a u h => ?_, S'.kn, S.pA.trans S'.pA⟩, ex⟩
  · by_cases e : a = p
    · subst e; rw [upd_same] at h; rw [← h]; exact hH
    · rw [upd_ne e] at h; exact S'.ex a u h
  · obtain ⟨h4, o2, h5, h6⟩ := S'.cell k a mc h1 h2 h3
    have e : a ≠ p := fun z => hA (z ▸ List.mem_of_getElem? h1)
    exact ⟨by rw [upd_ne e]; exact h4, o2, h5, h6.mono ex⟩
  · have e : a ≠ p := ne_of_none h b0
    refine S'.bH a u (by show upd H1 p o a = _; rw [upd_ne e]; exact S.bH a u h hP) fun z => ?_
    rcases z with z | z
    · rcases S.bA a z with q | q
      · exact hP q
      · rw [q] at h; cases h
    · exact e z
  · have e : a ≠ p := ne_of_none h b0
    obtain ⟨u', q⟩ := S.bK a u h
    rw [upd_ne e]
    exact S'.bN a u' (by show upd H1 p o a = _; rw [upd_ne e]; exact q) (S.bN a u h h0)
  · rcases S'.bA a h with (q | q) | q
    · exact S.bA a q
    · exact absurd (q ▸ h) hA
    · refine .inr ?_
      have : H1 a = none := by
        have q : upd H1 p o a = none := q
        by_cases e : a = p
        · subst e; rw [upd_same] at q; cases q
        · rwa [upd_ne e] at q
      exact S.base_off this
  · have e : a ≠ p := ne_of_none h b0
    obtain ⟨u', q⟩ := S.bK a u h
    exact S'.bK a u' (by show upd H1 p o a = _; rw [upd_ne e]; exact q)
/-! ### comprehensions -/
def givD (n : Nat) (f : Nat → Bool) (v : Nat → D) : List D := ((List.range n).filter f).map v
theorem givD_yes {n : Nat} {f : Nat → Bool} {v : Nat → D} (h : f n = true) : givD (n + 1) f v = givD n f v ++ [v n] := by
  unfold givD
  rw [List.range_succ, List.filter_append, List.map_append, List.filter_cons, if_pos h] <;> rfl
theorem givD_no {n : Nat} {f : Nat → Bool} {v : Nat → D} (h : f n = false) : givD (n + 1) f v = givD n f v := by
  unfold givD
  rw [List.range_succ, List.filter_append, List.map_append, List.filter_cons, if_neg (by rw [h]; decide)]
  show _ ++ [] = _
  rw [List.append_nil]
theorem givD_len (n : Nat) (f : Nat → Bool) (v : Nat → D) : (givD n f v).length ≤ n := by
  unfold givD
  rw [List.length_map]
  have h := List.length_filter_le f (List.range n)
  rw [List.length_range] at h
  exact h
/-- the word of a comprehension: its i-th turn -/
def LcW (K : PySem.W.Frag) (F1 H1 : Hp) (As1 : List Addr) (Ms : Nat → List MC) (f : Nat → Bool) (v : Nat → D) (σ : St) (E : List (Option Rv)) (p : Addr) (i : Nat) (H' : Hp) : Prop :=
  ∃ F' As' acc, Sta K (Base.at F1 H1 As1 p (.lst [])) F' As' (Ms i) σ E H' ∧ F' p = none ∧ p ∉ As' ∧ As1 <+: As' ∧ H' p = some (.lst acc) ∧ P2 (R K F') (givD i f v) acc
theorem lcw_turn {tt : TT} {Ms : Nat → List MC} {f : Nat → Bool} {v : Nat → D} {p : Addr} {i : Nat} {Mt : List MC} {σ2 : St} {E2 : List (Option Rv)} (h : LcW K F1 H1 As1 Ms f v σ E p i H') (hi : i < 16777000)
    (hES : ∀ F', Ex F1 F' → ∀ As', As1 <+: As' → ES K F' As' σ E → ES K F' As' σ2 E2)
    (ht : EvT K tt (Ms i) E2 Mt (f i)) (he : f i = true → EvD K te Mt E2 (Ms (i + 1)) (.dat (v i))) (hn : f i = false → Ms (i + 1) = Mt) :
    tt σ2 H' fun b H3 => if b = true then te σ2 H3 fun y H4 => ∃ acc, H4 p = some (.lst acc) ∧ acc.length < sizeLine ∧ LcW K F1 H1 As1 Ms f v σ E p (i + 1) (upd H4 p (.lst (acc ++ [y]))) else LcW K F1 H1 As1 Ms f v σ E p (i + 1) H3 := by
  obtain ⟨F', As', acc, S', hF, hA, hpre, hH, hr⟩ := h
  have S2 : Sta K (Sta.self F' H' As') F' As' (Ms i) σ2 E2 H' := ⟨S'.ex, S'.len, S'.nd, S'.cell, hES F' S'.bF As' hpre S'.slots, Ex.refl F', fun a o h _ => h, fun a o _ h => h, fun a h => .inl h, fun a o h => ⟨o, h⟩, S'.kn, List.prefix_refl _⟩
  refine ht _ _ _ _ _ S2 _ fun F3 As3 H3 S3 e3 p3 => ?_
  have hH3 : H3 p = some (.lst acc) := S3.bH p _ hH hA
  have hF3 : F3 p = none := S3.bN p _ hH hF
  have hA3 : p ∉ As3 := fun z => by
    rcases S3.bA p z with q | q
    · exact hA q
    · have q : H' p = none := q
      rw [hH] at q; cases q
  -- back to the block's base, with the slots of the outer state
  have back : ∀ {F4 As4 M4 H4}, Sta K (Sta.self F' H' As') F4 As4 M4 σ2 E2 H4 → As' <+: As4 → Sta K (Base.at F1 H1 As1 p (.lst [])) F4 As4 M4 σ E H4 := fun {F4 As4 M4 H4} S4 p4 =>
    S'.rebase ⟨S4.ex, S4.len, S4.nd, S4.cell, S'.slots.mono S4.bF p4, S4.bF, S4.bH, S4.bN, S4.bA, S4.bK, S4.kn, S4.pA⟩
  cases hf : f i with
  | false =>
    show LcW K F1 H1 As1 Ms f v σ E p (i + 1) H3
    refine ⟨F3, As3, acc, ?_, hF3, hA3, hpre.trans p3, hH3, ?_⟩
    · rw [hn hf]; exact back S3 p3
    · rw [givD_no hf]; exact hr.imp fun _ _ z => z.mono e3
  | true =>
    show te σ2 H3 fun y H4 => ∃ acc, H4 p = some (.lst acc) ∧ acc.length < sizeLine ∧ LcW K F1 H1 As1 Ms f v σ E p (i + 1) (upd H4 p (.lst (acc ++ [y])))
    refine he hf _ _ _ _ _ S3 _ fun u F4 As4 H4 S4 e4 p4 r4 => ?_
    have hH4 : H4 p = some (.lst acc) := S4.bH p _ hH hA
    have hF4 : F4 p = none := S4.bN p _ hH hF
    have hA4 : p ∉ As4 := fun z => by
      rcases S4.bA p z with q | q
      · exact hA q
      · have q : H' p = none := q
        rw [hH] at q; cases q
    refine ⟨acc, hH4, szlt ?_, F4, As4, acc ++ [u], ?_, hF4, hA4, hpre.trans (p3.trans p4), upd_same, ?_⟩
    · have := givD_len i f v
      rw [hr.1] at this; omega
    · exact (back S4 (p3.trans p4)).other hF4 hA4 (.inr rfl) ⟨_, hH4⟩
    · rw [givD_yes hf]
      exact (hr.imp fun _ _ z => z.mono (e3.trans e4)).append (P2.single r4)
theorem wipe_one (σ : St) (j : Nat) (x : Option V) : wipe ((wipe σ [j]).set j x) [j] = wipe σ [j] := by
  show ((σ.set j none).set j x).set j none = σ.set j none
  rw [List.set_set, List.set_set]
theorem ES.setW {F : Hp} {As : List Addr} {j : Nat} {r : Rv} {v : V} (h : ES K F As σ E) (q : RV K F As r v) : ES K F As ((wipe σ [j]).set j (some v)) (E.set j (some r)) := by
  show ES K F As ((σ.set j none).set j (some v)) _
  rw [List.set_set]
  exact h.set q
/-- the end of a comprehension -/
theorem lcw_done (S1 : Sta K B F1 As1 M0 σ E H1) {p : Addr} (hp : H1 p = none) {Ms : Nat → List MC} {f : Nat → Bool} {v : Nat → D} {n : Nat} (h : LcW K F1 H1 As1 Ms f v σ E p n H') {Q : VK}
    (q : ∀ u F' As' H', Sta K B F' As' (Ms n) σ E H' → Ex F1 F' → As1 <+: As' → RV K F' As' (.dat (.lst (givD n f v))) u → Q u H') : Q (.ref p) H' := by
  obtain ⟨F', As', acc, S', hF, hA, hpre, hH, hr⟩ := h
  obtain ⟨S2, e2⟩ := S1.adopt hp S' hF hA hH
  exact q _ _ _ _ S2 (S'.bF.trans e2) hpre (R.lst' upd_same (hr.imp fun _ _ z => z.mono e2))
/-- .. the list to be changed later -/
theorem lcw_doneM (S1 : Sta K B F1 As1 M0 σ E H1) {p : Addr} (hp : H1 p = none) {Ms : Nat → List MC} {f : Nat → Bool} {v : Nat → D} {n : Nat} (h : LcW K F1 H1 As1 Ms f v σ E p n H') {Q : VK}
    (q : ∀ u F' As' H', Sta K B F' As' (Ms n ++ [.lst (givD n f v)]) σ E H' → Ex F1 F' → As1 <+: As' → RV K F' As' (.cel (Ms n).length) u → Q u H') : Q (.ref p) H' := by
  obtain ⟨F', As', acc, S', hF, hA, hpre, hH, hr⟩ := h
  have b0 := S1.base_off hp
  have S2 : Sta K B F' (As' ++ [p]) (Ms n ++ [.lst (givD n f v)]) σ E H' := by
    refine ⟨S'.ex, by rw [List.length_append, List.length_append, S'.len]; rfl, ?_, fun k a mc h1 h2 h3 => ?_, S'.slots.mono (Ex.refl F') (List.prefix_append _ _), S1.bF.trans S'.bF, fun a u h hP => ?_, fun a u h h0 => ?_, fun a h => ?_, fun a u h => ?_, fun a h => ?_, (S1.pA.trans S'.pA).trans (List.prefix_append _ _)⟩
    · rw [List.nodup_append]
      refine ⟨S'.nd, by simp, fun a ha b hb e => ?_⟩
      simp at hb
      subst e; subst hb; exact hA ha
    · rcases getElem?_concat h1 with q1 | ⟨q1, q2⟩
      · rcases getElem?_concat h2 with q3 | ⟨q3, q4⟩
        · obtain ⟨z1, o, z2, z3⟩ := S'.cell k a mc q1 q3 h3
          exact ⟨z1, o, z2, z3.mono2 (Ex.refl _) (List.prefix_append _ _)⟩
        · have := (List.getElem?_eq_some_iff.mp q1).1
          rw [S'.len] at this; omega
      · rcases getElem?_concat h2 with q3 | ⟨q3, q4⟩
        · have := (List.getElem?_eq_some_iff.mp q3).1
          rw [← S'.len] at this; omega
        · subst q2; subst q4
          exact ⟨hF, _, hH, acc, rfl, hr⟩
    · have e : a ≠ p := ne_of_none h b0
      refine S'.bH a u (by show upd H1 p _ a = _; rw [upd_ne e]; exact S1.bH a u h hP) fun z => ?_
      rcases z with z | z
      · rcases S1.bA a z with q | q
        · exact hP q
        · rw [q] at h; cases h
      · exact e z
    · have e : a ≠ p := ne_of_none h b0
      obtain ⟨u', q⟩ := S1.bK a u h
      exact S'.bN a u' (by show upd H1 p _ a = _; rw [upd_ne e]; exact q) (S1.bN a u h h0)
    · rcases List.mem_append.mp h with h | h
      · rcases S'.bA a h with (q | q) | q
        · exact S1.bA a q
        · exact absurd (q ▸ h) hA
        · refine .inr ?_
          have : H1 a = none := by
            have q : upd H1 p _ a = none := q
            by_cases e : a = p
            · subst e; rw [upd_same] at q; cases q
            · rwa [upd_ne e] at q
          exact S1.base_off this
      · simp at h; subst h; exact .inr b0
    · have e : a ≠ p := ne_of_none h b0
      obtain ⟨u', q⟩ := S1.bK a u h
      exact S'.bK a u' (by show upd H1 p _ a = _; rw [upd_ne e]; exact q)
    · rcases List.mem_append.mp h with h | h
      · exact S'.kn a h
      · simp at h; subst h; exact ⟨_, hH⟩
  exact q _ _ _ _ S2 S'.bF (hpre.trans (List.prefix_append _ _)) ⟨p, by rw [List.getElem?_append_right (by rw [S'.len]; exact Nat.le_refl _), S'.len]; simp, rfl⟩
theorem lcw_start (S1 : Sta K B F1 As1 M1 σ E H1) {p : Addr} (hp : H1 p = none) {Ms : Nat → List MC} {f : Nat → Bool} {v : Nat → D} (h0 : Ms 0 = M1) : LcW K F1 H1 As1 Ms f v σ E p 0 (upd H1 p (.lst [])) := by
  refine ⟨F1, As1, [], ?_, S1.fresh hp, S1.off hp, List.prefix_refl _, upd_same, P2.nil⟩
  rw [h0]
  exact S1.toAt hp
/-- what the turn of a comprehension gives -/
def LcT (K : PySem.W.Frag) (tt : TT) (te : TE) (Ms : Nat → List MC) (f : Nat → Bool) (v : Nat → D) (E2 : List (Option Rv)) (i : Nat) : Prop :=
  ∃ Mt, EvT K tt (Ms i) E2 Mt (f i) ∧ (f i = true → EvD K te Mt E2 (Ms (i + 1)) (.dat (v i))) ∧ (f i = false → Ms (i + 1) = Mt)
/-- [e for x in range(n) if t] -/
theorem ev_lcR1 {t : TA} {tt : TT} {j : Nat} {n : Int} (Ms : Nat → List MC) (f : Nat → Bool) (v : Nat → D) (ha : EvA K t M E M1 [rint n]) (hn : -16777000 ≤ n ∧ n ≤ 16777000) (h0 : Ms 0 = M1)
    (hb : ∀ i : Nat, (i : Int) < n → LcT K tt te Ms f v (E.set j (some (rint (i : Int)))) i) : EvD K (tLc (iRng1 t) (gName j) tt te [j]) M E (Ms n.toNat) (.dat (.lst (givD n.toNat f v))) := fun B F As σ H S Q q =>
  ha B F As σ H S _ fun vs F1 As1 H1 S1 e1 p1 r1 => by
    obtain ⟨w, rfl, hw⟩ := r1.one
    cases R.int_inv hw
    refine ⟨n, rfl, by omega, by omega, fun p hp => lc_range (lo := 0) (n := n.toNat) (LcW K F1 H1 As1 Ms f v σ E p) (lcw_start S1 hp h0) (fun i H' hi h => ?_) fun H' h => lcw_done S1 hp h fun u F' As' H' S' e' p' r' => q u F' As' H' S' (e1.trans e') (p1.trans p') r'⟩
    obtain ⟨Mt, h1, h2, h3⟩ := hb i (by omega)
    have e0 : (0 : Int) + (i : Int) = (i : Int) := Int.zero_add _
    rw [e0]
    exact ⟨wipe_one σ j _, lcw_turn h (by omega) (fun F' _ As' _ hE => hE.setW (r := rint (i : Int)) (.int _)) h1 h2 h3⟩
/-- .. the list to be changed later -/
theorem ev_lcR1M {t : TA} {tt : TT} {j : Nat} {n : Int} (Ms : Nat → List MC) (f : Nat → Bool) (v : Nat → D) (ha : EvA K t M E M1 [rint n]) (hn : -16777000 ≤ n ∧ n ≤ 16777000) (h0 : Ms 0 = M1)
    (hb : ∀ i : Nat, (i : Int) < n → LcT K tt te Ms f v (E.set j (some (rint (i : Int)))) i) : EvD K (tLc (iRng1 t) (gName j) tt te [j]) M E (Ms n.toNat ++ [.lst (givD n.toNat f v)]) (.cel (Ms n.toNat).length) := fun B F As σ H S Q q =>
  ha B F As σ H S _ fun vs F1 As1 H1 S1 e1 p1 r1 => by
    obtain ⟨w, rfl, hw⟩ := r1.one
    cases R.int_inv hw
    refine ⟨n, rfl, by omega, by omega, fun p hp => lc_range (lo := 0) (n := n.toNat) (LcW K F1 H1 As1 Ms f v σ E p) (lcw_start S1 hp h0) (fun i H' hi h => ?_) fun H' h => lcw_doneM S1 hp h fun u F' As' H' S' e' p' r' => q u F' As' H' S' (e1.trans e') (p1.trans p') r'⟩
    obtain ⟨Mt, h1, h2, h3⟩ := hb i (by omega)
    have e0 : (0 : Int) + (i : Int) = (i : Int) := Int.zero_add _
    rw [e0]
    exact ⟨wipe_one σ j _, lcw_turn h (by omega) (fun F' _ As' _ hE => hE.setW (r := rint (i : Int)) (.int _)) h1 h2 h3⟩
/-- [e for x in range(a, n) if t] -/
theorem ev_lcR2 {t : TA} {tt : TT} {j : Nat} {a n : Int} (Ms : Nat → List MC) (f : Nat → Bool) (v : Nat → D) (ha : EvA K t M E M1 [rint a, rint n]) (hn : -8000000 ≤ n ∧ n ≤ 8000000 ∧ -8000000 ≤ a ∧ a ≤ 8000000) (h0 : Ms 0 = M1)
    (hb : ∀ i : Nat, a + (i : Int) < n → LcT K tt te Ms f v (E.set j (some (rint (a + (i : Int))))) i) : EvD K (tLc (iRng2 t) (gName j) tt te [j]) M E (Ms (n - a).toNat) (.dat (.lst (givD (n - a).toNat f v))) := fun B F As σ H S Q q =>
  ha B F As σ H S _ fun vs F1 As1 H1 S1 e1 p1 r1 => by
    obtain ⟨w, w2, rfl, hw, hw2⟩ := r1.two
    cases R.int_inv hw; cases R.int_inv hw2
    refine ⟨a, n, rfl, ⟨by omega, by omega, by omega, by omega⟩, fun p hp => lc_range (lo := a) (n := (n - a).toNat) (LcW K F1 H1 As1 Ms f v σ E p) (lcw_start S1 hp h0) (fun i H' hi h => ?_) fun H' h => lcw_done S1 hp h fun u F' As' H' S' e' p' r' => q u F' As' H' S' (e1.trans e') (p1.trans p') r'⟩
    obtain ⟨Mt, h1, h2, h3⟩ := hb i (by omega)
    exact ⟨wipe_one σ j _, lcw_turn h (by omega) (fun F' _ As' _ hE => hE.setW (r := rint (a + (i : Int))) (.int _)) h1 h2 h3⟩
/-- [e for x in xs if t], xs data -/
theorem ev_lcL {tl : TE} {tt : TT} {j : Nat} {ds : List D} (Ms : Nat → List MC) (f : Nat → Bool) (v : Nat → D) (ha : EvD K tl M E M1 (.dat (.lst ds))) (hn : ds.length ≤ 16777000) (h0 : Ms 0 = M1)
    (hb : ∀ (i : Nat) (d : D), ds[i]? = some d → LcT K tt te Ms f v (E.set j (some (.dat d))) i) : EvD K (tLc (iList K tl) (gName j) tt te [j]) M E (Ms ds.length) (.dat (.lst (givD ds.length f v))) := fun B F As σ H S Q q =>
  ha B F As σ H S _ fun w F1 As1 H1 S1 e1 p1 r1 => by
    obtain ⟨a, ws, rfl, hA, pa⟩ := R.lst_inv r1
    refine ⟨a, rfl, ⟨ws, SqL.of (S1.ex _ _ hA)⟩, fun p hp => lc_list (K := K) (a := a) (xs := ws) (LcW K F1 H1 As1 Ms f v σ E p) (lcw_start S1 hp h0) (fun i H' _ ⟨F', As', acc, S', _⟩ => SqL.of (S'.ex _ _ (S'.bF _ _ hA))) (fun i x H' hi h => ?_) fun H' h => ?_⟩
    · obtain ⟨d, hd, rd⟩ := pa.flip.get hi
      obtain ⟨Mt, h1, h2, h3⟩ := hb i d hd
      have hil := (List.getElem?_eq_some_iff.mp hd).1
      exact ⟨wipe_one σ j _, lcw_turn h (by omega) (fun F' eF As' _ hE => hE.setW (r := .dat d) (R.mono rd eF)) h1 h2 h3⟩
    · rw [← pa.1] at h
      exact lcw_done S1 hp h fun u F' As' H' S' e' p' r' => q u F' As' H' S' (e1.trans e') (p1.trans p') r'
theorem et_yes : EvT K tYes M E M true := fun B F As σ H S Q q => q F As H S (Ex.refl F) (List.prefix_refl _)
/-- a turn without a test that leaves the cells -/
theorem LcT.plain {v : Nat → D} {E2 : List (Option Rv)} {i : Nat} (h : EvD K te M E2 M (.dat (v i))) : LcT K tYes te (fun _ => M) (fun _ => true) v E2 i := ⟨M, et_yes, fun _ => h, fun z => by cases z⟩
theorem LcT.moved {Ms : Nat → List MC} {v : Nat → D} {E2 : List (Option Rv)} {i : Nat} (h : EvD K te (Ms i) E2 (Ms (i + 1)) (.dat (v i))) : LcT K tYes te Ms (fun _ => true) v E2 i := ⟨Ms i, et_yes, fun _ => h, fun z => by cases z⟩
theorem LcT.tested {tt : TT} {f : Nat → Bool} {v : Nat → D} {E2 : List (Option Rv)} {i : Nat} (ht : EvT K tt M E2 M (f i)) (h : f i = true → EvD K te M E2 M (.dat (v i))) : LcT K tt te (fun _ => M) f v E2 i := ⟨M, ht, h, fun _ => rfl⟩
theorem givD_all (n : Nat) (v : Nat → D) : givD n (fun _ => true) v = (List.range n).map v := by
  unfold givD
  rw [List.filter_eq_self.mpr (fun _ _ => rfl)]
end
end DL
set_option Elab.async false
set_option linter.all false
set_option maxRecDepth 100000
set_option maxHeartbeats 2000000
/-! DL, fifth part: the promise of a def by data (FSp), its way in, its way out, its call. -/
namespace DL
open PySem L2
open Evl (Ex)
/-- what a def gives: data, or a new cell that nobody else holds; or it raises an own error, with its fields -/
inductive Out where
  | ret (d : D) | new (mc : MC) | exc (C : Addr) (fs : List (Str × D)) | grow (ms : List MC) (r : Rv)
/-- behind the def: its frame's state, the cells that were handed in first -/
structure Fin (K : PySem.W.Frag) (F H : Hp) (As : List Addr) (M' : List MC) (F' H' : Hp) (As' : List Addr) (M'' : List MC) : Prop where
  sta : ∃ σ E, Sta K (Sta.self F H As) F' As' M'' σ E H'
  pre : As <+: As'
  cut : M''.take As.length = M'
  len : M'.length = As.length
def FSp (K : PySem.W.Frag) (Φ : List MC → List Rv → List MC → Out → Prop) : Sp := fun vs H Q E => ∃ F As M rs M' o,
  Sta K (Sta.self F H As) F As M (vs.map some) (rs.map some) H ∧ Live M ∧ Φ M rs M' o ∧ match o with
    | .ret d => ∀ v F' As' M'' H', Fin K F H As M' F' H' As' M'' → R K F' d v → Q v H'
    | .new mc => ∀ v k F' As' M'' H', Fin K F H As M' F' H' As' M'' → As.length ≤ k → M''[k]? = some mc → mc ≠ .gone → RV K F' As' (.cel k) v → Q v H'
    | .exc C fs => ∀ dd ws F' As' M'' H', Fin K F H As M' F' H' As' M'' → H' dd = none → PK (R K F') fs ws → E (.ref C) (some dd) (upd H' dd (.xd ws))
    | .grow ms r => ∀ v F' As' M'' H', Fin K F H As M' F' H' As' M'' → M''.drop As.length = ms → RV K F' As' r v → Q v H'
section
variable {K : PySem.W.Frag} {B : Base} {F F' F1 H H' H1 : Hp} {As As' As1 : List Addr} {M M0 M0' M1 M2 M3 M' M'' : List MC} {σ σ' : St} {E E' : List (Option Rv)} {ta tb te tx : TE} {x y z r : Rv} {op : R2} {xs rs rs0 : List Rv} {b : Bool} {Φ : List MC → List Rv → List MC → Out → Prop} {XX : XK}
/-! ### the call -/
/-- no cell goes in -/
theorem ev_call0 {t : TA} {d : D} (ha : EvA K t M E M1 xs) (hx : dats xs ≠ none) (hΦ : Φ [] xs [] (.ret d)) : EvD K (tCall (FSp K Φ) [] XX t) M E M1 (.dat d) := fun B F As σ H S Q q =>
  ha B F As σ H S _ fun vs F1 As1 H1 S1 e1 p1 r1 => by
    rw [List.append_nil]
    obtain ⟨ds, hds⟩ := Option.ne_none_iff_exists'.mp hx
    have hxs := dats_eq hds
    have r0 : P2 (RV K F1 []) xs vs := by
      rw [hxs] at r1 ⊢
      refine ⟨r1.1, fun i x y a b => ?_⟩
      have := r1.2 i x y a b
      rw [List.getElem?_map] at a
      cases c : ds[i]? with
      | none => rw [c] at a; cases a
      | some d => rw [c] at a; cases a; exact this
    refine ⟨F1, [], [], xs, [], .ret d, ⟨S1.ex, rfl, List.nodup_nil, fun k a mc h => by simp at h, ⟨by simp [r1.1], fun i r h => ?_⟩, Ex.refl F1, fun a o h _ => h, fun a o _ h => h, fun a h => (by cases h), fun a o h => ⟨o, h⟩, fun a h => (by cases h), List.prefix_refl _⟩, Live.nil, hΦ, fun v F' As' M'' H' fin rv => ?_⟩
    · rw [List.getElem?_map] at h
      cases c : xs[i]? with
      | none => rw [c] at h; cases h
      | some x =>
        rw [c] at h; cases h
        obtain ⟨v, hv, rv⟩ := r0.get c
        exact ⟨v, by rw [List.getElem?_map, hv]; rfl, rv⟩
    · obtain ⟨σ', E', S'⟩ := fin.sta
      have keep : ∀ a o, H1 a = some o → H' a = some o := fun a o h => S'.bH a o h (fun z => by cases z)
      have S2 : Sta K B F' As1 M1 σ E H' := by
        refine ⟨S'.ex, S1.len, S1.nd, fun k a mc h1 h2 h3 => ?_, S1.slots.mono S'.bF (List.prefix_refl _), S1.bF.trans S'.bF, fun a o h hP => keep _ _ (S1.bH a o h hP), fun a o h h0 => ?_, S1.bA, fun a o h => ?_, fun a h => ?_, S1.pA⟩
        · obtain ⟨h4, o, h5, h6⟩ := S1.cell k a mc h1 h2 h3
          exact ⟨S'.bN a o h5 h4, o, keep _ _ h5, h6.mono S'.bF⟩
        · obtain ⟨u, hu⟩ := S1.bK a o h
          exact S'.bN a u hu (S1.bN a o h h0)
        · obtain ⟨u, hu⟩ := S1.bK a o h
          exact ⟨u, keep _ _ hu⟩
        · obtain ⟨u, hu⟩ := S1.kn a h
          exact ⟨u, keep _ _ hu⟩
      exact q v F' As1 H' S2 (e1.trans S'.bF) p1 rv
/-- the caller's state behind a call with the cell k handed in -/
theorem Sta.after1 {k : Nat} {a : Addr} {mc mc' : MC} {o0 : HO} (S1 : Sta K B F1 As1 M1 σ E H1) (ha : As1[k]? = some a) (hk : M1[k]? = some mc) (fin : Fin K F1 H1 [a] [mc'] F' H' As' M'') (hf : ¬ mc'.isDeep) :
    Sta K B F' As1 (M1.set k mc') σ E H' := by
  obtain ⟨σ', E', S'⟩ := fin.sta
  have keep : ∀ b o, H1 b = some o → b ≠ a → H' b = some o := fun b o h hb => S'.bH b o h (fun z => hb (by simpa [Sta.self] using z))
  obtain ⟨t, ht⟩ := fin.pre
  have hA0 : As'[0]? = some a := by rw [← ht]; rfl
  have hM0 : M''[0]? = some mc' := by
    have := fin.cut
    have h2 : (M''.take 1)[0]? = some mc' := by
      have h3 : M''.take 1 = [mc'] := this
      rw [h3]; rfl
    rw [List.getElem?_take] at h2
    simpa using h2
  refine ⟨S'.ex, by rw [List.length_set]; exact S1.len, S1.nd, fun j b m h1 h2 h3 => ?_, S1.slots.mono S'.bF (List.prefix_refl _), S1.bF.trans S'.bF, fun b o h hP => ?_, fun b o h h0 => ?_, S1.bA, fun b o h => ?_, fun b h => ?_, S1.pA⟩
  · by_cases e : k = j
    · subst e
      rw [ha] at h1; cases h1
      rw [List.getElem?_set_self (List.getElem?_eq_some_iff.mp hk).1] at h2
      cases h2
      obtain ⟨z1, o, z2, z3⟩ := S'.cell 0 a mc' hA0 hM0 h3
      exact ⟨z1, o, z2, z3.flat hf⟩
    · rw [List.getElem?_set_ne e] at h2
      obtain ⟨h4, o, h5, h6⟩ := S1.cell j b m h1 h2 h3
      have hb : b ≠ a := fun z => e (S1.uniq ha (z ▸ h1))
      exact ⟨S'.bN b o h5 h4, o, keep _ _ h5 hb, h6.mono S'.bF⟩
  · refine keep _ _ (S1.bH b o h hP) fun z => ?_
    rcases S1.bA a (List.mem_of_getElem? ha) with q | q
    · exact hP (z ▸ q)
    · rw [z, q] at h; cases h
  · obtain ⟨u, hu⟩ := S1.bK b o h
    exact S'.bN b u hu (S1.bN b o h h0)
  · obtain ⟨u, hu⟩ := S1.bK b o h
    exact S'.bK b u hu
  · obtain ⟨u, hu⟩ := S1.kn b h
    exact S'.bK b u hu
theorem Sta.before1 {k : Nat} {a : Addr} {mc : MC} {vs : List V} (S1 : Sta K B F1 As1 M1 σ E H1) (ha : As1[k]? = some a) (hk : M1[k]? = some mc) (hg : ¬ mc.bad) {rs0 : List Rv} (r0 : P2 (RV K F1 [a]) rs0 vs) :
    Sta K (Sta.self F1 H1 [a]) F1 [a] [mc] (vs.map some) (rs0.map some) H1 := by
  obtain ⟨g1, o1, g2, g3⟩ := S1.cell k a mc ha hk (MC.bad_gone hg)
  refine ⟨S1.ex, rfl, by simp, fun j b m h1 h2 h3 => ?_, ⟨by simp [r0.1], fun i r h => ?_⟩, Ex.refl F1, fun b o h _ => h, fun b o _ h => h, fun b h => .inl h, fun b o h => ⟨o, h⟩, fun b h => ?_, List.prefix_refl _⟩
  · cases j with
    | zero => cases h1; cases h2; exact ⟨g1, o1, g2, g3.flat (MC.bad_deep hg)⟩
    | succ j => simp at h1
  · rw [List.getElem?_map] at h
    cases c : rs0[i]? with
    | none => rw [c] at h; cases h
    | some x =>
      rw [c] at h; cases h
      obtain ⟨v, hv, rv⟩ := r0.get c
      exact ⟨v, by rw [List.getElem?_map, hv]; rfl, rv⟩
  · have : b = a := by simpa using h
    subst this
    exact ⟨o1, g2⟩
/-- the first argument is a cell, all others are data -/
theorem ev_call1 {t : TA} {k : Nat} {ds : List Rv} {mc mc' : MC} {d : D} (ha : EvA K t M E M1 (.cel k :: ds)) (hx : dats ds ≠ none) (hk : M1[k]? = some mc) (hg : ¬ mc.bad) (hΦ : Φ [mc] (.cel 0 :: ds) [mc'] (.ret d)) (hf : ¬ mc'.isDeep := by intro z; cases z) :
    EvD K (tCall (FSp K Φ) [] XX t) M E (M1.set k mc') (.dat d) := fun B F As σ H S Q q =>
  ha B F As σ H S _ fun vs F1 As1 H1 S1 e1 p1 r1 => by
    rw [List.append_nil]
    obtain ⟨es, hds⟩ := Option.ne_none_iff_exists'.mp hx
    have hxs := dats_eq hds
    obtain ⟨v0, ws, rfl, ⟨a, hA, rfl⟩, rw_⟩ := r1.inv_cons
    have r0 : P2 (RV K F1 [a]) (.cel 0 :: ds) (.ref a :: ws) := by
      refine P2.cons ⟨a, rfl, rfl⟩ ?_
      rw [hxs] at rw_ ⊢
      refine ⟨rw_.1, fun i x y a b => ?_⟩
      have := rw_.2 i x y a b
      rw [List.getElem?_map] at a
      cases c : es[i]? with
      | none => rw [c] at a; cases a
      | some d => rw [c] at a; cases a; exact this
    refine ⟨F1, [a], [mc], _, [mc'], .ret d, S1.before1 hA hk hg r0, trivial, hΦ, fun v F' As' M'' H' fin rv => ?_⟩
    · have S2 := S1.after1 (o0 := .lst []) hA hk fin hf
      obtain ⟨σ', E', S'⟩ := fin.sta
      exact q v F' As1 H' S2 (e1.trans S'.bF) p1 rv
/-- what is known of a cell is forgotten -/
theorem Sta.forget (S : Sta K B F As M σ E H) (k : Nat) : Sta K B F As (M.set k .gone) σ E H :=
  { S with
    len := by rw [List.length_set]; exact S.len
    cell := fun j a mc h1 h2 h3 => by
      by_cases e : k = j
      · subst e
        by_cases hk : k < M.length
        · rw [List.getElem?_set_self hk] at h2
          cases h2
          exact absurd rfl h3
        · rw [List.getElem?_eq_none (by rw [List.length_set]; omega)] at h2
          cases h2
      · rw [List.getElem?_set_ne e] at h2
        exact S.cell j a mc h1 h2 h3 }
/-- no cell goes in, a new cell comes out -/
theorem ev_callN {t : TA} {mc : MC} (ha : EvA K t M E M1 xs) (hx : dats xs ≠ none) (hΦ : Φ [] xs [] (.new mc)) (hf : ¬ mc.isDeep := by intro z; cases z) : EvD K (tCall (FSp K Φ) [] XX t) M E (M1 ++ [mc]) (.cel M1.length) := fun B F As σ H S Q q =>
  ha B F As σ H S _ fun vs F1 As1 H1 S1 e1 p1 r1 => by
    rw [List.append_nil]
    obtain ⟨ds, hds⟩ := Option.ne_none_iff_exists'.mp hx
    have hxs := dats_eq hds
    have r0 : P2 (RV K F1 []) xs vs := by
      rw [hxs] at r1 ⊢
      refine ⟨r1.1, fun i x y a b => ?_⟩
      have := r1.2 i x y a b
      rw [List.getElem?_map] at a
      cases c : ds[i]? with
      | none => rw [c] at a; cases a
      | some d => rw [c] at a; cases a; exact this
    refine ⟨F1, [], [], xs, [], .new mc, ⟨S1.ex, rfl, List.nodup_nil, fun k a mc h => by simp at h, ⟨by simp [r1.1], fun i r h => ?_⟩, Ex.refl F1, fun a o h _ => h, fun a o _ h => h, fun a h => (by cases h), fun a o h => ⟨o, h⟩, fun a h => (by cases h), List.prefix_refl _⟩, Live.nil, hΦ, fun v k F' As' M'' H' fin hk hm hg rv => ?_⟩
    · rw [List.getElem?_map] at h
      cases c : xs[i]? with
      | none => rw [c] at h; cases h
      | some x =>
        rw [c] at h; cases h
        obtain ⟨v, hv, rv⟩ := r0.get c
        exact ⟨v, by rw [List.getElem?_map, hv]; rfl, rv⟩
    · obtain ⟨σ', E', S'⟩ := fin.sta
      obtain ⟨a, hA, rfl⟩ := rv
      have keep : ∀ a o, H1 a = some o → H' a = some o := fun a o h => S'.bH a o h (fun z => by cases z)
      obtain ⟨g1, o, g2, g3⟩ := S'.cell k a mc hA hm hg
      have new : H1 a = none := by
        rcases S'.bA a (List.mem_of_getElem? hA) with q | q
        · cases q
        · exact q
      have hnA : a ∉ As1 := S1.off new
      have S2 : Sta K B F' (As1 ++ [a]) (M1 ++ [mc]) σ E H' := by
        refine ⟨S'.ex, by rw [List.length_append, List.length_append, S1.len]; rfl, ?_, fun k b m h1 h2 h3 => ?_, S1.slots.mono S'.bF (List.prefix_append _ _), S1.bF.trans S'.bF, fun b o h hP => keep _ _ (S1.bH b o h hP), fun b o h h0 => ?_, fun b h => ?_, fun b o h => ?_, fun b h => ?_, S1.pA.trans (List.prefix_append _ _)⟩
        · rw [List.nodup_append]
          refine ⟨S1.nd, by simp, fun x hx y hy e => ?_⟩
          simp at hy
          subst e; subst hy; exact hnA hx
        · rcases getElem?_concat h1 with q1 | ⟨q1, q2⟩
          · rcases getElem?_concat h2 with q3 | ⟨q3, q4⟩
            · obtain ⟨h4, o, h5, h6⟩ := S1.cell k b m q1 q3 h3
              exact ⟨S'.bN b o h5 h4, o, keep _ _ h5, h6.mono2 S'.bF (List.prefix_append _ _)⟩
            · have := (List.getElem?_eq_some_iff.mp q1).1
              rw [S1.len] at this; omega
          · rcases getElem?_concat h2 with q3 | ⟨q3, q4⟩
            · have := (List.getElem?_eq_some_iff.mp q3).1
              rw [← S1.len] at this; omega
            · subst q2; subst q4
              exact ⟨g1, o, g2, g3.flat hf⟩
        · obtain ⟨u, hu⟩ := S1.bK b o h
          exact S'.bN b u hu (S1.bN b o h h0)
        · rcases List.mem_append.mp h with h | h
          · exact S1.bA b h
          · simp at h; subst h; exact .inr (S1.base_off new)
        · obtain ⟨u, hu⟩ := S1.bK b o h
          exact ⟨u, keep _ _ hu⟩
        · rcases List.mem_append.mp h with h | h
          · obtain ⟨u, hu⟩ := S1.kn b h
            exact ⟨u, keep _ _ hu⟩
          · simp at h; subst h; exact ⟨o, g2⟩
      exact q _ F' (As1 ++ [a]) H' S2 (e1.trans S'.bF) (p1.trans (List.prefix_append _ _)) ⟨a, by rw [List.getElem?_append_right (by rw [S1.len]; exact Nat.le_refl _), S1.len]; simp, rfl⟩
/-! ### the way in, the way out -/
theorem start_eq (N : List Str) (vs : List V) : start N vs = vs.map some ++ List.replicate (N.length - vs.length) none := rfl
/-- the slots at the start of a def of n names -/
def ent (n : Nat) (rs : List Rv) : List (Option Rv) := rs.map some ++ List.replicate (n - rs.length) none
theorem Sta.enter {vs : List V} (N : List Str) (S : Sta K B F As M (vs.map some) (rs.map some) H) : Sta K B F As M (start N vs) (ent N.length rs) H := by
  have hl : rs.length = vs.length := by have := S.slots.1; simpa using this
  refine { S with slots := ⟨by rw [start_eq, ent]; simp [hl], fun i r h => ?_⟩ }
  by_cases hi : i < rs.length
  · have h : (rs.map some)[i]? = some (some r) := by
      rw [ent, List.getElem?_append_left (by rw [List.length_map]; exact hi)] at h
      exact h
    obtain ⟨v, h1, h2⟩ := S.slots.2 i r h
    exact ⟨v, by rw [start_eq, List.getElem?_append_left (by rw [List.length_map]; omega)]; exact h1, h2⟩
  · rw [ent, List.getElem?_append_right (by rw [List.length_map]; omega), List.getElem?_replicate] at h
    split at h
    · cases h
    · cases h
/-- a def's body by data: from its promise to its reading -/
theorem FSp.reading {N : List Str} {vs : List V} {H : Hp} {Q : VK} {X : XK} {t : TS} (h : FSp K Φ vs H Q X)
    (body : ∀ F As M rs M' o, Φ M rs M' o → Live M → ∀ B : Base, Sta K B F As M (start N vs) (ent N.length rs) H → (∀ a, B.P a → a ∈ B.A0) → B.A0.length = M.length →
      (match o with
        | .ret d => (∀ v F' As' M'' σ' E' H', Sta K B F' As' M'' σ' E' H' → M''.take M.length = M' → R K F' d v → Q v H')
        | .new mc => (∀ v k F' As' M'' σ' E' H', Sta K B F' As' M'' σ' E' H' → M''.take M.length = M' → M.length ≤ k → M''[k]? = some mc → mc ≠ .gone → RV K F' As' (.cel k) v → Q v H')
        | .exc C fs => (∀ dd ws F' As' M'' σ' E' H', Sta K B F' As' M'' σ' E' H' → M''.take M.length = M' → H' dd = none → PK (R K F') fs ws → X (.ref C) (some dd) (upd H' dd (.xd ws)))
        | .grow ms r => (∀ v F' As' M'' σ' E' H', Sta K B F' As' M'' σ' E' H' → M''.take M.length = M' → M''.drop M.length = ms → RV K F' As' r v → Q v H')) →
      t { nx := fun _ H' => Q .non H', rt := Q } (start N vs) H) : t { nx := fun _ H' => Q .non H', rt := Q } (start N vs) H := by
  obtain ⟨F, As, M, rs, M', o, S, hL, hΦ, post⟩ := h
  have len : ∀ {F' As' M'' H' σ' E'}, Sta K (Sta.self F H As) F' As' M'' σ' E' H' → As <+: As' → M''.take M.length = M' → Fin K F H As M' F' H' As' M'' := fun {F' As' M'' H' σ' E'} S' p c => by
    have l1 := S.len
    refine ⟨⟨_, _, S'⟩, p, by rw [l1]; exact c, ?_⟩
    rw [← c, List.length_take, l1]
    have l2 := S'.len
    obtain ⟨t, ht⟩ := p
    have : As'.length = As.length + t.length := by rw [← ht, List.length_append]
    omega
  refine body F As M rs M' o hΦ hL (Sta.self F H As) (S.enter N) (fun a h => h) S.len ?_
  cases o with
  | ret d => exact fun v F' As' M'' σ' E' H' S' c rv => post v F' As' M'' H' (len S' S'.pA c) rv
  | new mc => exact fun v k F' As' M'' σ' E' H' S' c hk h1 h2 rv => post v k F' As' M'' H' (len S' S'.pA c) (by rw [S.len]; exact hk) h1 h2 rv
  | exc C fs => exact fun dd ws F' As' M'' σ' E' H' S' c h1 h2 => post dd ws F' As' M'' H' (len S' S'.pA c) h1 h2
  | grow ms r => exact fun v F' As' M'' σ' E' H' S' c h1 rv => post v F' As' M'' H' (len S' S'.pA c) (by rw [S.len]; exact h1) rv
theorem FSp.len {vs : List V} {H : Hp} {Q : VK} {X : XK} {n : Nat} (h : FSp K Φ vs H Q X) (hn : ∀ M rs M' o, Φ M rs M' o → rs.length = n) : vs.length = n := by
  obtain ⟨F, As, M, rs, M', o, S, hL, hΦ, _⟩ := h
  have := S.slots.1
  simp at this
  rw [← this]
  exact hn _ _ _ _ hΦ
end
end DL
set_option Elab.async false
set_option linter.all false
set_option maxRecDepth 100000
set_option maxHeartbeats 2000000
/-! DL, sixth part: statements and loops. -/
namespace DL
open PySem L2
open Evl (Ex)
/-- the item of a list that is read ahead of a store to its place -/
theorem pget_list {X : Cx} : PGet X (rIxL X.K) := by
  intro pns sh sl Hh xv yv vv uu Qw Iv rx ry hw
  obtain ⟨aa, ws, ii, zz, rfl, rfl, hsq, hat, qq⟩ := hw
  cases rx
  obtain ⟨tk, rfl⟩ := ry
  obtain ⟨its, rvs, hpl, hsz⟩ := Iv.list hsq
  obtain ⟨jj, g1, g2, g3, g4, g5⟩ := atI_get hat
  obtain ⟨w2, ew, rw2⟩ := rvs.get g2
  have hlen := rvs.length
  have hline := line63
  have done : EP X pns sl Qw w2 sh := ⟨zz, Hh, Iv, rw2, qq⟩
  by_cases h0 : 0 ≤ ii
  · have hj : ii.toNat = jj := by
      rw [seqIndex_of h0 g5] at g1
      exact Option.some.inj g1
    exact wpAny_getItem_list hpl.isList h0 (by omega) (by rw [hj]; simpa using ew) done
  · have hj : (ii + (its.toArray.size : Int)).toNat = jj := by
      rw [seqIndex_neg (by omega) g4] at g1
      rw [List.size_toArray, ← hlen]
      exact Option.some.inj g1
    exact wpAny_getItem_list_neg hpl.isList (by omega) (by rw [List.size_toArray] <;> omega) (by omega) (by rw [hj]; simpa using ew) done
section
variable {K : PySem.W.Frag} {B : Base} {F F' F1 H H' H1 : Hp} {As As' As1 : List Addr} {M M0 M0' M1 M2 M3 M' M'' : List MC} {σ σ' : St} {E E' : List (Option Rv)} {ta tb te tx : TE} {x y z r : Rv} {op : R2} {xs rs rs0 : List Rv} {b : Bool} {D : Ends} {t u t1 t2 : TS} {d : DL.D}
/-- what is wanted behind a state -/
abbrev Nxt (K : PySem.W.Frag) (B : Base) (M : List MC) (E : List (Option Rv)) (Q : St → Hp → Prop) : Prop := ∀ F As σ H, Sta K B F As M σ E H → Q σ H
theorem s_set {i : Nat} (S : Sta K B F As M σ E H) (h : EvD K te M E M' r) (k : Nxt K B M' (E.set i (some r)) D.nx) : tAsg te (gName i) D σ H :=
  h B F As σ H S _ fun v F1 As1 H1 S1 _ _ rv => k F1 As1 _ H1 (S1.set rv)
theorem q_set {i : Nat} (S : Sta K B F As M σ E H) (h : EvD K te M E M' r) (k : Nxt K B M' (E.set i (some r)) (u D)) : tSeq (tAsg te (gName i)) u D σ H := s_set (D := { D with nx := u D }) S h k
theorem s_tup2 {i j : Nat} {d1 d2 : DL.D} (S : Sta K B F As M σ E H) (h : EvD K te M E M' (.dat (.tup [d1, d2]))) (k : Nxt K B M' ((E.set i (some (.dat d1))).set j (some (.dat d2))) D.nx) : tAsg te (gTup K 2 (gCons (gName i) (gCons (gName j) gNil))) D σ H :=
  h B F As σ H S _ fun v F1 As1 H1 S1 _ _ rv => by
    obtain ⟨a, vs, rfl, ha, pa⟩ := R.tup_inv rv
    obtain ⟨v1, ws, rfl, r1, pa⟩ := pa.inv_cons
    obtain ⟨v2, ws, rfl, r2, pa⟩ := pa.inv_cons
    have := pa.inv_nil; subst this
    exact ⟨a, [v1, v2], rfl, SqT.of (S1.ex _ _ ha), rfl, v1, [v2], rfl, v2, [], rfl, rfl, k _ _ _ _ ((S1.set (r := .dat d1) r1).set (r := .dat d2) r2)⟩
theorem q_tup2 {i j : Nat} {d1 d2 : DL.D} (S : Sta K B F As M σ E H) (h : EvD K te M E M' (.dat (.tup [d1, d2]))) (k : Nxt K B M' ((E.set i (some (.dat d1))).set j (some (.dat d2))) (u D)) : tSeq (tAsg te (gTup K 2 (gCons (gName i) (gCons (gName j) gNil)))) u D σ H := s_tup2 (D := { D with nx := u D }) S h k
/-- xs[i] = e, xs a cell -/
theorem s_setL {k : Nat} {ds : List DL.D} {i : Int} (S : Sta K B F As M σ E H) (h : EvD K te M E M1 (.dat d)) (ho : EvD K ta M1 E M2 (.cel k)) (hi : EvD K tb M2 E M3 (rint i)) (hk : M3[k]? = some (.lst ds)) (h0 : 0 ≤ i) (h1 : i < ds.length)
    (kk : Nxt K B (M3.set k (.lst (ds.set i.toNat d))) E D.nx) : tAsg te (gSub ta tb rSetL) D σ H :=
  h B F As σ H S _ fun v F1 As1 H1 S1 e1 p1 r1 => ho B F1 As1 σ H1 S1 _ fun v2 F2 As2 H2 S2 e2 p2 r2 => hi B F2 As2 σ H2 S2 _ fun v3 F3 As3 H3 S3 e3 p3 r3 => by
    obtain ⟨a, hA, rfl⟩ := r2
    have hA := prefix_get p3 hA
    cases R.int_inv r3
    obtain ⟨_, o, ho, vs, rfl, pa⟩ := S3.cell k a _ hA hk (by intro z; cases z)
    have rd : R K F3 d v := R.mono r1 (e2.trans e3)
    refine ⟨a, vs, i, i.toNat, rfl, rfl, ho, ?_, kk _ _ _ _ (S3.chg hA hk (by intro z; cases z) ⟨_, rfl, pa.set rd⟩)⟩
    unfold ixN
    rw [if_pos h0, if_pos (by rw [← pa.1]; omega)]
theorem q_setL {k : Nat} {ds : List DL.D} {i : Int} (S : Sta K B F As M σ E H) (h : EvD K te M E M1 (.dat d)) (ho : EvD K ta M1 E M2 (.cel k)) (hi : EvD K tb M2 E M3 (rint i)) (hk : M3[k]? = some (.lst ds)) (h0 : 0 ≤ i) (h1 : i < ds.length)
    (kk : Nxt K B (M3.set k (.lst (ds.set i.toNat d))) E (u D)) : tSeq (tAsg te (gSub ta tb rSetL)) u D σ H := s_setL (D := { D with nx := u D }) S h ho hi hk h0 h1 kk
theorem s_setLI {k : Nat} {ns : List Int} {i e : Int} (S : Sta K B F As M σ E H) (h : EvD K te M E M1 (rint e)) (ho : EvD K ta M1 E M2 (.cel k)) (hi : EvD K tb M2 E M3 (rint i)) (hk : M3[k]? = some (.lst (ns.map DL.D.int))) (h0 : 0 ≤ i) (h1 : i < ns.length)
    (kk : Nxt K B (M3.set k (.lst ((ns.set i.toNat e).map DL.D.int))) E D.nx) : tAsg te (gSub ta tb rSetL) D σ H :=
  s_setL S h ho hi hk h0 (by rw [List.length_map]; exact h1) (by rw [List.map_set] at kk; exact kk)
theorem q_setLI {k : Nat} {ns : List Int} {i e : Int} (S : Sta K B F As M σ E H) (h : EvD K te M E M1 (rint e)) (ho : EvD K ta M1 E M2 (.cel k)) (hi : EvD K tb M2 E M3 (rint i)) (hk : M3[k]? = some (.lst (ns.map DL.D.int))) (h0 : 0 ≤ i) (h1 : i < ns.length)
    (kk : Nxt K B (M3.set k (.lst ((ns.set i.toNat e).map DL.D.int))) E (u D)) : tSeq (tAsg te (gSub ta tb rSetL)) u D σ H := s_setLI (D := { D with nx := u D }) S h ho hi hk h0 h1 kk
/-- xs[i] op= e, xs a cell of numbers -/
theorem s_augS {f : Int → Int → Int} {k : Nat} {ns : List Int} {i e : Int} (S : Sta K B F As M σ E H) (ho : EvD K ta M E M1 (.cel k)) (hi : EvD K tb M1 E M2 (rint i)) (he : EvD K te M2 E M3 (rint e)) (hk2 : M2[k]? = some (.lst (ns.map DL.D.int))) (hk3 : M3[k]? = some (.lst (ns.map DL.D.int))) (h0 : 0 ≤ i) (h1 : i < ns.length)
    (kk : Nxt K B (M3.set k (.lst ((ns.set i.toNat (f (gI ns i) e)).map DL.D.int))) E D.nx) : tAugS ta tb te (rIxL K) (ipI f) rSetL D σ H :=
  ho B F As σ H S _ fun v F1 As1 H1 S1 e1 p1 r1 => hi B F1 As1 σ H1 S1 _ fun v2 F2 As2 H2 S2 e2 p2 r2 =>
    od_ixI (.inr ⟨k, rfl, hk2⟩) h0 h1 B F2 As2 σ E H2 v v2 S2 (r1.m e2 p2) r2 _ fun w F2' As2' H2' S2' e2' p2' r2' => he B F2' As2' σ H2' S2' _ fun v3 F3 As3 H3 S3 e3 p3 r3 => by
    cases R.int_inv r2'
    cases R.int_inv r3
    refine ⟨_, _, rfl, rfl, ?_⟩
    obtain ⟨a, hA, rfl⟩ := r1
    have hA := prefix_get (p2.trans (p2'.trans p3)) hA
    cases R.int_inv r2
    obtain ⟨_, o, ho, vs, rfl, pa⟩ := S3.cell k a _ hA hk3 (by intro z; cases z)
    refine ⟨a, vs, i, i.toNat, rfl, rfl, ho, ?_, kk _ _ _ _ (S3.chg hA hk3 (by intro z; cases z) ⟨_, rfl, ?_⟩)⟩
    · unfold ixN
      have := pa.1
      rw [List.length_map] at this
      rw [if_pos h0, if_pos (by omega)]
    · rw [List.map_set]
      exact pa.set (.int _)
theorem q_augS {f : Int → Int → Int} {k : Nat} {ns : List Int} {i e : Int} (S : Sta K B F As M σ E H) (ho : EvD K ta M E M1 (.cel k)) (hi : EvD K tb M1 E M2 (rint i)) (he : EvD K te M2 E M3 (rint e)) (hk2 : M2[k]? = some (.lst (ns.map DL.D.int))) (hk3 : M3[k]? = some (.lst (ns.map DL.D.int))) (h0 : 0 ≤ i) (h1 : i < ns.length)
    (kk : Nxt K B (M3.set k (.lst ((ns.set i.toNat (f (gI ns i) e)).map DL.D.int))) E (u D)) : tSeq (tAugS ta tb te (rIxL K) (ipI f) rSetL) u D σ H := s_augS (D := { D with nx := u D }) S ho hi he hk2 hk3 h0 h1 kk
theorem s_aug {i : Nat} {f : Int → Int → Int} {a c : Int} (S : Sta K B F As M σ E H) (hx : E[i]? = some (some (rint a))) (h : EvD K te M E M' (rint c)) (k : Nxt K B M' (E.set i (some (rint (f a c)))) D.nx) : tAug i te (ipI f) D σ H := by
  obtain ⟨v, hv, rv⟩ := S.slots.2 i _ hx
  cases R.int_inv rv
  exact ⟨_, hv, h B F As σ H S _ fun w F1 As1 H1 S1 _ _ rw_ => by
    cases R.int_inv rw_
    exact ⟨a, c, rfl, rfl, k _ _ _ _ (S1.set (r := rint (f a c)) (.int _))⟩⟩
theorem q_aug {i : Nat} {f : Int → Int → Int} {a c : Int} (S : Sta K B F As M σ E H) (hx : E[i]? = some (some (rint a))) (h : EvD K te M E M' (rint c)) (k : Nxt K B M' (E.set i (some (rint (f a c)))) (u D)) : tSeq (tAug i te (ipI f)) u D σ H := s_aug (D := { D with nx := u D }) S hx h k
/-- d[k] = e, d a cell -/
theorem s_dput {j : Nat} {kvs : List (Key × DL.D)} {kd : DL.D} {kk : Key} (S : Sta K B F As M σ E H) (h : EvD K te M E M1 (.dat d)) (ho : EvD K ta M1 E M2 (.cel j)) (hi : EvD K tb M2 E M3 (.dat kd)) (hkk : kd.key = some kk) (hk : M3[j]? = some (.dct kvs)) (hl : kvs.length < 16777216)
    (k : Nxt K B (M3.set j (.dct (putG kvs kk d))) E D.nx) : sDPut ta tb te D σ H :=
  h B F As σ H S _ fun v F1 As1 H1 S1 e1 p1 r1 => ho B F1 As1 σ H1 S1 _ fun v2 F2 As2 H2 S2 e2 p2 r2 => hi B F2 As2 σ H2 S2 _ fun v3 F3 As3 H3 S3 e3 p3 r3 => by
    obtain ⟨a, hA, rfl⟩ := r2
    have hA := prefix_get p3 hA
    have ek := R.key r3 hkk
    obtain ⟨_, o, ho, ws, rfl, pa⟩ := S3.cell j a _ hA hk (by intro z; cases z)
    have rd : R K F3 d v := R.mono r1 (e2.trans e3)
    exact ⟨a, _, rfl, .inl ⟨ws, kk, ho, ek, szlt (by rw [← pa.1]; exact hl), rfl⟩, k _ _ _ _ (S3.chg hA hk (by intro z; cases z) ⟨_, rfl, PK.put pa rd⟩)⟩
theorem q_dput {j : Nat} {kvs : List (Key × DL.D)} {kd : DL.D} {kk : Key} (S : Sta K B F As M σ E H) (h : EvD K te M E M1 (.dat d)) (ho : EvD K ta M1 E M2 (.cel j)) (hi : EvD K tb M2 E M3 (.dat kd)) (hkk : kd.key = some kk) (hk : M3[j]? = some (.dct kvs)) (hl : kvs.length < 16777216)
    (k : Nxt K B (M3.set j (.dct (putG kvs kk d))) E (u D)) : tSeq (sDPut ta tb te) u D σ H := s_dput (D := { D with nx := u D }) S h ho hi hkk hk hl k
/-- xs.append(e), xs a cell -/
theorem s_app {k : Nat} {ds : List DL.D} (S : Sta K B F As M σ E H) (ho : EvD K ta M E M1 (.cel k)) (h : EvD K te M1 E M2 (.dat d)) (hk1 : M1[k]? = some (.lst ds)) (hk : M2[k]? = some (.lst ds)) (hl : ds.length < 16777216)
    (kk : Nxt K B (M2.set k (.lst (ds ++ [d]))) E D.nx) : tDrop (tBM K "list" rAppend ta (tCons te tNil)) D σ H :=
  ho B F As σ H S _ fun v F1 As1 H1 S1 e1 p1 r1 => by
    obtain ⟨a, hA, rfl⟩ := r1
    obtain ⟨_, o, ho1, vs1, rfl, pa1⟩ := S1.cell k a _ hA hk1 (by intro z; cases z)
    refine ⟨.inl ⟨rfl, _, SqL.of ho1⟩, h B F1 As1 σ H1 S1 _ fun v2 F2 As2 H2 S2 e2 p2 r2 => ?_⟩
    have hA := prefix_get p2 hA
    obtain ⟨_, o, ho, vs, rfl, pa⟩ := S2.cell k a _ hA hk (by intro z; cases z)
    exact ⟨a, vs, v2, rfl, rfl, ho, szlt (by rw [← pa.1]; exact hl), kk _ _ _ _ (S2.chg hA hk (by intro z; cases z) ⟨_, rfl, pa.append (P2.single r2)⟩)⟩
theorem q_app {k : Nat} {ds : List DL.D} (S : Sta K B F As M σ E H) (ho : EvD K ta M E M1 (.cel k)) (h : EvD K te M1 E M2 (.dat d)) (hk1 : M1[k]? = some (.lst ds)) (hk : M2[k]? = some (.lst ds)) (hl : ds.length < 16777216)
    (kk : Nxt K B (M2.set k (.lst (ds ++ [d]))) E (u D)) : tSeq (tDrop (tBM K "list" rAppend ta (tCons te tNil))) u D σ H := s_app (D := { D with nx := u D }) S ho h hk1 hk hl kk
theorem s_appI {k : Nat} {ns : List Int} {e : Int} (S : Sta K B F As M σ E H) (ho : EvD K ta M E M1 (.cel k)) (h : EvD K te M1 E M2 (rint e)) (hk1 : M1[k]? = some (.lst (ns.map DL.D.int))) (hk : M2[k]? = some (.lst (ns.map DL.D.int))) (hl : ns.length < 16777216)
    (kk : Nxt K B (M2.set k (.lst ((ns ++ [e]).map DL.D.int))) E D.nx) : tDrop (tBM K "list" rAppend ta (tCons te tNil)) D σ H :=
  s_app S ho h hk1 hk (by rw [List.length_map]; exact hl) (by rw [List.map_append] at kk; exact kk)
theorem q_appI {k : Nat} {ns : List Int} {e : Int} (S : Sta K B F As M σ E H) (ho : EvD K ta M E M1 (.cel k)) (h : EvD K te M1 E M2 (rint e)) (hk1 : M1[k]? = some (.lst (ns.map DL.D.int))) (hk : M2[k]? = some (.lst (ns.map DL.D.int))) (hl : ns.length < 16777216)
    (kk : Nxt K B (M2.set k (.lst ((ns ++ [e]).map DL.D.int))) E (u D)) : tSeq (tDrop (tBM K "list" rAppend ta (tCons te tNil))) u D σ H := s_appI (D := { D with nx := u D }) S ho h hk1 hk hl kk
theorem s_drop (S : Sta K B F As M σ E H) (h : EvD K te M E M' r) (k : Nxt K B M' E D.nx) : tDrop te D σ H := h B F As σ H S _ fun v F1 As1 H1 S1 _ _ _ => k _ _ _ _ S1
theorem q_drop (S : Sta K B F As M σ E H) (h : EvD K te M E M' r) (k : Nxt K B M' E (u D)) : tSeq (tDrop te) u D σ H := s_drop (D := { D with nx := u D }) S h k
theorem s_if {c : TT} (S : Sta K B F As M σ E H) (h : EvT K c M E M' b) (h1 : b = true → Nxt K B M' E (t1 D)) (h2 : b = false → Nxt K B M' E (t2 D)) : tIfS c t1 t2 D σ H :=
  h B F As σ H S _ fun F1 As1 H1 S1 _ _ => by
    cases b with
    | true => exact h1 rfl _ _ _ _ S1
    | false => exact h2 rfl _ _ _ _ S1
theorem q_if {c : TT} (S : Sta K B F As M σ E H) (h : EvT K c M E M' b) (h1 : b = true → Nxt K B M' E (t1 { D with nx := u D })) (h2 : b = false → Nxt K B M' E (t2 { D with nx := u D })) : tSeq (tIfS c t1 t2) u D σ H := s_if (D := { D with nx := u D }) S h h1 h2
theorem s_next (S : Sta K B F As M σ E H) (k : Nxt K B M E D.nx) : tNext D σ H := k _ _ _ _ S
theorem q_next (k : u D σ H) : tSeq tNext u D σ H := k
theorem s_ret (S : Sta K B F As M σ E H) (h : EvD K te M E M' r) (k : ∀ v F' As' σ' H', Sta K B F' As' M' σ' E H' → RV K F' As' r v → D.rt v H') : tRet te D σ H :=
  h B F As σ H S _ fun v F1 As1 H1 S1 _ _ rv => k v F1 As1 _ H1 S1 rv
theorem q_ret (S : Sta K B F As M σ E H) (h : EvD K te M E M' r) (k : ∀ v F' As' σ' H', Sta K B F' As' M' σ' E H' → RV K F' As' r v → D.rt v H') : tSeq (tRet te) u D σ H := s_ret (D := { D with nx := u D }) S h k
/-! ### loops: P, a word of the turn, the cells and the slots -/
def NxP (K : PySem.W.Frag) (B : Base) (P : List MC → List (Option Rv) → Prop) : St → Hp → Prop := fun σ H => ∃ F As M E, Sta K B F As M σ E H ∧ P M E
theorem s_end {P : List MC → List (Option Rv) → Prop} (S : Sta K B F As M σ E H) (hP : P M E') (hE : Ele E' E) : NxP K B P σ H := ⟨F, As, M, E', S.weak hE, hP⟩
theorem s_forR1 {t : TA} {j : Nat} {n : Int} (S : Sta K B F As M σ E H) (ha : EvA K t M E M1 [rint n]) (hn : -16777216 ≤ n ∧ n ≤ 16777216) (P : Nat → List MC → List (Option Rv) → Prop) (h0 : P 0 M1 E)
    (hb : ∀ (i : Nat) M E, (i : Int) < n → P i M E → Nxt K B M (E.set j (some (rint (i : Int)))) (u { D with nx := NxP K B (P (i + 1)), ct := NxP K B (P (i + 1)), bk := D.nx }))
    (hd : ∀ M E, P n.toNat M E → Nxt K B M E D.nx) : tFor (iRng1 t) (gName j) u D σ H :=
  ha B F As σ H S _ fun vs F1 As1 H1 S1 _ _ r1 => by
    obtain ⟨w, rfl, hw⟩ := r1.one
    cases R.int_inv hw
    refine ⟨n, rfl, by omega, by omega, for_range (lo := 0) (n := n.toNat) (fun i => NxP K B (P i)) ⟨F1, As1, M1, E, S1, h0⟩ (fun i σ' H' hi ⟨F2, As2, M2, E2, S2, hP⟩ => ?_) (fun σ' H' ⟨F2, As2, M2, E2, S2, hP⟩ => hd M2 E2 hP _ _ _ _ S2)⟩
    have e0 : (0 : Int) + (i : Int) = (i : Int) := Int.zero_add _
    rw [e0]
    exact hb i M2 E2 (by omega) hP _ _ _ _ (S2.set (r := rint (i : Int)) (.int _))
theorem q_forR1 {t : TA} {j : Nat} {n : Int} {u' : TS} (S : Sta K B F As M σ E H) (ha : EvA K t M E M1 [rint n]) (hn : -16777216 ≤ n ∧ n ≤ 16777216) (P : Nat → List MC → List (Option Rv) → Prop) (h0 : P 0 M1 E)
    (hb : ∀ (i : Nat) M E, (i : Int) < n → P i M E → Nxt K B M (E.set j (some (rint (i : Int)))) (u { D with nx := NxP K B (P (i + 1)), ct := NxP K B (P (i + 1)), bk := u' D }))
    (hd : ∀ M E, P n.toNat M E → Nxt K B M E (u' D)) : tSeq (tFor (iRng1 t) (gName j) u) u' D σ H := s_forR1 (D := { D with nx := u' D }) S ha hn P h0 hb hd
theorem s_forR2 {t : TA} {j : Nat} {a n : Int} (S : Sta K B F As M σ E H) (ha : EvA K t M E M1 [rint a, rint n]) (hn : -16777216 ≤ n ∧ n ≤ 16777216 ∧ -16777216 ≤ a ∧ a ≤ 16777216) (P : Nat → List MC → List (Option Rv) → Prop) (h0 : P 0 M1 E)
    (hb : ∀ (i : Nat) M E, a + (i : Int) < n → P i M E → Nxt K B M (E.set j (some (rint (a + (i : Int))))) (u { D with nx := NxP K B (P (i + 1)), ct := NxP K B (P (i + 1)), bk := D.nx }))
    (hd : ∀ M E, P (n - a).toNat M E → Nxt K B M E D.nx) : tFor (iRng2 t) (gName j) u D σ H :=
  ha B F As σ H S _ fun vs F1 As1 H1 S1 _ _ r1 => by
    obtain ⟨w, w2, rfl, hw, hw2⟩ := r1.two
    cases R.int_inv hw; cases R.int_inv hw2
    exact ⟨a, n, rfl, ⟨by omega, by omega, by omega, by omega⟩, for_range (lo := a) (n := (n - a).toNat) (fun i => NxP K B (P i)) ⟨F1, As1, M1, E, S1, h0⟩ (fun i σ' H' hi ⟨F2, As2, M2, E2, S2, hP⟩ => hb i M2 E2 (by omega) hP _ _ _ _ (S2.set (r := rint (a + (i : Int))) (.int _))) (fun σ' H' ⟨F2, As2, M2, E2, S2, hP⟩ => hd M2 E2 hP _ _ _ _ S2)⟩
theorem q_forR2 {t : TA} {j : Nat} {a n : Int} {u' : TS} (S : Sta K B F As M σ E H) (ha : EvA K t M E M1 [rint a, rint n]) (hn : -16777216 ≤ n ∧ n ≤ 16777216 ∧ -16777216 ≤ a ∧ a ≤ 16777216) (P : Nat → List MC → List (Option Rv) → Prop) (h0 : P 0 M1 E)
    (hb : ∀ (i : Nat) M E, a + (i : Int) < n → P i M E → Nxt K B M (E.set j (some (rint (a + (i : Int))))) (u { D with nx := NxP K B (P (i + 1)), ct := NxP K B (P (i + 1)), bk := u' D }))
    (hd : ∀ M E, P (n - a).toNat M E → Nxt K B M E (u' D)) : tSeq (tFor (iRng2 t) (gName j) u) u' D σ H := s_forR2 (D := { D with nx := u' D }) S ha hn P h0 hb hd
/-- the base of a loop that reads what was frozen at its start -/
def Base.up (B : Base) (F : Hp) : Base := { B with F0 := F }
theorem Sta.toUp (S : Sta K B F As M σ E H) : Sta K (B.up F) F As M σ E H := { S with bF := Ex.refl F, bN := fun a o h h0 => h0, bH := S.bH, bA := S.bA, bK := S.bK, pA := S.pA }
theorem Sta.ofUp (S : Sta K B F1 As1 M1 σ E H1) (S' : Sta K (B.up F1) F As M σ' E' H) : Sta K B F As M σ' E' H := { S' with bF := S.bF.trans S'.bF, bN := fun a o h h0 => S'.bN a o h (S.bN a o h h0), bH := S'.bH, bA := S'.bA, bK := S'.bK, pA := S'.pA }
/-- what holds of the one base holds of the other -/
abbrev Cv (K : PySem.W.Frag) (B' B : Base) : Prop := ∀ {F As M σ E H}, Sta K B' F As M σ E H → Sta K B F As M σ E H
/-- for x in xs, xs data: g stores the item -/
theorem s_forG {tl : TE} {g : TG} {st : List (Option Rv) → DL.D → List (Option Rv) → Prop} {ds : List DL.D} (S : Sta K B F As M σ E H) (ha : EvD K tl M E M1 (.dat (.lst ds)))
    (hg : ∀ {B F As M σ E H d v} {Q : St → Hp → Prop}, d ∈ ds → Sta K B F As M σ E H → R K F d v → (∀ σ' E', st E d E' → Sta K B F As M σ' E' H → Q σ' H) → g v σ H Q)
    (P : Nat → List MC → List (Option Rv) → Prop) (h0 : P 0 M1 E)
    (hb : ∀ (B' : Base), Cv K B' B → ∀ (i : Nat) (d : DL.D) M E E', ds[i]? = some d → P i M E → st E d E' → Nxt K B' M E' (u { D with nx := NxP K B' (P (i + 1)), ct := NxP K B' (P (i + 1)), bk := D.nx }))
    (hd : ∀ M E, P ds.length M E → Nxt K B M E D.nx) : tFor (iList K tl) g u D σ H :=
  ha B F As σ H S _ fun vs F1 As1 H1 S1 _ _ r1 => by
    obtain ⟨a, ws, rfl, hA, pa⟩ := R.lst_inv r1
    refine ⟨a, rfl, ⟨ws, SqL.of (S1.ex _ _ hA)⟩, for_list (K := K) (a := a) (xs := ws) (fun i => NxP K (B.up F1) (P i)) ⟨F1, As1, M1, E, S1.toUp, h0⟩ (fun i σ' H' _ ⟨F2, As2, M2, E2, S2, hP⟩ => SqL.of (S2.ex _ _ (S2.bF _ _ hA))) (fun i x σ' H' hi ⟨F2, As2, M2, E2, S2, hP⟩ => ?_) (fun σ' H' ⟨F2, As2, M2, E2, S2, hP⟩ => hd M2 E2 (by rw [pa.1]; exact hP) _ _ _ _ (S1.ofUp S2))⟩
    obtain ⟨d, hd, rd⟩ := pa.flip.get hi
    exact hg (List.mem_of_getElem? hd) S2 (R.mono rd S2.bF) fun σ3 E3 hst S3 => hb (B.up F1) (fun S => S1.ofUp S) i d M2 E2 E3 hd hP hst _ _ _ _ S3
theorem s_forL {tl : TE} {j : Nat} {ds : List DL.D} (S : Sta K B F As M σ E H) (ha : EvD K tl M E M1 (.dat (.lst ds))) (P : Nat → List MC → List (Option Rv) → Prop) (h0 : P 0 M1 E)
    (hb : ∀ (B' : Base), Cv K B' B → ∀ (i : Nat) (d : DL.D) M E, ds[i]? = some d → P i M E → Nxt K B' M (E.set j (some (.dat d))) (u { D with nx := NxP K B' (P (i + 1)), ct := NxP K B' (P (i + 1)), bk := D.nx }))
    (hd : ∀ M E, P ds.length M E → Nxt K B M E D.nx) : tFor (iList K tl) (gName j) u D σ H :=
  s_forG (st := fun E d E' => E' = E.set j (some (.dat d))) S ha (fun {B F As M σ E H d v Q} hm S rd k => k _ _ rfl (S.set (r := .dat d) rd)) P h0 (fun B' cv i d M E E' h1 h2 h3 => h3 ▸ hb B' cv i d M E h1 h2) hd
theorem q_forL {tl : TE} {j : Nat} {ds : List DL.D} {u' : TS} (S : Sta K B F As M σ E H) (ha : EvD K tl M E M1 (.dat (.lst ds))) (P : Nat → List MC → List (Option Rv) → Prop) (h0 : P 0 M1 E)
    (hb : ∀ (B' : Base), Cv K B' B → ∀ (i : Nat) (d : DL.D) M E, ds[i]? = some d → P i M E → Nxt K B' M (E.set j (some (.dat d))) (u { D with nx := NxP K B' (P (i + 1)), ct := NxP K B' (P (i + 1)), bk := u' D }))
    (hd : ∀ M E, P ds.length M E → Nxt K B M E (u' D)) : tSeq (tFor (iList K tl) (gName j) u) u' D σ H := s_forL (D := { D with nx := u' D }) S ha P h0 hb hd
/-! ### a cell frozen -/
def sub1 (k : Nat) (d : DL.D) : Option Rv → Option Rv
  | some (.cel j) => if j = k then some (.dat d) else some (.cel j)
  | x => x
def MC.toD : MC → Option DL.D
  | .lst ds => some (.lst ds)
  | .dct kvs => some (.dct kvs)
  | .ins C fs => some (.ins C fs)
  | .gone => none
  | .deep _ => none
theorem Sta.freeze {k : Nat} {mc : MC} {a : Addr} (S : Sta K B F As M σ E H) (hB : ∀ a, B.P a → a ∈ B.A0) (ha : As[k]? = some a) (hk : M[k]? = some mc) (hd : mc.toD = some d) (h0 : B.A0.length ≤ k) :
    ∃ F', Sta K B F' As (M.set k .gone) σ (E.map (sub1 k d)) H ∧ R K F' d (.ref a) := by
  have hg : mc ≠ .gone := by rintro rfl; cases hd
  obtain ⟨g1, o, g2, g3⟩ := S.cell k a mc ha hk hg
  have hP : B.H0 a = none := by
    rcases S.bA a (List.mem_of_getElem? ha) with q | q
    · exfalso
      have hm := hB a q
      obtain ⟨j, hj, e⟩ := List.mem_iff_getElem.mp hm
      have e2 : As[j]? = some a := prefix_get S.pA (by rw [List.getElem?_eq_getElem hj, e])
      have := S.uniq ha e2
      omega
    · exact q
  obtain ⟨S2, e2⟩ := S.frz ha hk hg g2 hP
  have rd : R K (upd F a o) d (.ref a) := by
    cases mc with
    | lst ds => cases hd; obtain ⟨xs, rfl, p⟩ := g3; exact R.lst' upd_same (p.imp fun _ _ z => z.mono e2)
    | dct kvs => cases hd; obtain ⟨xs, rfl, p⟩ := g3; exact R.dct' upd_same (p.imp fun _ _ z => ⟨z.1, z.2.mono e2⟩)
    | ins C fs => cases hd; obtain ⟨dx, xs, rfl, p⟩ := g3; exact R.ins' upd_same (p.imp fun _ _ z => ⟨z.1, z.2.mono e2⟩)
    | gone => cases hd
    | deep x => cases hd
  refine ⟨upd F a o, { S2 with slots := ⟨by rw [List.length_map]; exact S2.slots.1, fun i r h => ?_⟩ }, rd⟩
  rw [List.getElem?_map] at h
  cases c : E[i]? with
  | none => rw [c] at h; cases h
  | some x =>
    rw [c] at h
    have h : sub1 k d x = some r := Option.some.inj h
    cases x with
    | none => cases h
    | some r0 =>
      obtain ⟨v, hv, rv⟩ := S2.slots.2 i r0 c
      refine ⟨v, hv, ?_⟩
      cases r0 with
      | dat d0 => cases h; exact rv
      | cel j =>
        have h : (if j = k then some (Rv.dat d) else some (Rv.cel j)) = some r := h
        by_cases e : j = k
        · subst e
          rw [if_pos rfl] at h
          cases h
          obtain ⟨a', ha', rfl⟩ := rv
          rw [ha] at ha'; cases ha'
          exact rd
        · rw [if_neg e] at h; cases h; exact rv
theorem s_frz {k : Nat} {mc : MC} {t : TS} (S : Sta K B F As M σ E H) (hB : ∀ a, B.P a → a ∈ B.A0) (hk : M[k]? = some mc) (hd : mc.toD = some d) (h0 : B.A0.length ≤ k) (kk : Nxt K B (M.set k .gone) (E.map (sub1 k d)) (t D)) : t D σ H := by
  have hl : k < As.length := by rw [S.len]; exact (List.getElem?_eq_some_iff.mp hk).1
  obtain ⟨F', S2, _⟩ := S.freeze hB (List.getElem?_eq_getElem hl) hk hd h0
  exact kk _ _ _ _ S2
/-- return of a cell of the def's own, frozen -/
theorem s_retF {k : Nat} {mc : MC} (S : Sta K B F As M σ E H) (hB : ∀ a, B.P a → a ∈ B.A0) (h : EvD K te M E M' (.cel k)) (hk : M'[k]? = some mc) (hd : mc.toD = some d) (h0 : B.A0.length ≤ k)
    (kk : ∀ v F' As' σ' E' H', Sta K B F' As' (M'.set k .gone) σ' E' H' → R K F' d v → D.rt v H') : tRet te D σ H :=
  h B F As σ H S _ fun v F1 As1 H1 S1 _ _ rv => by
    obtain ⟨a, ha, rfl⟩ := rv
    obtain ⟨F', S2, rd⟩ := S1.freeze hB ha hk hd h0
    exact kk _ _ _ _ _ _ S2 rd
end
end DL
set_option Elab.async false
set_option linter.all false
set_option maxRecDepth 100000
set_option maxHeartbeats 4000000
/-! DL, seventh part: rules that the hand layer lacks: list(d.keys()), min and max of a list of data; equal data. -/
namespace DL
open PySem L2 PySem.Spec PyProof.Rows
open PySem.W (AlikeAll minD readsAll_len iter_listW cmpIn_lt moved_old dataLt keyToks keyToksAll argBest_fold)
open Evl (Ex)
section
variable {X : Cx} {e : Expr} {te : TE} {p apos cpos pos : Pos}
/-- the keys of a dict as a new list -/
def kKeys : V → Hp → VK → Prop := fun v Hh Qw => ∃ (dd : Addr) (ws : List (Key × V)), v = .ref dd ∧ Hh dd = some (.dK ws) ∧ ∀ q, Hh q = none → Qw (.ref q) (upd Hh q (.lst (ws.map fun z => kV z.1)))
def tListKeys (te : TE) : TE := fun σ Hh Qw => te σ Hh fun v H1 => kKeys v H1 Qw
theorem pe_listKeys (hcalm : X.calm = true) (hde : PE X e te) (hgl : Gl X "list") (hmg : X.mg "list" = none) (hbt : bootBuiltins "list" = some (.type "list")) (hba : attributeBase e "keys" X.env (eval e X.env) = eval e X.env := by rfl) (hli : (apos.endLine == cpos.line) = true := by rfl)
    (hst : starEach [.Call (.Attribute e "keys" apos) [] [] cpos] X.env = (false, eval (.Call (.Attribute e "keys" apos) [] [] cpos) X.env) :: starEach [] X.env := by rfl) :
    PE X (.Call (.Name "list" p) [.Call (.Attribute e "keys" apos) [] [] cpos] [] pos) (tListKeys te) := by
  refine ⟨fun pns sh sl Hh Qw Iv hw => ?_⟩
  refine wpAny_Call_Name_kw (ld_blt Iv hgl hmg hbt ?_)
  refine callWith_type1 ?_ hst rfl
  rw [hst]
  show wpAny _ _ (spliced ((false, eval (.Call (.Attribute e "keys" apos) [] [] cpos) X.env) :: backTo pos (starEach [] X.env))) _ _ sh
  refine Calls.spliced_cons ?_
  refine wpAny_Call_method (T := "dict") (id := "dict.keys") hba rfl hli F.plainAttrs_dict F.slot_dict_keys F.type_dict_keys (thn (hde.run pns sh sl Hh _ Iv hw) fun uu s1 ⟨vv, H1, I1, rv, dd, ws, ev, hd, qq⟩ => ?_)
  subst ev
  obtain rfl : uu = Value.ref dd := rv
  obtain ⟨hz, hlo, vs, kvw, hdo⟩ := I1.hok dd _ hd
  obtain ⟨ep, hat⟩ := hdo.dictAt
  have hlen : ws.length = vs.length := Paired.length kvw
  have I2 : Inv X pns sl H1 { s1 with heap := s1.heap.push { cls := .type "dict_keys", data := .fields #[.ref dd] } } := I1.kept (t' := s1.toks) fun b ob z => Heap.get?_push_of_some _ z
  refine ⟨hdo.typeIs, hdo.mapOf.noDict, ?_⟩
  show wpAny _ _ (callWith cpos (.builtin "dict.keys") [.ref dd] [] []) _ X.xe s1
  refine method_meetsIn F.slot_dict_keys F.entry_dict_keys rfl (PySem.evalArgs_none ⟨rfl, hdo.typeIs, F.args_dict_keys_1 _, _, PySem.W.kdl_meets_keys (mixKind X.prog X.w) dd hlo, ⟨vs, hdo⟩, ?_⟩)
  refine Calls.spliced_nil ?_
  refine PySem.W.kdl_call (PySem.W.kdl_keys (knd := mixKind X.prog X.w) (kvs := vs) (ep := ep) (d := dd)) (I1.ok.hd hcalm) ⟨⟨_, Heap.get?_push_size _ rfl, rfl, rfl⟩, hat.push _⟩ (by rw [← hlen]; exact hz) fun hh tk acc c hkeep hS hacc => ?_
  have new : H1 (s1.heap.push { cls := .type "dict_keys", data := .fields #[.ref dd] }).objs.size = none := I2.hok.fresh (Nat.le_refl _)
  refine ⟨.ref _, _, I2.laid (t' := tk) hkeep (Nat.le_refl _) (o := .lst (ws.map fun z => kV z.1)) ⟨by rw [List.length_map]; exact hz, acc.toList, c, ?_, ?_⟩, rfl, qq _ new⟩
  · have hal : acc.toList.length = acc.size := by simp
    refine vals_of_at (by rw [List.length_map, hal, hacc.1, hlen]) fun j y w2 g1 g2 => ?_
    obtain ⟨kk, y2, hky, his⟩ := hacc.2 j w2 (by rw [← Array.getElem?_toList]; exact g2)
    have g3 : (ws.map (·.1))[j]? = some kk := by rw [KV.keys kvw, List.getElem?_map, hky]; rfl
    rw [List.getElem?_map] at g1 g3
    cases g4 : ws[j]? with
    | none => rw [g4] at g3; cases g3
    | some z =>
      rw [g4] at g1 g3
      have g5 : z.1 = kk := Option.some.inj g3
      have g6 : kV z.1 = y := Option.some.inj g1
      rw [← g6, g5]
      exact keyIs_rel his
  · rw [Array.toArray_toList]; exact hS
/-- min of a list of data that can be compared with one another -/
def rMinD (K : PySem.W.Frag) : List V → Hp → VK → Prop := fun vs Hh Qw => ∃ (a : Addr) (xs : List V) (d : PyData) (ds : List PyData), vs = [.ref a] ∧ SqL K Hh a xs ∧ DpAll K Hh xs (d :: ds) ∧ AlikeAll (d :: ds) ∧ PyData.depthAll (d :: ds) ≤ 60 ∧
  ∀ (i : Nat) (y : V), xs[i]? = some y → (d :: ds).getD i .none = minD d ds → Qw y Hh
theorem cr_minP (hcalm : X.calm = true) (hun : X.A.units + 64 < cLine) : CallR X (.builtin "min") (rMinD X.K) := by
  intro pns sh sl Hh vs us Qw Iv rr hw
  obtain ⟨a, xs, d, ds, rfl, hsq, hdp, hal, hdep, qq⟩ := hw
  obtain ⟨its, rvs, hpl, _⟩ := Iv.list hsq
  rw [Vals.ref1 rr]
  obtain ⟨as, hra⟩ := Dp.readsAll Iv _ _ _ hdp rvs
  have hra2 : ReadsAll sh.heap its.toArray.toList (d :: ds) as := hra
  have hsz : its.toArray.size = ds.length + 1 := readsAll_len hra2
  refine call_min_walkH (iter_listW (A := X.A.in1) (Iv.ok.hd hcalm) hpl.isList fun s₂ es W st hfp hwr hk => ?_)
  refine ⟨_, _, _, _, _, _, _, sh.heap, _, rfl, W, st, hfp, by omega, hwr, hk, cmpIn_lt (A := X.A.in1) hra2 hal (by show X.A.units + 1 + _ < _; omega), fun v s' hv hm => ?_⟩
  obtain ⟨h', tk, rfl, hk'⟩ := moved_old es rfl hm
  have e1 : its.toArray.size - 1 = ds.length := by omega
  have e2 := (argBest_fold dataLt PyData.none d ds ds.length (Nat.le_refl _)).2
  rw [List.take_length] at e2
  rw [e1] at hv
  have hv2 : its[argBest (fun i j => dataLt ((d :: ds).getD i .none) ((d :: ds).getD j .none)) ds.length]? = some v := by simpa using hv
  have hx : ∃ y, xs[argBest (fun i j => dataLt ((d :: ds).getD i .none) ((d :: ds).getD j .none)) ds.length]? = some y ∧ RelV y v := by
    cases g : xs[argBest (fun i j => dataLt ((d :: ds).getD i .none) ((d :: ds).getD j .none)) ds.length]? with
    | none => rw [rvs.none_of g] at hv2; cases hv2
    | some y =>
      obtain ⟨u2, g2, g3⟩ := rvs.get g
      rw [g2] at hv2; cases hv2
      exact ⟨y, rfl, g3⟩
  obtain ⟨y, g1, g2⟩ := hx
  exact ⟨y, Hh, Iv.kept hk', g2, qq _ y g1 (by unfold minD; rw [← e2])⟩
end
/-! ### data as the library's data -/
inductive PyOf : D → PyData → Prop where
  | non : PyOf .non .none
  | bl (b : Bool) : PyOf (.bl b) (.bool b)
  | int (i : Int) : PyOf (.int i) (.int i)
  | str (s : Str) : PyOf (.str s) (.str s)
  | lst {ds : List D} {es : List PyData} (hl : ds.length = es.length) (h : ∀ (i : Nat) (d : D) (e : PyData), ds[i]? = some d → es[i]? = some e → PyOf d e) : PyOf (.lst ds) (.list es)
  | tup {ds : List D} {es : List PyData} (hl : ds.length = es.length) (h : ∀ (i : Nat) (d : D) (e : PyData), ds[i]? = some d → es[i]? = some e → PyOf d e) : PyOf (.tup ds) (.tuple es)
section
variable {K : PySem.W.Frag} {F H : Hp}
theorem dpAll_of : ∀ {vs : List V} {es : List PyData}, vs.length = es.length → (∀ (i : Nat) (v : V) (e : PyData), vs[i]? = some v → es[i]? = some e → Dp K H v e) → DpAll K H vs es
  | [], [], _, _ => .nil
  | v :: vs, e :: es, hl, h => .cons (h 0 v e rfl rfl) (dpAll_of (by simpa using hl) fun i v' e' a b => h (i + 1) v' e' (by simpa using a) (by simpa using b))
  | [], _ :: _, hl, _ => by simp at hl
  | _ :: _, [], hl, _ => by simp at hl
theorem PyOf.dp {d : D} {e : PyData} (h : PyOf d e) (ex : Ex F H) : ∀ {v : V}, R K F d v → Dp K H v e := by
  induction h with
  | non => intro v r; cases r; exact .non
  | bl b => intro v r; cases r; exact .bl b
  | int i => intro v r; cases r; exact .int i
  | str s => intro v r; cases r; exact .str s
  | lst hl h ih =>
    intro v r
    obtain ⟨a, xs, rfl, ha, pa⟩ := R.lst_inv r
    refine .lst (SqL.of (ex _ _ ha)) (dpAll_of (by rw [← pa.1, hl]) fun i v e a b => ?_)
    obtain ⟨d, hd, rd⟩ := pa.flip.get a
    exact ih i d e hd b rd
  | tup hl h ih =>
    intro v r
    obtain ⟨a, xs, rfl, ha, pa⟩ := R.tup_inv r
    refine .tup (SqT.of (ex _ _ ha)) (dpAll_of (by rw [← pa.1, hl]) fun i v e a b => ?_)
    obtain ⟨d, hd, rd⟩ := pa.flip.get a
    exact ih i d e hd b rd
theorem PyOf.ints (ns : List Int) : PyOf (.lst (ns.map D.int)) (.list (ns.map PyData.int)) := by
  refine .lst (by simp) fun i d e a b => ?_
  rw [List.getElem?_map] at a b
  cases c : ns[i]? with
  | none => rw [c] at a; cases a
  | some n => rw [c] at a b; cases a; cases b; exact .int n
end
section
variable {K : PySem.W.Frag} {M M1 M2 : List MC} {E : List (Option Rv)} {x y : Rv} {ta : TE}
theorem shaped_eqv {e : PyData} (h : SeqAt.shaped e = true) : PyData.eqv e e = true := SeqAt.eqv_refl e (SeqAt.canLay_of_shaped h)
/-- a == a, a != a -/
theorem od_eqS1 {d : D} {e : PyData} (h : PyOf d e) (hs : SeqAt.shaped e = true) : OpD K (rEqD K) M (.dat d) (.dat d) M (rbl true) := OpD.pure fun B F H As σ E v w S r1 r2 Q q =>
  ⟨e, e, h.dp S.ex r1, h.dp S.ex r2, hs, hs, by rw [shaped_eqv hs]; exact q _ (.bl _)⟩
theorem od_neS1 {d : D} {e : PyData} (h : PyOf d e) (hs : SeqAt.shaped e = true) : OpD K (rNeD K) M (.dat d) (.dat d) M (rbl false) := OpD.pure fun B F H As σ E v w S r1 r2 Q q =>
  ⟨e, e, h.dp S.ex r1, h.dp S.ex r2, hs, hs, by rw [shaped_eqv hs]; exact q _ (.bl _)⟩
theorem od_neL {ns ms : List Int} (h : ns = ms) : OpD K (rNeD K) M (rints ns) (rints ms) M (rbl false) := h ▸ od_neS1 (PyOf.ints ns) (PySem.W.ke_shaped_ints ns)
theorem od_eqL {ns ms : List Int} (h : ns = ms) : OpD K (rEqD K) M (rints ns) (rints ms) M (rbl true) := h ▸ od_eqS1 (PyOf.ints ns) (PySem.W.ke_shaped_ints ns)
theorem ev_listKeys {kvs : List (Key × D)} {ks : List Int} (ha : EvD K ta M E M1 x) (h : IsDct M1 x kvs) (hk : kvs.map (·.1) = ks.map Sum.inl) : EvD K (tListKeys ta) M E M1 (rints ks) := fun B F As σ H S Q q =>
  ha B F As σ H S _ fun v F1 As1 H1 S1 e1 p1 r1 => by
    obtain ⟨a, ws, rfl, hA, pa⟩ := h.view S1 r1
    refine ⟨a, ws, rfl, hA, fun p hp => ?_⟩
    have e : (ws.map fun z => kV z.1) = ks.map V.int := by
      have h2 : ws.map (·.1) = ks.map Sum.inl := pa.keys ▸ hk
      have h3 : (ws.map fun z => kV z.1) = (ws.map (·.1)).map kV := by rw [List.map_map]; rfl
      rw [h3, h2, List.map_map]; rfl
    rw [e]
    exact ev_lstNew S1 hp (P2.ofInts _) fun u F4 As4 H4 S4 e4 p4 r4 => q u F4 As4 H4 S4 (e1.trans e4) (p1.trans p4) r4
/-! ### min of pairs -/
abbrev pairD (p : Int × Int) : D := .tup [.int p.1, .int p.2]
abbrev pairP (p : Int × Int) : PyData := .tuple [.int p.1, .int p.2]
theorem PyOf.pair (p : Int × Int) : PyOf (pairD p) (pairP p) := .tup rfl fun i d e a b => by
  match i, a, b with
  | 0, a, b => cases a; cases b; exact .int _
  | 1, a, b => cases a; cases b; exact .int _
  | i + 2, a, b => simp at a
theorem lt_pair {p q : Int × Int} (h : p.1 < q.1) : dataLt (pairP q) (pairP p) = false := by
  have h1 : ¬ q.1 < p.1 := by omega
  show PyProof.Rows.lexLt itemOrd (keyToks (pairP q)) (keyToks (pairP p)) = false
  simp [keyToks, keyToksAll, PyProof.Rows.lexLt, itemOrd, itemLt, h, h1]
theorem minD_head {p : Int × Int} : ∀ {ps : List (Int × Int)}, (∀ q ∈ ps, p.1 < q.1) → minD (pairP p) (ps.map pairP) = pairP p
  | [], _ => rfl
  | q :: ps, h => by
    unfold minD
    rw [List.map_cons, List.foldl_cons, lt_pair (h q List.mem_cons_self)]
    exact minD_head (ps := ps) fun r hr => h r (List.mem_cons_of_mem _ hr)
theorem alike_pairs (ps : List (Int × Int)) : AlikeAll (ps.map pairP) := by
  refine ⟨fun x hx y hy => ?_, fun x hx => ?_⟩
  · obtain ⟨p, _, rfl⟩ := List.mem_map.mp hx
    obtain ⟨q, _, rfl⟩ := List.mem_map.mp hy
    rfl
  · obtain ⟨p, _, rfl⟩ := List.mem_map.mp hx
    intro z; cases z
theorem depth_pairs : ∀ ps : List (Int × Int), PyData.depthAll (ps.map pairP) ≤ 60
  | [] => by decide
  | p :: ps => by
    have h := depth_pairs ps
    show max _ _ ≤ 60
    have h2 : PyData.depth (pairP p) ≤ 60 := by
      show PyData.depth (.tuple [.int p.1, .int p.2]) ≤ 60
      simp [PyData.depth, PyData.depthAll]
    omega
theorem cd_minP {p : Int × Int} {ps : List (Int × Int)} (hx : IsLst M x ((p :: ps).map pairD)) (h : ∀ q ∈ ps, p.1 < q.1) : CaD K (rMinD K) M [x] M (.dat (pairD p)) := CaD.pure fun B F H As σ E vs S r1 Q q => by
  obtain ⟨v, rfl, hv⟩ := r1.one
  obtain ⟨a, ws, rfl, ha, pa⟩ := hx.view S hv
  refine ⟨a, ws, pairP p, ps.map pairP, rfl, SqL.of ha, ?_, alike_pairs (p :: ps), depth_pairs (p :: ps), fun i y hy hi => ?_⟩
  · refine dpAll_of (by rw [← pa.1]; simp) fun i v e e1 e2 => ?_
    obtain ⟨d, hd, rd⟩ := pa.flip.get e1
    have e2 : ((p :: ps).map pairP)[i]? = some e := e2
    rw [List.getElem?_map] at hd e2
    cases c : (p :: ps)[i]? with
    | none => rw [c] at hd; cases hd
    | some z => rw [c] at hd e2; cases hd; cases e2; exact (PyOf.pair z).dp S.ex rd
  · rw [minD_head h] at hi
    obtain ⟨d, hd, rd⟩ := pa.flip.get hy
    rw [List.getElem?_map] at hd
    cases c : (p :: ps)[i]? with
    | none => rw [c] at hd; cases hd
    | some z =>
      rw [c] at hd
      have e3 : ((p :: ps).map pairP).getD i .none = pairP z := by rw [List.getD_eq_getElem?_getD, List.getElem?_map, c]; rfl
      have e4 : pairP z = pairP p := e3.symm.trans hi
      have e5 : z = p := by
        injection e4 with e4
        injection e4 with a1 a2
        injection a2 with a2 _
        injection a1 with a1
        injection a2 with a2
        exact Prod.ext a1 a2
      cases hd
      subst e5
      exact q _ rd
end
end DL
set_option Elab.async false
set_option linter.all false
set_option maxRecDepth 100000
set_option maxHeartbeats 4000000
/-! DL, eighth part: comprehensions over lists of numbers, truth of a list, loops over a dict's keys, equality as the laws ask it. -/
namespace DL
open PySem L2
open Evl (Ex)
section
variable {K : PySem.W.Frag} {B : Base} {F F' F1 H H' H1 : Hp} {As As' As1 : List Addr} {M M0 M0' M1 M2 M3 M' M'' : List MC} {σ σ' : St} {E E' : List (Option Rv)} {ta tb te tx tl : TE} {tt : TT} {x y z r : Rv} {xs rs : List Rv} {b : Bool} {j : Nat}
theorem map_gI (xs : List Int) : (List.range xs.length).map (fun i => gI xs (i : Nat)) = xs := by
  refine List.ext_getElem? fun i => ?_
  rw [List.getElem?_map]
  by_cases h : i < xs.length
  · rw [List.getElem?_range h, List.getElem?_eq_getElem h]
    show some (xs.getD (Int.toNat (i : Int)) 0) = _
    rw [Int.toNat_natCast, List.getD_eq_getElem?_getD, List.getElem?_eq_getElem h]; rfl
  · rw [List.getElem?_eq_none (by simpa using h), List.getElem?_eq_none (by omega)]; rfl
theorem givD_list (xs : List Int) (p : Int → Bool) (f : Int → D) : givD xs.length (fun i => p (gI xs (i : Nat))) (fun i => f (gI xs (i : Nat))) = (xs.filter p).map f := by
  have h : (xs.filter p).map f = (((List.range xs.length).map (fun i => gI xs (i : Nat))).filter p).map f := by rw [map_gI]
  rw [h, List.filter_map, List.map_map]; rfl
theorem getElem?_ints {xs : List Int} {i : Nat} {d : D} (h : (xs.map D.int)[i]? = some d) : d = .int (gI xs (i : Nat)) ∧ gI xs (i : Nat) ∈ xs := by
  rw [List.getElem?_map] at h
  cases c : xs[i]? with
  | none => rw [c] at h; cases h
  | some n =>
    rw [c] at h; cases h
    have e : gI xs (i : Nat) = n := by
      unfold gI
      rw [Int.toNat_natCast, List.getD_eq_getElem?_getD, c]; rfl
    rw [e]; exact ⟨rfl, List.mem_of_getElem? c⟩
/-- [e for x in xs if t], numbers, the cells left as they are -/
theorem ev_lcLI {ns : List Int} (p : Int → Bool) (f : Int → D) (ha : EvD K tl M E M1 (rints ns)) (hn : ns.length ≤ 16777000)
    (ht : ∀ n ∈ ns, EvT K tt M1 (E.set j (some (rint n))) M1 (p n)) (he : ∀ n ∈ ns, p n = true → EvD K te M1 (E.set j (some (rint n))) M1 (.dat (f n))) :
    EvD K (tLc (iList K tl) (gName j) tt te [j]) M E M1 (.dat (.lst ((ns.filter p).map f))) := by
  have h := ev_lcL (tt := tt) (te := te) (j := j) (fun _ => M1) (fun i => p (gI ns (i : Nat))) (fun i => f (gI ns (i : Nat))) ha (by rw [List.length_map]; exact hn) rfl fun i d hd => by
    obtain ⟨rfl, hm⟩ := getElem?_ints hd
    exact LcT.tested (ht _ hm) (he _ hm)
  rw [List.length_map, givD_list] at h
  exact h
/-- [e for x in xs] -/
theorem ev_lcLA {ns : List Int} (f : Int → D) (ha : EvD K tl M E M1 (rints ns)) (hn : ns.length ≤ 16777000)
    (he : ∀ n ∈ ns, EvD K te M1 (E.set j (some (rint n))) M1 (.dat (f n))) :
    EvD K (tLc (iList K tl) (gName j) tYes te [j]) M E M1 (.dat (.lst (ns.map f))) := by
  have h := ev_lcLI (tt := tYes) (fun _ => true) f ha hn (fun _ _ => et_yes) fun n hm _ => he n hm
  rwa [List.filter_eq_self.mpr (fun _ _ => rfl)] at h
theorem ev_lcLAI {ns : List Int} (f : Int → Int) (ha : EvD K tl M E M1 (rints ns)) (hn : ns.length ≤ 16777000)
    (he : ∀ n ∈ ns, EvD K te M1 (E.set j (some (rint n))) M1 (rint (f n))) :
    EvD K (tLc (iList K tl) (gName j) tYes te [j]) M E M1 (rints (ns.map f)) := by
  have h := ev_lcLA (fun n => .int (f n)) ha hn he
  have e : (ns.map fun n => D.int (f n)) = (ns.map f).map D.int := by rw [List.map_map]; rfl
  rwa [e] at h
theorem ev_lcLII {ns : List Int} (p : Int → Bool) (f : Int → Int) (ha : EvD K tl M E M1 (rints ns)) (hn : ns.length ≤ 16777000)
    (ht : ∀ n ∈ ns, EvT K tt M1 (E.set j (some (rint n))) M1 (p n)) (he : ∀ n ∈ ns, p n = true → EvD K te M1 (E.set j (some (rint n))) M1 (rint (f n))) :
    EvD K (tLc (iList K tl) (gName j) tt te [j]) M E M1 (rints ((ns.filter p).map f)) := by
  have h := ev_lcLI p (fun n => .int (f n)) ha hn ht he
  have e : ((ns.filter p).map fun n => D.int (f n)) = ((ns.filter p).map f).map D.int := by rw [List.map_map]; rfl
  rwa [e] at h
/-- [e for i in range(n) if t] -/
theorem ev_lcR {t : TA} {n : Int} (p : Nat → Bool) (f : Nat → D) (ha : EvA K t M E M1 [rint n]) (hn : -16777000 ≤ n ∧ n ≤ 16777000)
    (ht : ∀ i : Nat, (i : Int) < n → EvT K tt M1 (E.set j (some (rint (i : Int)))) M1 (p i)) (he : ∀ i : Nat, (i : Int) < n → p i = true → EvD K te M1 (E.set j (some (rint (i : Int)))) M1 (.dat (f i))) :
    EvD K (tLc (iRng1 t) (gName j) tt te [j]) M E M1 (.dat (.lst (((List.range n.toNat).filter p).map f))) :=
  ev_lcR1 (fun _ => M1) p f ha hn rfl fun i hi => LcT.tested (ht i hi) (he i hi)
theorem ev_lcRA {t : TA} {n : Int} (f : Nat → D) (ha : EvA K t M E M1 [rint n]) (hn : -16777000 ≤ n ∧ n ≤ 16777000)
    (he : ∀ i : Nat, (i : Int) < n → EvD K te M1 (E.set j (some (rint (i : Int)))) M1 (.dat (f i))) :
    EvD K (tLc (iRng1 t) (gName j) tYes te [j]) M E M1 (.dat (.lst ((List.range n.toNat).map f))) := by
  have h := ev_lcR (tt := tYes) (fun _ => true) f ha hn (fun _ _ => et_yes) fun i hi _ => he i hi
  rwa [List.filter_eq_self.mpr (fun _ _ => rfl)] at h
theorem ev_lcRAI {t : TA} {n : Int} (f : Nat → Int) (ha : EvA K t M E M1 [rint n]) (hn : -16777000 ≤ n ∧ n ≤ 16777000)
    (he : ∀ i : Nat, (i : Int) < n → EvD K te M1 (E.set j (some (rint (i : Int)))) M1 (rint (f i))) :
    EvD K (tLc (iRng1 t) (gName j) tYes te [j]) M E M1 (rints ((List.range n.toNat).map f)) := by
  have h := ev_lcRA (fun i => .int (f i)) ha hn he
  have e : ((List.range n.toNat).map fun i => D.int (f i)) = ((List.range n.toNat).map f).map D.int := by rw [List.map_map]; rfl
  rwa [e] at h
theorem ev_lcRI {t : TA} {n : Int} (p : Nat → Bool) (f : Nat → Int) (ha : EvA K t M E M1 [rint n]) (hn : -16777000 ≤ n ∧ n ≤ 16777000)
    (ht : ∀ i : Nat, (i : Int) < n → EvT K tt M1 (E.set j (some (rint (i : Int)))) M1 (p i)) (he : ∀ i : Nat, (i : Int) < n → p i = true → EvD K te M1 (E.set j (some (rint (i : Int)))) M1 (rint (f i))) :
    EvD K (tLc (iRng1 t) (gName j) tt te [j]) M E M1 (rints (((List.range n.toNat).filter p).map f)) := by
  have h := ev_lcR p (fun i => .int (f i)) ha hn ht he
  have e : (((List.range n.toNat).filter p).map fun i => D.int (f i)) = (((List.range n.toNat).filter p).map f).map D.int := by rw [List.map_map]; rfl
  rwa [e] at h
/-- .. each turn changing the cells -/
theorem ev_lcRS {t : TA} {n : Int} (Ms : Nat → List MC) (f : Nat → Int) (ha : EvA K t M E M1 [rint n]) (hn : -16777000 ≤ n ∧ n ≤ 16777000) (h0 : Ms 0 = M1)
    (he : ∀ i : Nat, (i : Int) < n → EvD K te (Ms i) (E.set j (some (rint (i : Int)))) (Ms (i + 1)) (rint (f i))) :
    EvD K (tLc (iRng1 t) (gName j) tYes te [j]) M E (Ms n.toNat) (rints ((List.range n.toNat).map f)) := by
  have h := ev_lcR1 (tt := tYes) Ms (fun _ => true) (fun i => .int (f i)) ha hn h0 fun i hi => LcT.moved (he i hi)
  rw [givD_all] at h
  have e : ((List.range n.toNat).map fun i => D.int (f i)) = ((List.range n.toNat).map f).map D.int := by rw [List.map_map]; rfl
  rwa [e] at h
theorem ev_lcRSM {t : TA} {n : Int} (Ms : Nat → List MC) (f : Nat → Int) (ha : EvA K t M E M1 [rint n]) (hn : -16777000 ≤ n ∧ n ≤ 16777000) (h0 : Ms 0 = M1)
    (he : ∀ i : Nat, (i : Int) < n → EvD K te (Ms i) (E.set j (some (rint (i : Int)))) (Ms (i + 1)) (rint (f i))) :
    EvD K (tLc (iRng1 t) (gName j) tYes te [j]) M E (Ms n.toNat ++ [.lst (((List.range n.toNat).map f).map D.int)]) (.cel (Ms n.toNat).length) := by
  have h := ev_lcR1M (tt := tYes) Ms (fun _ => true) (fun i => .int (f i)) ha hn h0 fun i hi => LcT.moved (he i hi)
  rw [givD_all] at h
  have e : ((List.range n.toNat).map fun i => D.int (f i)) = ((List.range n.toNat).map f).map D.int := by rw [List.map_map]; rfl
  rwa [e] at h
/-! ### truth of a list -/
theorem et_truL {ds : List D} (ha : EvD K ta M E M1 x) (h : IsLst M1 x ds) : EvT K (fun σ H Q => ta σ H fun x H' => ∃ k, TruV K x H' k ∧ Q k H') M E M1 (!ds.isEmpty) := fun B F As σ H S Q q =>
  ha B F As σ H S _ fun v F1 As1 H1 S1 e1 p1 r1 => by
    obtain ⟨a, vs, rfl, hA, pa⟩ := h.view S1 r1
    refine ⟨!ds.isEmpty, .inl ⟨vs, SqL.of hA, ?_⟩, q F1 As1 H1 S1 e1 p1⟩
    have := pa.1
    cases ds <;> cases vs <;> first | rfl | simp at this
/-- an item of a dict that the top has written -/
theorem ev_kdict {w : World} {a : Addr} {k : Str} {n : Int} (hb : EvD K tb M E M1 (rstr k)) (h : L2.KDct K w a k (.int n)) : EvD K (tOp (rIxD K w) (tC (.ref a)) tb) M E M1 (rint n) := fun B F As σ H S Q q =>
  hb B F As σ H S _ fun v F1 As1 H1 S1 e1 p1 r1 => ⟨a, k, .int n, rfl, R.str_inv r1, h, q _ F1 As1 H1 S1 e1 p1 (.int n)⟩
theorem cutD_len {α : Type} (xs : List α) (lo hi : Option Int) : (cutD xs lo hi).length ≤ xs.length := by
  unfold cutD
  rw [List.length_take, List.length_drop]; omega
/-! ### any item of a list or a tuple -/
theorem od_ixD {ds : List D} {i : Int} {d : D} (h : IsLst M x ds) (ha : atI ds i = some d) : OpD K (rIx K) M x (rint i) M (.dat d) := fun B F As σ E H v w S r1 r2 Q q =>
  .inl (od_ixL h ha B F As σ E H v w S r1 r2 Q q)
theorem od_ixDT {ds : List D} {i : Int} {d : D} (ha : atI ds i = some d) : OpD K (rIx K) M (.dat (.tup ds)) (rint i) M (.dat d) := fun B F As σ E H v w S r1 r2 Q q =>
  .inr (.inl (od_ixT ha B F As σ E H v w S r1 r2 Q q))
/-! ### for k in d -/
theorem for_keys {d : Addr} {o : Obj} {kvs : List (Key × V)} {g : TG} {tb : TS} {D : Ends} {σ : St} {H : Hp} (Pv : Nat → St → Hp → Prop) (h0 : Pv 0 σ H) (hl : ∀ i σ H, Pv i σ H → H d = some (.frz o (.dK kvs)))
    (hs : ∀ (i : Nat) (k : Key) (v : V) (σ : St) (H : Hp), kvs[i]? = some (k, v) → Pv i σ H → g (kV k) σ H fun σ2 H2 => tb { D with nx := Pv (i + 1), ct := Pv (i + 1), bk := D.nx } σ2 H2) (hd : ∀ σ H, Pv kvs.length σ H → D.nx σ H) :
    ∃ W : Nat → Nat → St → Hp → Prop, (∃ m, W 0 m σ H) ∧ ∀ i m σ H, W i m σ H →
      ((Itk d o kvs).stop i H ∧ D.nx σ H) ∨ ((Itk d o kvs).go i H ∧ ∃ N : St → Hp → Prop, (∀ σ' H', N σ' H' → ∃ m', m' < m ∧ W (i + 1) m' σ' H') ∧ ∀ x H', (Itk d o kvs).yld i H x H' → g x σ H' fun σ2 H2 => tb { D with nx := N, ct := N, bk := D.nx } σ2 H2) := by
  refine ⟨fun i m σ H => m = kvs.length - i ∧ i ≤ kvs.length ∧ Pv i σ H, ⟨kvs.length, by simp, Nat.zero_le _, h0⟩, ?_⟩
  rintro i m σ H ⟨rfl, hi, p⟩
  by_cases hlt : i < kvs.length
  · refine .inr ⟨⟨hl i σ H p, hlt⟩, Pv (i + 1), fun σ' H' p' => ⟨kvs.length - (i + 1), by omega, rfl, hlt, p'⟩, fun x H' hy => ?_⟩
    obtain ⟨e, k, v, hk, ex⟩ := hy
    subst e; subst ex
    exact hs i k v σ _ hk p
  · have e : i = kvs.length := by omega
    subst e
    exact .inl ⟨⟨hl _ σ H p, Nat.le_refl _⟩, hd σ H p⟩
end
/-! ### equality as the laws ask it -/
noncomputable def deq (d e : D) : Bool := @decide (d = e) (Classical.propDecidable _)
theorem deq_eq {d e : D} (h : d = e) : deq d e = true := @decide_eq_true _ (Classical.propDecidable _) h
theorem deq_ne {d e : D} (h : d ≠ e) : deq d e = false := @decide_eq_false _ (Classical.propDecidable _) h
theorem deq_self (d : D) : deq d d = true := deq_eq rfl
theorem deq_int {i j : Int} : deq (.int i) (.int j) = decide (i = j) := by
  by_cases h : i = j
  · rw [deq_eq (by rw [h]), decide_eq_true h]
  · rw [deq_ne (fun z => h (by injection z)), decide_eq_false h]
theorem deq_bl {i j : Bool} : deq (.bl i) (.bl j) = decide (i = j) := by
  by_cases h : i = j
  · rw [deq_eq (by rw [h]), decide_eq_true h]
  · rw [deq_ne (fun z => h (by injection z)), decide_eq_false h]
theorem deq_str {i j : Str} : deq (.str i) (.str j) = decide (i = j) := by
  by_cases h : i = j
  · rw [deq_eq (by rw [h]), decide_eq_true h]
  · rw [deq_ne (fun z => h (by injection z)), decide_eq_false h]
/-- data of lists and tuples, at most so deep -/
def Plain : Nat → D → Prop
  | 0, _ => False
  | _ + 1, .non => True
  | _ + 1, .bl _ => True
  | _ + 1, .int _ => True
  | _ + 1, .str s => PyData.strOk s = true
  | n + 1, .lst ds => ds.length ≤ 16777216 ∧ ∀ d ∈ ds, Plain n d
  | n + 1, .tup ds => ds.length ≤ 16777216 ∧ ∀ d ∈ ds, Plain n d
  | _ + 1, _ => False
theorem Plain.ints {ns : List Int} (n : Nat) (h : ns.length ≤ 16777216) : Plain (n + 2) (.lst (ns.map D.int)) := ⟨by rw [List.length_map]; exact h, fun d hd => by
  obtain ⟨k, _, rfl⟩ := List.mem_map.mp hd
  exact trivial⟩
theorem Plain.pair (n : Nat) (p : Int × Int) : Plain (n + 2) (pairD p) := ⟨by show 2 ≤ 16777216; decide, fun d hd => by
  rcases List.mem_cons.mp hd with rfl | hd
  · exact trivial
  · have : d = .int p.2 := by simpa using hd
    subst this; exact trivial⟩
end DL
set_option Elab.async false
set_option linter.all false
set_option maxRecDepth 100000
set_option maxHeartbeats 4000000
/-! DL: the hand layer's rules with the written part named (a comprehension's block has the same one as its def). -/
namespace DL
open PySem L2 PySem.Spec PyProof.Rows
section
variable {X : Cx} {K : PySem.W.Frag}
theorem ix_listK (hK : X.K = K) : IxR X (rIxL K) := hK ▸ ix_list
theorem ix_tupK (hK : X.K = K) : IxR X (rIxT K) := hK ▸ ix_tup
theorem ix_seqK (hK : X.K = K) : IxR X (rIx K) := hK ▸ ix_seq
theorem ix_kdictK {w : World} (hK : X.K = K) (hw : X.w = w) : IxR X (rIxD K w) := hK ▸ hw ▸ ix_kdict
theorem op_inK (hK : X.K = K) : OpR X (compareOp .In) (rIn K false) := hK ▸ op_in_seq
theorem op_notInK (hK : X.K = K) : OpR X (compareOp .NotIn) (rIn K true) := hK ▸ op_notIn_seq
theorem op_eqDK (hu : X.A.units + 64 < cLine) (hK : X.K = K) : OpR X (compareOp .Eq) (rEqD K) := hK ▸ op_eqD hu
theorem op_neDK (hu : X.A.units + 64 < cLine) (hK : X.K = K) : OpR X (compareOp .NotEq) (rNeD K) := hK ▸ op_neD hu
theorem call_lenK (hK : X.K = K) : CallR X (.builtin "len") (fun xs H Q => ∃ p ys, xs = [V.ref p] ∧ (SqL K H p ys ∨ SqT K H p ys) ∧ Q (V.int (ys.length : Nat)) H) := hK ▸ call_len_seq
theorem call_listK (hK : X.K = K) : CallR X (.type "list") (fun xs H Q => ∃ p ys, xs = [V.ref p] ∧ (SqL K H p ys ∨ SqT K H p ys) ∧ ∀ (l : Addr), H l = none → Q (V.ref l) (upd H l (HO.lst ys))) := hK ▸ call_list_of
theorem call_tupleK (hK : X.K = K) : CallR X (.type "tuple") (fun xs H Q => ∃ p ys, xs = [V.ref p] ∧ ((SqL K H p ys ∧ ∀ (l : Addr), H l = none → Q (V.ref l) (upd H l (HO.tup ys))) ∨ SqT K H p ys ∧ Q (V.ref p) H)) := hK ▸ call_tuple_of
theorem cr_sumK (hc : X.calm = true) (hK : X.K = K) : CallR X (.builtin "sum") (rSum K) := hK ▸ cr_sum hc
theorem cr_maxK (hc : X.calm = true) (hK : X.K = K) : CallR X (.builtin "max") (rMax K) := hK ▸ cr_max hc
theorem cr_minK' (hc : X.calm = true) (hK : X.K = K) : CallR X (.builtin "min") (rMin K) := hK ▸ cr_min hc
theorem cr_minPK (hc : X.calm = true) (hu : X.A.units + 64 < cLine) (hK : X.K = K) : CallR X (.builtin "min") (rMinD K) := hK ▸ cr_minP hc hu
theorem cr_sortedK (hK : X.K = K) : CallR X (.builtin "sorted") (rSortedI K) := hK ▸ cr_sortedI
theorem cr_allK (hc : X.calm = true) (hK : X.K = K) : CallR X (.builtin "all") (rAll K) := hK ▸ cr_all hc
theorem cr_anyK (hc : X.calm = true) (hK : X.K = K) : CallR X (.builtin "any") (rAny K) := hK ▸ cr_any hc
theorem call_isiK' (hK : X.K = K) : CallR X (.builtin "isinstance") (rIsi K) := hK ▸ call_isi
theorem sl_listK (hK : X.K = K) : SlR X (rSlL K) := hK ▸ sl_list
theorem sl_tupK (hK : X.K = K) : SlR X (rSlT K) := hK ▸ sl_tup
theorem pget_listK (hK : X.K = K) : PGet X (rIxL K) := hK ▸ pget_list
theorem pi_listK {tg l : Expr} {tl : TE} (hK : X.K = K) (h : PE X l tl) : PI X tg l (iList K tl) := hK ▸ pi_list h
theorem pi_tupK {tg l : Expr} {tl : TE} (hK : X.K = K) (h : PE X l tl) : PI X tg l (iTup K tl) := hK ▸ pi_tup h
theorem pe_revLK {e : Expr} {te : TE} {k : Nat} {p1 p2 p3 pos : Pos} (hK : X.K = K) (he : PE X e te) : PE X (.Subscript e (.Slice none none (some (.UnaryOp .USub (.Constant (.int 1) k p1) p2)) p3) pos) (tRevL K te) := hK ▸ pe_revL he
theorem pt_truthK {a : Expr} {ta : TE} (hK : X.K = K) (ha : PE X a ta) (h : ∀ (whole : Sem Value), PySem.isTrue a X.env whole = (do
      let v ← whole
      standAt a.pos
      holding [v] (truthy v)) := by intro _; rfl) : PT X a (fun σ H Q => ta σ H fun x H' => ∃ k, TruV K x H' k ∧ Q k H') := hK ▸ pt_truth ha h
theorem pg_tupK {es : List Expr} {k : Nat} {t : TGs} {n : Nat} {pos : Pos} (hK : X.K = K) (hc : X.calm = true) (h : PGs X es t)
    (hn : (assignEach es X.env).length = n := by rfl) (hst : (assignEach es X.env).findIdx? (·.1) = none := by rfl) : PG X (.Tuple es k pos) (gTup K n t) := hK ▸ pg_tup hc h hn hst
theorem pe_bmK {o e : Expr} {es : List Expr} {to : TE} {t : TA} {name : Str} {apos cpos : Pos} {T id : String} {r : V → List V → Hp → VK → Prop} (hK : X.K = K) (h : PE X (.Call (.Attribute o name apos) (e :: es) [] cpos) (tBM X.K T r to t)) : PE X (.Call (.Attribute o name apos) (e :: es) [] cpos) (tBM K T r to t) := hK ▸ h
theorem pe_bm0K' {o : Expr} {to : TE} {name : Str} {apos cpos : Pos} {T id : String} {r : V → List V → Hp → VK → Prop} (hK : X.K = K) (h : PE X (.Call (.Attribute o name apos) [] [] cpos) (tBM0 X.K T r to)) : PE X (.Call (.Attribute o name apos) [] [] cpos) (tBM0 K T r to) := hK ▸ h
theorem pe_fldK {e : Expr} {f : Str} {ta : TE} {pos : Pos} (hK : X.K = K) (h : PE X (.Attribute e f pos) (tFld X.K ta f)) : PE X (.Attribute e f pos) (tFld K ta f) := hK ▸ h
theorem ps_fldK {o v : Expr} {f : Str} {ta tv : TE} {p1 p2 : Pos} (hK : X.K = K) (h : PS X (.Assign [.Attribute o f p1] v p2) (sFld X.K ta tv f)) : PS X (.Assign [.Attribute o f p1] v p2) (sFld K ta tv f) := hK ▸ h
end
end DL
set_option Elab.async false
set_option linter.all false
set_option maxRecDepth 100000
set_option maxHeartbeats 2000000
/-! DL, tenth part: a loop over a dict's keys, the dict locked meanwhile; calls of defs inside. -/
namespace DL
open PySem L2
open Evl (Ex)
section
variable {K : PySem.W.Frag} {B : Base} {F F' F1 H H' H1 : Hp} {σ σ' : St} {E E' : List (Option Rv)} {Φ : List MC → List Rv → List MC → Out → Prop}
theorem R.apart {a : Addr} {ws : List (Key × V)} (ha : F a = some (.dK ws)) : ∀ {n : Nat} {d : D} {v : V}, Plain n d → R K F d v → R K (del F a) d v
  | 0, _, _, h, _ => h.elim
  | n + 1, d, v, h, r => by
    cases r with
    | non => exact .non
    | bl b => exact .bl b
    | int i => exact .int i
    | str s => exact .str s
    | lst hb hl hr =>
      refine .lst (by rw [del_ne (fun z => by rw [z, ha] at hb; cases hb)]; exact hb) hl fun i d v e1 e2 => R.apart ha (h.2 d (List.mem_of_getElem? e1)) (hr i d v e1 e2)
    | tup hb hl hr =>
      refine .tup (by rw [del_ne (fun z => by rw [z, ha] at hb; cases hb)]; exact hb) hl fun i d v e1 e2 => R.apart ha (h.2 d (List.mem_of_getElem? e1)) (hr i d v e1 e2)
    | dct _ _ _ => exact h.elim
    | ins _ _ _ => exact h.elim
    | err _ _ _ => exact h.elim
    | scr _ => exact h.elim
/-- a def's promise, at one place -/
theorem FSp.at0 {As1 : List Addr} {M1 : List MC} {vs : List V} {xs : List D} {d : D} {Q : VK} {X : XK} (S1 : Sta K B F1 As1 M1 σ E H1) (r0 : P2 (R K F1) xs vs) (hΦ : Φ [] (xs.map Rv.dat) [] (.ret d))
    (q : ∀ v F' H', Sta K B F' As1 M1 σ E H' → Ex F1 F' → R K F' d v → Q v H') : FSp K Φ vs H1 Q X := by
  refine ⟨F1, [], [], xs.map Rv.dat, [], .ret d, ⟨S1.ex, rfl, List.nodup_nil, fun k a mc h => by simp at h, ⟨by simp [r0.1], fun i r h => ?_⟩, Ex.refl F1, fun a o h _ => h, fun a o _ h => h, fun a h => (by cases h), fun a o h => ⟨o, h⟩, fun a h => (by cases h), List.prefix_refl _⟩, Live.nil, hΦ, fun v F' As' M'' H' fin rv => ?_⟩
  · rw [List.getElem?_map, List.getElem?_map] at h
    cases c : xs[i]? with
    | none => rw [c] at h; cases h
    | some x =>
      rw [c] at h; cases h
      obtain ⟨v, hv, rv⟩ := r0.get c
      exact ⟨v, by rw [List.getElem?_map, hv]; rfl, rv⟩
  · obtain ⟨σ', E', S'⟩ := fin.sta
    have keep : ∀ a o, H1 a = some o → H' a = some o := fun a o h => S'.bH a o h (fun z => by cases z)
    refine q v F' H' ⟨S'.ex, S1.len, S1.nd, fun k a mc h1 h2 h3 => ?_, S1.slots.mono S'.bF (List.prefix_refl _), S1.bF.trans S'.bF, fun a o h hP => keep _ _ (S1.bH a o h hP), fun a o h h0 => ?_, S1.bA, fun a o h => ?_, fun a h => ?_, S1.pA⟩ S'.bF rv
    · obtain ⟨h4, o, h5, h6⟩ := S1.cell k a mc h1 h2 h3
      exact ⟨S'.bN a o h5 h4, o, keep _ _ h5, h6.mono S'.bF⟩
    · obtain ⟨u, hu⟩ := S1.bK a o h
      exact S'.bN a u hu (S1.bN a o h h0)
    · obtain ⟨u, hu⟩ := S1.bK a o h
      exact ⟨u, keep _ _ hu⟩
    · obtain ⟨u, hu⟩ := S1.kn a h
      exact ⟨u, keep _ _ hu⟩
/-- inside the loop: what stood before, the dict at a locked -/
structure InL (K : PySem.W.Frag) (F H : Hp) (a : Addr) (ws : List (Key × V)) (od : Obj) (σ0 : St) (j : Nat) (F' : Hp) (σ' : St) (H' : Hp) : Prop where
  sta : Sta K (Sta.self (del F a) (upd H a (.frz od (.dK ws))) []) F' [] [] σ' (List.replicate σ0.length none) H'
  same : ∀ m, m ≠ j → σ'[m]? = σ0[m]?
theorem InL.rd {a b : Addr} {ws : List (Key × V)} {od : Obj} {σ0 : St} {j : Nat} {u : HO} (L : InL K F H a ws od σ0 j F' σ' H') (ha : F a = some (.dK ws)) (h : F b = some u) : Rd H' b u := by
  by_cases e : b = a
  · subst e
    rw [ha] at h; cases h
    exact .inr ⟨od, L.sta.bH b _ upd_same (fun z => by cases z)⟩
  · exact .inl (L.sta.ex _ _ (L.sta.bF _ _ (by show del F a b = _; rw [del_ne e]; exact h)))
theorem s_lockK {i j : Nat} {kvs : List (Key × D)} {u : TS} {D : Ends} {As : List Addr} (S : Sta K B F As [] σ E H) (hE : E[i]? = some (some (.dat (.dct kvs)))) (hj : j < E.length)
    (hb : ∀ (a : Addr) (ws : List (Key × V)) (od : Obj) (F' : Hp) (σ' : St) (H' : Hp) (D' : Ends) (n : Nat) (k : Key) (d : DL.D), F a = some (.dK ws) → PK (R K F) kvs ws → σ[i]? = some (some (.ref a)) → InL K F H a ws od σ j F' σ' H' →
      kvs[n]? = some (k, d) → σ'[j]? = some (some (kV k)) → (∀ F'' H'', InL K F H a ws od σ j F'' σ' H'' → D'.nx σ' H'') → u D' σ' H')
    (hd : Nxt K B [] (E.set j none) D.nx) : tLock (tFor (iKeys (tVar i)) (gName j) u) D σ H := by
  have hAs : As = [] := List.eq_nil_of_length_eq_zero S.len
  subst hAs
  obtain ⟨v, hv, rv⟩ := S.slots.2 i _ hE
  obtain ⟨a, ws, rfl, ha, pa⟩ := R.dct_inv rv
  have hlen := S.slots.1
  refine ⟨a, .dK ws, S.ex _ _ ha, trivial, fun od => ⟨.ref a, hv, a, od, rfl, .inl ⟨ws, upd_same, ?_⟩⟩⟩
  refine for_keys (fun _ σ' H' => ∃ F', InL K F H a ws od σ j F' σ' H') ⟨del F a, ?_, fun _ _ => rfl⟩ (fun n σ' H' ⟨F', L⟩ => L.sta.bH a _ upd_same (fun z => by cases z)) (fun n k v σ' H' hk ⟨F', L⟩ => ?_) (fun σ' H' ⟨F', L⟩ => ⟨L.sta.bH a _ upd_same (fun z => by cases z), hd (upd F' a (.dK ws)) [] σ' _ ?_⟩)
  · exact ⟨fun b o h => by obtain ⟨h1, h2⟩ := del_some h; rw [upd_ne h1]; exact S.ex _ _ h2, rfl, List.nodup_nil, fun k a mc h => by simp at h, ⟨by rw [List.length_replicate], fun i r h => by rw [List.getElem?_replicate] at h; split at h <;> cases h⟩, Ex.refl _, fun b o h _ => h, fun b o _ h => h, fun b h => (by cases h), fun b o h => ⟨o, h⟩, fun b h => (by cases h), List.prefix_refl _⟩
  · have hk2 : ∃ d, kvs[n]? = some (k, d) := by
      have h1 : n < kvs.length := by rw [pa.1]; exact (List.getElem?_eq_some_iff.mp hk).1
      have h2 := (pa.2 n _ _ (List.getElem?_eq_getElem h1) hk).1
      exact ⟨kvs[n].2, by rw [List.getElem?_eq_getElem h1]; exact congrArg some (Prod.ext h2 rfl)⟩
    obtain ⟨d, hk2⟩ := hk2
    have hl2 : σ'.length = σ.length := by have := L.sta.slots.1; rw [List.length_replicate] at this; exact this.symm
    have L2 : InL K F H a ws od σ j F' (σ'.set j (some (kV k))) H' := ⟨{ L.sta with slots := ⟨by rw [List.length_replicate, List.length_set, hl2], fun i r h => by rw [List.getElem?_replicate] at h; split at h <;> cases h⟩ }, fun m hm => by rw [List.getElem?_set_ne (fun z => hm z.symm)]; exact L.same m hm⟩
    exact hb a ws od F' _ H' _ n k d ha pa hv L2 hk2 (by rw [List.getElem?_set_self (by rw [hl2, ← hlen]; exact hj)]) fun F'' H'' L3 => ⟨F'', L3⟩
  · have S' := L.sta
    have exF : Ex F (upd F' a (.dK ws)) := fun b o h => by
      by_cases e : b = a
      · subst e; rw [ha] at h; cases h; exact upd_same
      · rw [upd_ne e]; exact S'.bF _ _ (by show del F a b = _; rw [del_ne e]; exact h)
    have up1 : ∀ b o, H b = some o → ∃ o', upd H a (.frz od (.dK ws)) b = some o' := fun b o h => by
      by_cases e : b = a
      · subst e; exact ⟨_, upd_same⟩
      · exact ⟨o, by rw [upd_ne e]; exact h⟩
    refine ⟨fun b o h => ?_, rfl, List.nodup_nil, fun k a mc h => by simp at h, ⟨by rw [List.length_set, hlen]; have := S'.slots.1; rw [List.length_replicate] at this; exact this, fun m r h => ?_⟩, S.bF.trans exF, fun b o h hP => ?_, fun b o h h0 => ?_, fun b h => (by cases h), fun b o h => ?_, fun b h => (by cases h), S.pA⟩
    · by_cases e : b = a
      · subst e; rw [upd_same] at h ⊢; exact h
      · rw [upd_ne e] at h ⊢; exact S'.ex _ _ h
    · by_cases e : j = m
      · subst e
        rw [List.getElem?_set_self hj] at h; cases h
      · rw [List.getElem?_set_ne e] at h
        obtain ⟨v, hv, rv⟩ := S.slots.2 m r h
        exact ⟨v, by rw [L.same m (fun z => e z.symm)]; exact hv, rv.mono exF (List.prefix_refl _)⟩
    · have h1 := S.bH b o h hP
      by_cases e : b = a
      · subst e
        have h2 := S.ex _ _ ha
        rw [h2] at h1; cases h1
        exact upd_same
      · rw [upd_ne e]
        exact S'.bH b o (by show upd H a _ b = _; rw [upd_ne e]; exact h1) (fun z => by cases z)
    · have h1 := S.bN b o h h0
      have e : b ≠ a := fun z => by rw [z, ha] at h1; cases h1
      obtain ⟨o2, h2⟩ := S.bK b o h
      rw [upd_ne e]
      exact S'.bN b o2 (by show upd H a _ b = _; rw [upd_ne e]; exact h2) (by show del F a b = _; rw [del_ne e]; exact h1)
    · obtain ⟨o2, h2⟩ := S.bK b o h
      obtain ⟨o3, h3⟩ := up1 b o2 h2
      obtain ⟨o4, h4⟩ := S'.bK b o3 h3
      by_cases e : b = a
      · subst e; exact ⟨_, upd_same⟩
      · exact ⟨o4, by rw [upd_ne e]; exact h4⟩
theorem q_lockK {i j : Nat} {kvs : List (Key × D)} {u t : TS} {D : Ends} {As : List Addr} (S : Sta K B F As [] σ E H) (hE : E[i]? = some (some (.dat (.dct kvs)))) (hj : j < E.length)
    (hb : ∀ (a : Addr) (ws : List (Key × V)) (od : Obj) (F' : Hp) (σ' : St) (H' : Hp) (D' : Ends) (n : Nat) (k : Key) (d : DL.D), F a = some (.dK ws) → PK (R K F) kvs ws → σ[i]? = some (some (.ref a)) → InL K F H a ws od σ j F' σ' H' →
      kvs[n]? = some (k, d) → σ'[j]? = some (some (kV k)) → (∀ F'' H'', InL K F H a ws od σ j F'' σ' H'' → D'.nx σ' H'') → u D' σ' H')
    (hd : Nxt K B [] (E.set j none) (t D)) : tSeq (tLock (tFor (iKeys (tVar i)) (gName j) u)) t D σ H := s_lockK (D := { D with nx := t D }) S hE hj hb hd
end
end DL
set_option Elab.async false
set_option linter.all false
set_option maxRecDepth 100000
set_option maxHeartbeats 2000000
/-! DL, errors by data: expressions that raise, raising, the errors' own __init__, instances made, methods. -/
namespace DL
open PySem L2
open Evl (Ex)
section
variable {K : PySem.W.Frag} {B : Base} {F F' F1 H H' H1 : Hp} {As As' As1 : List Addr} {M M0 M0' M1 M2 M3 M' M'' : List MC} {σ σ' : L2.St} {E E' : List (Option Rv)} {ta tb te tx : TE} {x y z r : Rv} {xs rs rs0 : List Rv} {b : Bool} {Φ : List MC → List Rv → List MC → Out → Prop} {XX : XK} {t u : TA} {C : Addr} {fs : List (Str × D)}
/-- the caller behind a call that took no cell -/
theorem Sta.after0 (S1 : Sta K B F1 As1 M1 σ E H1) (fin : Fin K F1 H1 [] [] F' H' As' M'') : Sta K B F' As1 M1 σ E H' ∧ Ex F1 F' := by
  obtain ⟨τ, En, S2⟩ := fin.sta
  have same : ∀ c o, H1 c = some o → H' c = some o := fun c o g => S2.bH c o g (fun z => by cases z)
  refine ⟨⟨S2.ex, S1.len, S1.nd, fun k c mc g1 g2 g3 => ?_, S1.slots.mono S2.bF (List.prefix_refl _), S1.bF.trans S2.bF, fun c o g nP => same _ _ (S1.bH c o g nP), fun c o g g0 => ?_, S1.bA, fun c o g => ?_, fun c g => ?_, S1.pA⟩, S2.bF⟩
  · obtain ⟨g4, o, g5, g6⟩ := S1.cell k c mc g1 g2 g3
    exact ⟨S2.bN c o g5 g4, o, same _ _ g5, g6.mono S2.bF⟩
  · obtain ⟨w, hw⟩ := S1.bK c o g
    exact S2.bN c w hw (S1.bN c o g g0)
  · obtain ⟨w, hw⟩ := S1.bK c o g
    exact ⟨w, same _ _ hw⟩
  · obtain ⟨w, hw⟩ := S1.kn c g
    exact ⟨w, same _ _ hw⟩
/-- what a callee sees that takes no cell -/
theorem Sta.before0 {vs : List V} (S1 : Sta K B F1 As1 M1 σ E H1) (hx : dats xs ≠ none) (r1 : P2 (RV K F1 As1) xs vs) : Sta K (Sta.self F1 H1 []) F1 [] [] (vs.map some) (xs.map some) H1 := by
  obtain ⟨ds, hds⟩ := Option.ne_none_iff_exists'.mp hx
  have e := dats_eq hds
  refine ⟨S1.ex, rfl, List.nodup_nil, fun k a mc h => by simp at h, ⟨by simp [r1.1], fun i r h => ?_⟩, Ex.refl F1, fun a o h _ => h, fun a o _ h => h, fun a h => (by cases h), fun a o h => ⟨o, h⟩, fun a h => (by cases h), List.prefix_refl _⟩
  subst e
  rw [List.getElem?_map, List.getElem?_map] at h
  cases c : ds[i]? with
  | none => rw [c] at h; cases h
  | some d =>
    rw [c] at h; cases h
    obtain ⟨v, hv, rv⟩ := r1.get (x := .dat d) (by rw [List.getElem?_map, c]; rfl)
    exact ⟨v, by rw [List.getElem?_map, hv]; rfl, rv⟩
/-- te raises: an error of C, its fields fs; X: what is wished of it at the slots -/
def ExX (K : PySem.W.Frag) (X : L2.St → XK) (te : TE) (M : List MC) (E : List (Option Rv)) (M' : List MC) (C : Addr) (fs : List (Str × D)) : Prop := ∀ (B : Base) (F : Hp) (As : List Addr) (σ : L2.St) (H : Hp), Sta K B F As M σ E H →
  (∀ dd ws F' As' H', Sta K B F' As' M' σ E H' → H' dd = none → PK (R K F') fs ws → X σ (.ref C) (some dd) (upd H' dd (.xd ws))) → ∀ Q : VK, te σ H Q
def ExA (K : PySem.W.Frag) (X : L2.St → XK) (ta : TA) (M : List MC) (E : List (Option Rv)) (M' : List MC) (C : Addr) (fs : List (Str × D)) : Prop := ∀ (B : Base) (F : Hp) (As : List Addr) (σ : L2.St) (H : Hp), Sta K B F As M σ E H →
  (∀ dd ws F' As' H', Sta K B F' As' M' σ E H' → H' dd = none → PK (R K F') fs ws → X σ (.ref C) (some dd) (upd H' dd (.xd ws))) → ∀ Q : List V → Hp → Prop, ta σ H Q
variable {Xs : L2.St → XK}
theorem ex_fsp {vs : List V} {Q : VK} (S1 : Sta K B F1 As1 M1 σ E H1) (hx : dats xs ≠ none) (r1 : P2 (RV K F1 As1) xs vs) (hΦ : Φ [] xs [] (.exc C fs))
    (k : ∀ dd ws F' As' H', Sta K B F' As' M1 σ E H' → H' dd = none → PK (R K F') fs ws → XX (.ref C) (some dd) (upd H' dd (.xd ws))) : FSp K Φ vs H1 Q XX :=
  ⟨F1, [], [], xs, [], .exc C fs, S1.before0 hx r1, Live.nil, hΦ, fun dd ws F' As' M'' H' fin n p => k dd ws F' As1 H' (S1.after0 fin).1 n p⟩
theorem ex_call0 (ha : EvA K t M E M1 xs) (hx : dats xs ≠ none) (hΦ : Φ [] xs [] (.exc C fs)) : ExX K (fun _ => XX) (tCall (FSp K Φ) [] XX t) M E M1 C fs := fun B F As σ H S k Q =>
  ha B F As σ H S _ fun vs F1 As1 H1 S1 e1 p1 r1 => by
    rw [List.append_nil]
    exact ex_fsp S1 hx r1 hΦ k
theorem ex_callS (ha : EvA K t M E M1 xs) (hx : dats xs ≠ none) (hΦ : Φ [] xs [] (.exc C fs)) : ExX K Xs (tCallS (FSp K Φ) Xs t) M E M1 C fs := fun B F As σ H S k Q =>
  ha B F As σ H S _ fun vs F1 As1 H1 S1 e1 p1 r1 => ex_fsp S1 hx r1 hΦ k
theorem ev_fsp {vs : List V} {Q : VK} {d : D} (S1 : Sta K B F1 As1 M1 σ E H1) (hx : dats xs ≠ none) (r1 : P2 (RV K F1 As1) xs vs) (hΦ : Φ [] xs [] (.ret d))
    (k : ∀ v F' H', Sta K B F' As1 M1 σ E H' → Ex F1 F' → R K F' d v → Q v H') : FSp K Φ vs H1 Q XX :=
  ⟨F1, [], [], xs, [], .ret d, S1.before0 hx r1, Live.nil, hΦ, fun v F' As' M'' H' fin rv => k v F' H' (S1.after0 fin).1 (S1.after0 fin).2 rv⟩
theorem ev_callS {d : D} (ha : EvA K t M E M1 xs) (hx : dats xs ≠ none) (hΦ : Φ [] xs [] (.ret d)) : EvD K (tCallS (FSp K Φ) Xs t) M E M1 (.dat d) := fun B F As σ H S Q q =>
  ha B F As σ H S _ fun vs F1 As1 H1 S1 e1 p1 r1 => ev_fsp S1 hx r1 hΦ fun v F' H' S2 e2 rv => q v F' As1 H' S2 (e1.trans e2) p1 rv
/-! ### where an expression raises -/
theorem xa_here (h : ExX K Xs te M E M1 C fs) : ExA K Xs (tCons te t) M E M1 C fs := fun B F As σ H S k Q => h B F As σ H S k _
theorem xa_next (h0 : EvD K te M E M1 r) (h : ExA K Xs t M1 E M2 C fs) : ExA K Xs (tCons te t) M E M2 C fs := fun B F As σ H S k Q =>
  h0 B F As σ H S _ fun v F1 As1 H1 S1 e1 p1 r1 => h B F1 As1 σ H1 S1 k _
theorem ex_tup (h : ExA K Xs t M E M1 C fs) : ExX K Xs (tTup t) M E M1 C fs := fun B F As σ H S k Q => h B F As σ H S k _
theorem ex_if {tt : TT} (h : EvT K tt M E M1 b) (h1 : b = true → ExX K Xs ta M1 E M2 C fs) (h2 : b = false → ExX K Xs tb M1 E M2 C fs) : ExX K Xs (tIf tt ta tb) M E M2 C fs := fun B F As σ H S k Q => h B F As σ H S _ fun F1 As1 H1 S1 e1 p1 => by
  cases b with
  | true => exact h1 rfl B F1 As1 σ H1 S1 k _
  | false => exact h2 rfl B F1 As1 σ H1 S1 k _
theorem ex_op1 {op : R2} (h : ExX K Xs ta M E M1 C fs) : ExX K Xs (tOp op ta tb) M E M1 C fs := fun B F As σ H S k Q => h B F As σ H S k _
theorem ex_op2 {op : R2} (h0 : EvD K ta M E M1 x) (h : ExX K Xs tb M1 E M2 C fs) : ExX K Xs (tOp op ta tb) M E M2 C fs := fun B F As σ H S k Q => h0 B F As σ H S _ fun v F1 As1 H1 S1 e1 p1 r1 => h B F1 As1 σ H1 S1 k _
variable {De : Ends}
theorem x_ret (S : Sta K B F As M σ E H) (h : ExX K Xs te M E M1 C fs) (k : ∀ dd ws F' As' H', Sta K B F' As' M1 σ E H' → H' dd = none → PK (R K F') fs ws → Xs σ (.ref C) (some dd) (upd H' dd (.xd ws))) : tRet te De σ H := h B F As σ H S k _
theorem x_set {g : TG} (S : Sta K B F As M σ E H) (h : ExX K Xs te M E M1 C fs) (k : ∀ dd ws F' As' H', Sta K B F' As' M1 σ E H' → H' dd = none → PK (R K F') fs ws → Xs σ (.ref C) (some dd) (upd H' dd (.xd ws))) : tAsg te g De σ H := h B F As σ H S k _
theorem x_drop (S : Sta K B F As M σ E H) (h : ExX K Xs te M E M1 C fs) (k : ∀ dd ws F' As' H', Sta K B F' As' M1 σ E H' → H' dd = none → PK (R K F') fs ws → Xs σ (.ref C) (some dd) (upd H' dd (.xd ws))) : tDrop te De σ H := h B F As σ H S k _
theorem x_seq {t1 t2 : TS} (h : t1 { De with nx := t2 De } σ H) : tSeq t1 t2 De σ H := h
end
/-! ### an error's own __init__, and raising -/
/-- __init__(self, x): its base's __init__, then self.f = x -/
def spI1 (K : PySem.W.Frag) (f : Str) : Sp := fun vs H Q _ => ∃ (a C : Addr) (x : V), vs = [.ref a, x] ∧ OexC K C ∧ PySem.W.findIn K (.ref C) f = some none ∧ H a = some (exo a C none) ∧
  ∀ dx, H dx = none → dx ≠ a → Q .non (upd (upd H dx (exd dx [(f, x)])) a (exo a C (some dx)))
/-- .. with two fields -/
def spI2 (K : PySem.W.Frag) (f g : Str) : Sp := fun vs H Q _ => ∃ (a C : Addr) (x y : V), vs = [.ref a, x, y] ∧ OexC K C ∧ PySem.W.findIn K (.ref C) f = some none ∧ PySem.W.findIn K (.ref C) g = some none ∧ H a = some (exo a C none) ∧
  ∀ dx, H dx = none → dx ≠ a → Q .non (upd (upd (upd H dx (exd dx [(f, x)])) a (exo a C (some dx))) dx (exd dx [(g, y), (f, x)]))
section
variable {K : PySem.W.Frag} {B : Base} {F F' F1 H H' H1 : Hp} {As As' As1 : List Addr} {M M1 : List MC} {σ : L2.St} {E : List (Option Rv)} {vs : List V} {Q : VK} {XX : XK} {m f g : Str} {C : Addr} {t : TA} {N : List Str}
theorem init1_reads (hN : N.length = 2) (h : spI1 K f vs H Q XX) : tSeq (tDrop (tVeI K (tCons (tVar 0) (tCons (tC (.str m)) tNil)))) (tOst K f (tVar 0) (tVar 1)) { nx := fun _ H' => Q .non H', rt := Q } (L2.start N vs) H := by
  obtain ⟨a, C, x, rfl, T, hno, ha, q⟩ := h
  have es : L2.start N [.ref a, x] = [some (.ref a), some x] := by
    rw [start_eq, hN]; rfl
  rw [es]
  refine ⟨_, rfl, a, C, [.str m], rfl, Nat.le_of_ble_eq_true rfl, T, ha, ?_⟩
  exact ⟨_, rfl, _, rfl, a, C, rfl, T, hno, .inl ⟨ha, fun dx n ne => q dx n ne⟩⟩
theorem init2_reads (hN : N.length = 3) (h : spI2 K f g vs H Q XX) : tSeq (tDrop (tVeI K (tCons (tVar 0) (tCons (tC (.str m)) tNil)))) (tSeq (tOst K f (tVar 0) (tVar 1)) (tOst K g (tVar 0) (tVar 2))) { nx := fun _ H' => Q .non H', rt := Q } (L2.start N vs) H := by
  obtain ⟨a, C, x, y, rfl, T, hno, hno2, ha, q⟩ := h
  have es : L2.start N [.ref a, x, y] = [some (.ref a), some x, some y] := by
    rw [start_eq, hN]; rfl
  rw [es]
  refine ⟨_, rfl, a, C, [.str m], rfl, Nat.le_of_ble_eq_true rfl, T, ha, ?_⟩
  refine ⟨_, rfl, _, rfl, a, C, rfl, T, hno, .inl ⟨ha, fun dx n ne => ?_⟩⟩
  refine ⟨_, rfl, _, rfl, a, C, rfl, T, hno2, .inr ⟨dx, [(f, x)], upd_same, (upd_ne ne).trans upd_same, (by decide : (1 : Nat) ≤ 900), q dx n ne⟩⟩
theorem left_eq {a dx : Addr} {Hz : Hp} {ws : List (Str × V)} (ha : H a = none) (hz : ∀ b, b ≠ a → b ≠ dx → Hz b = H b) : upd (L2.del Hz a) dx (.xd ws) = upd H dx (.xd ws) := by
  funext b
  by_cases h1 : b = dx
  · subst h1; rw [upd_same, upd_same]
  · rw [upd_ne h1, upd_ne h1]
    by_cases h2 : b = a
    · subst h2; rw [L2.del_same, ha]
    · rw [L2.del_ne h2, hz b h2 h1]
/-- raise C(x) -/
theorem x_raise1 {d : D} (S : Sta K B F As M σ E H) (ha : EvA K t M E M1 [.dat d]) (T : OexC K C) (hno : PySem.W.findIn K (.ref C) f = some none)
    (k : ∀ dd ws F' As' H', Sta K B F' As' M1 σ E H' → H' dd = none → PK (R K F') [(f, d)] ws → XX (.ref C) (some dd) (upd H' dd (.xd ws))) : tMkO C (spI1 K f) [] t σ H XX :=
  ha B F As σ H S _ fun vs F1 As1 H1 S1 e1 p1 r1 => by
    obtain ⟨v, rfl, rv⟩ := r1.one
    refine ⟨Nat.le_of_ble_eq_true rfl, fun a hn => ⟨a, C, v, rfl, T, hno, upd_same, fun dx hd ne => ⟨rfl, dx, [(f, v)], upd_same, (upd_ne ne).trans upd_same, (upd_ne ne).symm.trans hd, ?_⟩⟩⟩
    have hdx : H1 dx = none := (upd_ne ne).symm.trans hd
    rw [left_eq hn (fun b b1 b2 => by rw [upd_ne b1, upd_ne b2, upd_ne b1])]
    exact k dx [(f, v)] F1 As1 H1 S1 hdx (P2.single ⟨rfl, rv⟩)
/-- raise C(x, y) -/
theorem x_raise2 {d1 d2 : D} (S : Sta K B F As M σ E H) (ha : EvA K t M E M1 [.dat d1, .dat d2]) (T : OexC K C) (hno : PySem.W.findIn K (.ref C) f = some none) (hno2 : PySem.W.findIn K (.ref C) g = some none)
    (k : ∀ dd ws F' As' H', Sta K B F' As' M1 σ E H' → H' dd = none → PK (R K F') [(g, d2), (f, d1)] ws → XX (.ref C) (some dd) (upd H' dd (.xd ws))) : tMkO C (spI2 K f g) [] t σ H XX :=
  ha B F As σ H S _ fun vs F1 As1 H1 S1 e1 p1 r1 => by
    obtain ⟨v, w, rfl, rv, rw_⟩ := r1.two
    refine ⟨Nat.le_of_ble_eq_true rfl, fun a hn => ⟨a, C, v, w, rfl, T, hno, hno2, upd_same, fun dx hd ne => ⟨rfl, dx, [(g, w), (f, v)], (upd_ne ne.symm).trans upd_same, upd_same, (upd_ne ne).symm.trans hd, ?_⟩⟩⟩
    have hdx : H1 dx = none := (upd_ne ne).symm.trans hd
    rw [left_eq hn (fun b b1 b2 => by rw [upd_ne b2, upd_ne b1, upd_ne b2, upd_ne b1])]
    exact k dx [(g, w), (f, v)] F1 As1 H1 S1 hdx (P2.cons ⟨rfl, rw_⟩ (P2.single ⟨rfl, rv⟩))
end
end DL
set_option Elab.async false
set_option linter.all false
set_option maxRecDepth 100000
set_option maxHeartbeats 2000000
/-! DL: fields, methods and making of instances; a caught error as data. -/
namespace DL
open PySem L2
open Evl (Ex)
section
variable {K : PySem.W.Frag} {B : Base} {F F' F1 H H' H1 : Hp} {As As' As1 : List Addr} {M M0 M0' M1 M2 M3 M' M'' : List MC} {σ σ' : L2.St} {E E' : List (Option Rv)} {ta tb te tx : TE} {x y z r : Rv} {xs rs rs0 : List Rv} {b : Bool} {Φ : List MC → List Rv → List MC → Out → Prop} {XX : XK} {t u : TA} {C : Addr} {fs : List (Str × D)} {f m : Str} {d : D} {De : Ends} {Xs : L2.St → XK}
theorem P2.nil_left {α β : Type} {R : α → β → Prop} {ys : List β} (h : P2 R [] ys) : ys = [] := List.eq_nil_of_length_eq_zero h.1.symm
theorem PK.look {ws : List (Str × V)} : ∀ {fs : List (Str × D)}, PK (R K F) fs ws → ((fs.lookup f = none ∧ ws.lookup f = none) ∨ ∃ d v, fs.lookup f = some d ∧ ws.lookup f = some v ∧ R K F d v) := by
  induction ws with
  | nil =>
    intro fs h
    have : fs = [] := List.eq_nil_of_length_eq_zero h.1
    subst this
    exact .inl ⟨rfl, rfl⟩
  | cons q ws ih =>
    intro fs h
    cases fs with
    | nil => have := h.1; simp at this
    | cons p fs =>
      obtain ⟨pk, pd⟩ := p
      obtain ⟨qk, qv⟩ := q
      obtain ⟨w, ws2, e, hh, ht⟩ := P2.inv_cons h
      cases e
      obtain ⟨hk, hr⟩ := hh
      have hk : pk = qk := hk
      subst hk
      rw [List.lookup_cons, List.lookup_cons]
      by_cases e : f = pk
      · subst e
        rw [beq_self_eq_true]
        exact .inr ⟨pd, qv, rfl, rfl, hr⟩
      · rw [beq_false_of_ne e]
        exact ih ht
theorem ev_fld (ha : EvD K ta M E M1 (.dat (.ins C fs))) (c : Cls K C) (n : NoAttr K C f) (hl : fs.lookup f = some d) : EvD K (tFld K ta f) M E M1 (.dat d) := fun B F As σ H S Q q =>
  ha B F As σ H S _ fun v F1 As1 H1 S1 e1 p1 r1 => by
    obtain ⟨a, dx, ws, rfl, hA, pa⟩ := R.ins_inv r1
    rcases pa.look (f := f) with ⟨g, _⟩ | ⟨d2, v2, g, g2, rv⟩
    · rw [hl] at g; cases g
    · rw [hl] at g; cases g
      exact ⟨a, C, dx, ws, v2, rfl, S1.ex _ _ hA, c, n, g2, q v2 F1 As1 H1 S1 e1 p1 rv⟩
theorem ev_fldC {k : Nat} (ha : EvD K ta M E M1 (.cel k)) (hk : M1[k]? = some (.ins C fs)) (c : Cls K C) (n : NoAttr K C f) (hl : fs.lookup f = some d) : EvD K (tFld K ta f) M E M1 (.dat d) := fun B F As σ H S Q q =>
  ha B F As σ H S _ fun v F1 As1 H1 S1 e1 p1 r1 => by
    obtain ⟨a, hA, rfl⟩ := r1
    obtain ⟨_, o, ho, dx, ws, rfl, pa⟩ := S1.cell k a _ hA hk (by intro z; cases z)
    rcases pa.look (f := f) with ⟨g, _⟩ | ⟨d2, v2, g, g2, rv⟩
    · rw [hl] at g; cases g
    · rw [hl] at g; cases g
      exact ⟨a, C, dx, ws, v2, rfl, ho, c, n, g2, q v2 F1 As1 H1 S1 e1 p1 rv⟩
/-- a method of an instance that does not change -/
theorem ev_meth0 (ho : EvD K ta M E M1 (.dat (.ins C fs))) (hm : fs.lookup m = none) (ha : EvA K t M1 E M2 xs) (hx : dats xs ≠ none) (hΦ : Φ [] (.dat (.ins C fs) :: xs) [] (.ret d)) : EvD K (tMeth C m (FSp K Φ) [] XX ta t) M E M2 (.dat d) := fun B F As σ H S Q q =>
  ho B F As σ H S _ fun v F1 As1 H1 S1 e1 p1 r1 => by
    obtain ⟨a, dx, ws, ev, hA, pa⟩ := R.ins_inv r1
    have hn : ws.lookup m = none := by
      rcases pa.look (f := m) with ⟨_, g⟩ | ⟨d2, v2, g, _⟩
      · exact g
      · rw [hm] at g; cases g
    refine ⟨a, dx, ws, ev, S1.ex _ _ hA, hn, ha B F1 As1 σ H1 S1 _ fun vs F2 As2 H2 S2 e2 p2 r2 => ?_⟩
    rw [List.append_nil]
    have hx2 : dats (.dat (.ins C fs) :: xs) ≠ none := by
      obtain ⟨ds, h⟩ := Option.ne_none_iff_exists'.mp hx
      intro z
      have : dats (.dat (.ins C fs) :: xs) = (dats xs).map (D.ins C fs :: ·) := rfl
      rw [this, h] at z; cases z
    exact ev_fsp S2 hx2 (P2.cons (R.mono r1 e2) r2) hΦ fun v F3 H3 S3 e3 rv => q v F3 As2 H3 S3 ((e1.trans e2).trans e3) (p1.trans p2) rv
theorem ex_meth0 (ho : EvD K ta M E M1 (.dat (.ins C fs))) (hm : fs.lookup m = none) (ha : EvA K t M1 E M2 xs) (hx : dats xs ≠ none) {D2 : Addr} {gs : List (Str × D)} (hΦ : Φ [] (.dat (.ins C fs) :: xs) [] (.exc D2 gs)) : ExX K (fun _ => XX) (tMeth C m (FSp K Φ) [] XX ta t) M E M2 D2 gs := fun B F As σ H S k Q =>
  ho B F As σ H S _ fun v F1 As1 H1 S1 e1 p1 r1 => by
    obtain ⟨a, dx, ws, ev, hA, pa⟩ := R.ins_inv r1
    have hn : ws.lookup m = none := by
      rcases pa.look (f := m) with ⟨_, g⟩ | ⟨d2, v2, g, _⟩
      · exact g
      · rw [hm] at g; cases g
    refine ⟨a, dx, ws, ev, S1.ex _ _ hA, hn, ha B F1 As1 σ H1 S1 _ fun vs F2 As2 H2 S2 e2 p2 r2 => ?_⟩
    rw [List.append_nil]
    have hx2 : dats (.dat (.ins C fs) :: xs) ≠ none := by
      obtain ⟨ds, h⟩ := Option.ne_none_iff_exists'.mp hx
      intro z
      have : dats (.dat (.ins C fs) :: xs) = (dats xs).map (D.ins C fs :: ·) := rfl
      rw [this, h] at z; cases z
    exact ex_fsp S2 hx2 (P2.cons (R.mono r1 e2) r2) hΦ k
/-! ### a caught error as data -/
theorem ev_isErr {a : Addr} {ob : Obj} {c : V} {cv : Value} (ha : EvD K ta M E M1 (.dat (.err a ob C fs))) (hc : ClsV c cv) (hk : PySem.W.kitOne K (.ref C) cv = some b) : EvD K (tCB (rIsErr K (bySuite a ob)) (tCons ta (tCons (tC c) tNil))) M E M1 (rbl b) := fun B F As σ H S Q q =>
  ha B F As σ H S _ fun v F1 As1 H1 S1 e1 p1 r1 => by
    obtain ⟨ws, rfl, he, pa⟩ := R.err_inv r1
    exact ⟨a, C, ob, ws, c, cv, b, rfl, ⟨rfl, rfl⟩, he.mono S1.ex, hc, hk, q _ F1 As1 H1 S1 e1 p1 (.bl b)⟩
theorem ev_errF {a : Addr} {ob : Obj} (ha : EvD K ta M E M1 (.dat (.err a ob C fs))) (hno : PySem.W.findIn K (.ref C) f = some none) (hl : fs.lookup f = some d) : EvD K (tErrF K (bySuite a ob) f ta) M E M1 (.dat d) := fun B F As σ H S Q q =>
  ha B F As σ H S _ fun v F1 As1 H1 S1 e1 p1 r1 => by
    obtain ⟨ws, rfl, he, pa⟩ := R.err_inv r1
    rcases pa.look (f := f) with ⟨g, _⟩ | ⟨d2, v2, g, g2, rv⟩
    · rw [hl] at g; cases g
    · rw [hl] at g; cases g
      exact ⟨a, C, ob, ws, v2, rfl, ⟨rfl, rfl⟩, he.mono S1.ex, hno, g2, q v2 F1 As1 H1 S1 e1 p1 rv⟩
/-- a def's promise that gets the handled error -/
abbrev FSpE (K : PySem.W.Frag) (Φ : Addr × Obj → List MC → List Rv → List MC → Out → Prop) : Addr × Obj → Sp := fun p => FSp K (Φ p)
/-- return f(error), in the suite of an except clause: the error was raised at H, its dict then laid at dd -/
theorem s_retErr {Ψ : Addr × Obj → List MC → List Rv → List MC → Out → Prop} {i : Nat} {a dd : Addr} {ws : List (Str × V)} (S : Sta K B F As M σ E H) (hi : i < E.length) (hdd : H dd = none) (hp : PK (R K F) fs ws) (T : ExcC K C) (hΦ : ∀ ob, Ψ (a, ob) [] [.dat (.err a ob C fs)] [] (.ret d))
    (k : ∀ v F' H', Sta K B F' As M (σ.set i (some (.ref a))) (E.set i none) H' → R K F' d v → De.rt v H') : tRet (tCallErrZ i a (.ref C) (some dd) (FSpE K Ψ)) De (σ.set i (some (.ref a))) (upd H dd (.xd ws)) := by
  obtain ⟨S1, e1⟩ := S.newF (o := .xd ws) hdd
  have hil : i < σ.length := by rw [← S.slots.1]; exact hi
  have S2 : Sta K B (upd F dd (.xd ws)) As M (σ.set i (some (.ref a))) (E.set i none) (upd H dd (.xd ws)) := { S1 with slots := ⟨by rw [List.length_set, List.length_set]; exact S1.slots.1, fun j r g => by
    by_cases e : i = j
    · subst e
      rw [List.getElem?_set_self hi] at g; cases g
    · rw [List.getElem?_set_ne e] at g
      obtain ⟨w, hw, rw_⟩ := S1.slots.2 j r g
      exact ⟨w, by rw [List.getElem?_set_ne e]; exact hw, rw_⟩⟩ }
  refine ⟨by rw [List.getElem?_set_self hil], fun ob hz hfv => ?_⟩
  have ner : R K (upd F dd (.xd ws)) (.err a ob C fs) (.ref a) := .err ⟨⟨hz.1, rfl⟩, hfv, T, dd, hz.2.1, upd_same⟩ hp.keys fun j p q g1 g2 => R.mono (hp.2 j p q g1 g2).2 e1
  exact ev_fsp S2 (xs := [.dat (.err a ob C fs)]) (by intro z; cases z) (P2.single ner) (hΦ ob) fun v F' H' S3 e3 rv => k v F' H' S3 rv
/-! ### instances made -/
def putD (f : Str) (d : D) : List (Str × D) → List (Str × D)
  | [] => [(f, d)]
  | (g, e) :: r => if g = f then (g, d) :: r else (g, e) :: putD f d r
theorem PK.putF {v : V} (hr : R K F d v) : ∀ {fs : List (Str × D)} {ws : List (Str × V)}, PK (R K F) fs ws → PK (R K F) (putD f d fs) (putF f v ws)
  | [], ws, h => by
    have := h.nil_left; subst this
    exact P2.single ⟨rfl, hr⟩
  | (g, e) :: fs, ws, h => by
    obtain ⟨q, ws2, rfl, ⟨hk, hq⟩, ht⟩ := P2.inv_cons h
    obtain ⟨qk, qv⟩ := q
    have hk : g = qk := hk
    subst hk
    unfold putD L2.putF
    by_cases c : g = f
    · rw [if_pos c, if_pos c]; exact P2.cons ⟨rfl, hr⟩ ht
    · rw [if_neg c, if_neg c]; exact P2.cons ⟨rfl, hq⟩ (PK.putF hr ht)
theorem s_fld {k : Nat} (S : Sta K B F As M σ E H) (h : EvD K tb M E M1 (.dat d)) (ho : EvD K ta M1 E M2 (.cel k)) (hk : M2[k]? = some (.ins C fs)) (c : Cls K C) (n : NoAttr K C f) (hl : fs.length < 1000)
    (kk : Nxt K B (M2.set k (.ins C (putD f d fs))) E De.nx) : sFld K ta tb f De σ H :=
  h B F As σ H S _ fun v F1 As1 H1 S1 e1 p1 r1 => ho B F1 As1 σ H1 S1 _ fun w F2 As2 H2 S2 e2 p2 r2 => by
    obtain ⟨a, hA, rfl⟩ := r2
    obtain ⟨_, o, ho, dx, ws, rfl, pa⟩ := S2.cell k a _ hA hk (by intro z; cases z)
    exact ⟨a, C, dx, ws, rfl, ho, c, n, by rw [← pa.1]; exact hl, kk _ _ _ _ (S2.chg hA hk (by intro z; cases z) ⟨dx, _, rfl, PK.putF (R.mono r1 e2) pa⟩)⟩
theorem q_fld {k : Nat} {t2 : TS} (S : Sta K B F As M σ E H) (h : EvD K tb M E M1 (.dat d)) (ho : EvD K ta M1 E M2 (.cel k)) (hk : M2[k]? = some (.ins C fs)) (c : Cls K C) (n : NoAttr K C f) (hl : fs.length < 1000)
    (kk : Nxt K B (M2.set k (.ins C (putD f d fs))) E (t2 De)) : tSeq (sFld K ta tb f) t2 De σ H := s_fld (De := { De with nx := t2 De }) S h ho hk c n hl kk
/-- the caller behind a call that took a new instance alone, which nobody holds any more -/
theorem Sta.afterX {F2 H2 : Hp} {p : Addr} {mc : MC} (S1 : Sta K B F1 As1 M1 σ E H1) (hp : H1 p = none) (e2 : Ex F1 F2) (b2 : ∀ a o, H1 a = some o → F1 a = none → F2 a = none) (kp : ∀ a o, H1 a = some o → H2 a = some o) (fin : Fin K F2 H2 [p] [mc] F' H' As' M'') : Sta K B F' As1 M1 σ E H' := by
  obtain ⟨τ, En, S2⟩ := fin.sta
  have same : ∀ c o, H1 c = some o → H' c = some o := fun c o g => S2.bH c o (kp c o g) fun z => by
    have z : c ∈ [p] := z
    rw [List.mem_singleton] at z
    rw [z, hp] at g; cases g
  have ef := e2.trans S2.bF
  have off : ∀ c o, H1 c = some o → F1 c = none → F' c = none := fun c o g g0 => S2.bN c o (kp c o g) (b2 c o g g0)
  refine ⟨S2.ex, S1.len, S1.nd, fun k c mc g1 g2 g3 => ?_, S1.slots.mono ef (List.prefix_refl _), S1.bF.trans ef, fun c o g nP => same _ _ (S1.bH c o g nP), fun c o g g0 => ?_, S1.bA, fun c o g => ?_, fun c g => ?_, S1.pA⟩
  · obtain ⟨g4, o, g5, g6⟩ := S1.cell k c mc g1 g2 g3
    exact ⟨off c o g5 g4, o, same _ _ g5, g6.mono ef⟩
  · obtain ⟨w, hw⟩ := S1.bK c o g
    exact off c w hw (S1.bN c o g g0)
  · obtain ⟨w, hw⟩ := S1.bK c o g
    exact ⟨w, same _ _ hw⟩
  · obtain ⟨w, hw⟩ := S1.kn c g
    exact ⟨w, same _ _ hw⟩
theorem rv_dats {vs : List V} {As2 : List Addr} (hx : dats xs ≠ none) (r1 : P2 (RV K F As) xs vs) : P2 (RV K F As2) xs vs := by
  obtain ⟨ds, hds⟩ := Option.ne_none_iff_exists'.mp hx
  have e := dats_eq hds
  subst e
  refine ⟨r1.1, fun i x y a b => ?_⟩
  have := r1.2 i x y a b
  rw [List.getElem?_map] at a
  cases c : ds[i]? with
  | none => rw [c] at a; cases a
  | some d => rw [c] at a; cases a; exact this
theorem make_in {vs : List V} {x dx : Addr} (S1 : Sta K B F1 As1 M1 σ E H1) (hx : H1 x = none) (hdx : H1 dx = none) (hne : dx ≠ x) :
    Sta K B (upd F1 dx (.own x)) (As1 ++ [x]) (M1 ++ [.ins C []]) σ E (upd (upd H1 dx (.own x)) x (.ins C dx [])) ∧ Ex F1 (upd F1 dx (.own x)) ∧ (As1 ++ [x])[M1.length]? = some x ∧ (M1 ++ [MC.ins C []])[M1.length]? = some (.ins C []) := by
  obtain ⟨S2, e2⟩ := S1.newF (o := .own x) hdx
  refine ⟨S2.newM (mc := .ins C []) (by rw [upd_ne hne.symm]; exact hx) ⟨dx, [], rfl, rfl, fun i _ _ h => by simp at h⟩, e2, ?_, ?_⟩
  · rw [List.getElem?_append_right (by rw [S1.len]; exact Nat.le_refl _), S1.len]; simp
  · rw [List.getElem?_append_right (Nat.le_refl _)]; simp
theorem ev_make (ha : EvA K t M E M1 xs) (hx : dats xs ≠ none) (hΦ : Φ [.ins C []] (.cel 0 :: xs) [.ins C fs] (.ret .non)) : EvD K (tMake C (FSp K Φ) [] XX t) M E (M1 ++ [.ins C fs]) (.cel M1.length) := fun B F As σ H S Q q =>
  ha B F As σ H S _ fun vs F1 As1 H1 S1 e1 p1 r1 x dx nx ndx hne => by
    obtain ⟨S3, e3, hA, hM⟩ := make_in (C := C) (vs := vs) S1 nx ndx hne
    rw [List.append_nil]
    refine ⟨_, [x], [.ins C []], .cel 0 :: xs, [.ins C fs], .ret .non, S3.before1 hA hM (by intro z; cases z) (P2.cons ⟨x, rfl, rfl⟩ (rv_dats hx ⟨r1.1, fun i a b g1 g2 => (r1.2 i a b g1 g2).mono e3 (List.prefix_refl _)⟩)), trivial, hΦ, fun v F' As' M'' H' fin rv => ⟨R.non_inv rv, ?_⟩⟩
    have S4 := S3.after1 (o0 := .lst []) hA hM fin (fun z => z)
    have em : (M1 ++ [MC.ins C []]).set M1.length (.ins C fs) = M1 ++ [.ins C fs] := by
      rw [List.set_append_right _ _ (Nat.le_refl _)]; simp
    rw [em] at S4
    obtain ⟨τ, En, S5⟩ := fin.sta
    exact q (.ref x) F' (As1 ++ [x]) H' S4 ((e1.trans e3).trans S5.bF) (p1.trans (List.prefix_append _ _)) ⟨x, hA, rfl⟩
theorem ex_make {D2 : Addr} {gs : List (Str × D)} {mc : MC} (ha : EvA K t M E M1 xs) (hx : dats xs ≠ none) (hΦ : Φ [.ins C []] (.cel 0 :: xs) [mc] (.exc D2 gs)) : ExX K (fun _ => XX) (tMake C (FSp K Φ) [] XX t) M E M1 D2 gs := fun B F As σ H S k Q =>
  ha B F As σ H S _ fun vs F1 As1 H1 S1 e1 p1 r1 x dx nx ndx hne => by
    obtain ⟨S3, e3, hA, hM⟩ := make_in (C := C) (vs := vs) S1 nx ndx hne
    rw [List.append_nil]
    refine ⟨_, [x], [.ins C []], .cel 0 :: xs, [mc], .exc D2 gs, S3.before1 hA hM (by intro z; cases z) (P2.cons ⟨x, rfl, rfl⟩ (rv_dats hx ⟨r1.1, fun i a b g1 g2 => (r1.2 i a b g1 g2).mono e3 (List.prefix_refl _)⟩)), trivial, hΦ, fun dd ws F' As' M'' H' fin n p => ?_⟩
    refine k dd ws F' As1 H' (S1.afterX (F2 := upd F1 dx (.own x)) (H2 := upd (upd H1 dx (.own x)) x (.ins C dx [])) nx e3 (fun a o g g0 => ?_) (fun a o g => ?_) fin) n p
    · rw [upd_ne (ne_of_none g ndx)]; exact g0
    · rw [upd_ne (ne_of_none g nx), upd_ne (ne_of_none g ndx)]; exact g
end
end DL
set_option Elab.async false
set_option linter.all false
set_option maxRecDepth 100000
set_option maxHeartbeats 2000000
/-! DL: xs.count(b), xs truth values. -/
namespace DL
open PySem L2 PySem.Spec PyProof.Rows
/-- how often b stands among truth values -/
def rCntB (K : PySem.W.Frag) : V → List V → Hp → VK → Prop := fun x xs H Q => ∃ (p : Addr) (bs : List Bool) (b : Bool), x = .ref p ∧ xs = [.bl b] ∧ SqL K H p (bs.map V.bl) ∧ Q (.int (bs.count b : Nat)) H
theorem bools_its : ∀ {bs : List Bool} {its : List Value}, Vals (bs.map V.bl) its → its = bs.map Value.bool
  | [], _, h => by cases h; rfl
  | b :: bs, _, h => by
    cases h with
    | cons r t =>
      have e := bools_its t
      subst e
      obtain rfl : _ = Value.bool b := r
      rfl
theorem bools_read (h : Heap) : ∀ bs : List Bool, ReadsAll h (bs.map Value.bool) (bs.map PyData.bool) []
  | [] => .nil
  | b :: bs => .cons (as := []) (.bool b) (bools_read h bs)
theorem bools_plain : ∀ bs : List Bool, PyData.plainAll (bs.map PyData.bool) = true
  | [] => rfl
  | b :: bs => by
    show (PyData.plain (.bool b) && PyData.plainAll (bs.map PyData.bool)) = true
    rw [bools_plain bs]; rfl
theorem bools_count (b : Bool) : ∀ bs : List Bool, ((bs.map PyData.bool).countP fun y => PyData.eqv y (.bool b)) = bs.count b
  | [] => rfl
  | c :: bs => by
    rw [List.map_cons, List.countP_cons, List.count_cons, bools_count b bs]
    cases b <;> cases c <;> rfl
theorem mt_bcount {X : Cx} (hu : X.A.units + 64 < cLine) : MtR X "list.count" (rCntB X.K) := by
  intro pins s σ H x xs v us Q Iv rx rxs h
  obtain ⟨p, bs, b, rfl, rfl, hs, hq⟩ := h
  cases rx
  obtain ⟨u, rfl, ru⟩ := rxs.one
  obtain rfl : u = Value.bool b := ru
  obtain ⟨its, rv, hl, hlen⟩ := Iv.list hs
  have e := bools_its rv
  subst e
  refine PySem.SeqAt.count_list_data (d := .bool b) (xs := bs.map PyData.bool) hl.isList (bools_read _ bs) (.bool b) (bools_plain bs) rfl ?_ ?_
  · have : min (PyData.depthAll (bs.map PyData.bool)) (PyData.bool b).depth ≤ 1 := Nat.le_trans (Nat.min_le_right _ _) (by cases b <;> decide)
    omega
  · rw [bools_count]
    exact ⟨.int (bs.count b : Nat), H, Iv.tok _, ⟨_, rfl⟩, hq⟩
theorem takes0N {X : Cx} : L2N.Takes X (fun _ _ _ _ => False) := by
  intro u s2 z
  obtain ⟨_, _, _, _, _, _, _, _, _, _, _, _, _, _, _, _, ff⟩ := z
  exact ff.elim
end DL
set_option Elab.async false
set_option linter.all false
set_option maxRecDepth 100000
set_option maxHeartbeats 2000000
/-! DL: a method's call in a try. -/
namespace DL
open PySem L2 PySem.Spec PyProof.Rows
open Evl (Ex)
/-- o.m(e, ..), what it raises wished for at the slots -/
def tMethT (C : Addr) (m : Str) (sp : Sp) (Xs : L2.St → XK) (ta : TE) (t : TA) : TE := fun σ H Q => ta σ H fun x H1 => ∃ a dx fs, x = .ref a ∧ H1 a = some (.ins C dx fs) ∧ fs.lookup m = none ∧ t σ H1 fun vs H2 => sp (x :: vs) H2 Q (Xs σ)
section
variable {X : Cx} {CX : CXT} {k : Nat} {f C : Addr} {fd : FuncData} {prs : List Str} {sp : Sp} {Xs : L2.St → XK} {m : Str} {pos apos : Pos} {e o : Expr} {es : List Expr} {ta : TE} {t : TA}
theorem pe_methT {pl : Sem Bool} (hobj : PE X o ta) (hC : Cls X.K C) (hM : Meth X.K C m f) (Fo : FnOk X.prog X.w X.K X.mg X.base CX k f fd prs sp) (hroom : Room k X.A) (hbinds : Binds X.K fd prs []) (hpass : ∀ σ, PassesAt CX X σ (Xs σ)) (hargs : PA X (e :: es) t)
    (hstar : starEach (e :: es) X.env = (false, eval e X.env) :: starEach es X.env := by rfl) (hplain : (backTo pos (starEach es X.env)).any (·.1) = false := by rfl)
    (heval : eval (.Call (.Attribute o m apos) (e :: es) [] pos) X.env = (do
      let w0 ← eval o X.env
      standAt apos.atName
      let (f0, fst0) ← holding [w0] (getMethod w0 m pl)
      callWith pos f0 fst0 (backTo pos (starEach (e :: es) X.env)) (backToKw pos (keywordEach [] X.env))) := by rfl) : PE X (.Call (.Attribute o m apos) (e :: es) [] pos) (tMethT C m sp Xs ta t) := by
  constructor
  intro pins s σ H Q Iv hw
  refine PySem.W.methodCall_KW (pl := pl) (thn (hobj.run pins s σ H _ Iv hw) ?_) heval
  rintro u s1 ⟨x, H1, I1, rx, a, dx, fs, rfl, hA, hl, hq⟩
  obtain rfl : u = Value.ref a := rx
  refine getmeth_ok I1 hA hC hM hl ?_
  refine PySem.W.callWith_K (first := [.ref a]) (h₀ := X.base) I1.ok.mod.kin hM.kp (thn (hargs.run pos pins s1 σ H1 _ I1 hq) ?_) hstar hplain
  rintro us s2 ⟨vs, H2, I2, rvs, hsp⟩
  exact ⟨I2.kIn, run_fnS (us := .ref a :: us) (vs := .ref a :: vs) Fo hroom hbinds (hpass σ) I2 (.cons rfl rvs) hsp⟩
end
section
variable {K : PySem.W.Frag} {M M1 M2 : List MC} {E : List (Option Rv)} {ta : TE} {t : TA} {C : Addr} {fs : List (Str × D)} {m : Str} {xs : List Rv} {Φ : List MC → List Rv → List MC → Out → Prop} {Xs : L2.St → XK} {d : D}
theorem dats_cons {c : D} (hx : dats xs ≠ none) : dats (.dat c :: xs) ≠ none := by
  obtain ⟨ds, h⟩ := Option.ne_none_iff_exists'.mp hx
  intro z
  have e : dats (.dat c :: xs) = (dats xs).map (c :: ·) := rfl
  rw [e, h] at z
  cases z
theorem ev_methT (ho : EvD K ta M E M1 (.dat (.ins C fs))) (hm : fs.lookup m = none) (ha : EvA K t M1 E M2 xs) (hx : dats xs ≠ none) (hΦ : Φ [] (.dat (.ins C fs) :: xs) [] (.ret d)) : EvD K (tMethT C m (FSp K Φ) Xs ta t) M E M2 (.dat d) := fun B F As σ H S Q q =>
  ho B F As σ H S _ fun v F1 As1 H1 S1 e1 p1 r1 => by
    obtain ⟨a, dx, ws, ev, hA, pa⟩ := R.ins_inv r1
    have hn : ws.lookup m = none := by
      rcases pa.look (f := m) with ⟨_, g⟩ | ⟨d2, v2, g, _⟩
      · exact g
      · rw [hm] at g; cases g
    exact ⟨a, dx, ws, ev, S1.ex _ _ hA, hn, ha B F1 As1 σ H1 S1 _ fun vs F2 As2 H2 S2 e2 p2 r2 => ev_fsp S2 (dats_cons hx) (P2.cons (R.mono r1 e2) r2) hΦ fun v F3 H3 S3 e3 rv => q v F3 As2 H3 S3 ((e1.trans e2).trans e3) (p1.trans p2) rv⟩
theorem ex_methT (ho : EvD K ta M E M1 (.dat (.ins C fs))) (hm : fs.lookup m = none) (ha : EvA K t M1 E M2 xs) (hx : dats xs ≠ none) {D2 : Addr} {gs : List (Str × D)} (hΦ : Φ [] (.dat (.ins C fs) :: xs) [] (.exc D2 gs)) : ExX K Xs (tMethT C m (FSp K Φ) Xs ta t) M E M2 D2 gs := fun B F As σ H S k Q =>
  ho B F As σ H S _ fun v F1 As1 H1 S1 e1 p1 r1 => by
    obtain ⟨a, dx, ws, ev, hA, pa⟩ := R.ins_inv r1
    have hn : ws.lookup m = none := by
      rcases pa.look (f := m) with ⟨_, g⟩ | ⟨d2, v2, g, _⟩
      · exact g
      · rw [hm] at g; cases g
    exact ⟨a, dx, ws, ev, S1.ex _ _ hA, hn, ha B F1 As1 σ H1 S1 _ fun vs F2 As2 H2 S2 e2 p2 r2 => ex_fsp S2 (dats_cons hx) (P2.cons (R.mono r1 e2) r2) hΦ k⟩
end
end DL
set_option Elab.async false
set_option linter.all false
set_option maxRecDepth 100000
set_option maxHeartbeats 2000000
/-! DL: pop at a place, list(range(a, b)). -/
namespace DL
open PySem L2
open Evl (Ex)
theorem P2.erase {α β : Type} {R : α → β → Prop} {xs : List α} {ys : List β} (h : P2 R xs ys) (j : Nat) : P2 R (xs.eraseIdx j) (ys.eraseIdx j) := by
  rw [List.eraseIdx_eq_take_drop_succ, List.eraseIdx_eq_take_drop_succ]
  exact (h.take j).append (h.drop (j + 1))
section
variable {K : PySem.W.Frag} {M M1 M2 M3 : List MC} {E : List (Option Rv)} {ta tb : TE}
/-- xs.pop(i), xs a cell -/
theorem ev_popAt {k : Nat} {ds1 ds : List D} {i : Int} {d : D} (ho : EvD K ta M E M1 (.cel k)) (hi : EvD K tb M1 E M2 (rint i)) (hk1 : M1[k]? = some (.lst ds1)) (hk : M2[k]? = some (.lst ds)) (h0 : 0 ≤ i) (hl : ds.length ≤ 16777216) (hd : ds[i.toNat]? = some d) :
    EvD K (tBM K "list" rPopAt ta (tCons tb tNil)) M E (M2.set k (.lst (ds.eraseIdx i.toNat))) (.dat d) := fun B F As σ H S Q q =>
  ho B F As σ H S _ fun v F1 As1 H1 S1 e1 p1 r1 => by
    obtain ⟨a, hA, rfl⟩ := r1
    obtain ⟨_, o, ho1, vs1, rfl, pa1⟩ := S1.cell k a _ hA hk1 (by intro z; cases z)
    refine ⟨.inl ⟨rfl, _, SqL.of ho1⟩, hi B F1 As1 σ H1 S1 _ fun v2 F2 As2 H2 S2 e2 p2 r2 => ?_⟩
    have hA := prefix_get p2 hA
    obtain ⟨_, o, ho, vs, rfl, pa⟩ := S2.cell k a _ hA hk (by intro z; cases z)
    cases R.int_inv r2
    obtain ⟨v, hv, rv⟩ := pa.get hd
    have hn := (List.getElem?_eq_some_iff.mp hd).1
    have hm := pa.1
    exact ⟨a, vs, i, i.toNat, v, rfl, rfl, ho, by omega, by omega, seqIndex_of h0 (by omega), hv, q v F2 As2 _ (S2.chg hA hk (by intro z; cases z) ⟨_, rfl, pa.erase _⟩) (e1.trans e2) (p1.trans p2) rv⟩
theorem eraseIdx_map {α β : Type} (f : α → β) : ∀ (xs : List α) (j : Nat), (xs.map f).eraseIdx j = (xs.eraseIdx j).map f
  | [], _ => rfl
  | x :: xs, 0 => rfl
  | x :: xs, j + 1 => congrArg (f x :: ·) (eraseIdx_map f xs j)
theorem ev_popAtI {k : Nat} {ds1 : List D} {ns : List Int} {i : Int} (ho : EvD K ta M E M1 (.cel k)) (hi : EvD K tb M1 E M2 (rint i)) (hk1 : M1[k]? = some (.lst ds1)) (hk : M2[k]? = some (.lst (ns.map D.int))) (h0 : 0 ≤ i) (h1 : i < ns.length) (hl : ns.length ≤ 16777216) :
    EvD K (tBM K "list" rPopAt ta (tCons tb tNil)) M E (M2.set k (.lst ((ns.eraseIdx i.toNat).map D.int))) (rint (gI ns i)) := by
  rw [← eraseIdx_map]
  refine ev_popAt ho hi hk1 hk h0 (by rw [List.length_map]; exact hl) ?_
  have h : i.toNat < ns.length := by omega
  rw [List.getElem?_map, List.getElem?_eq_getElem h]
  show some (D.int _) = some (D.int (ns.getD i.toNat 0))
  rw [List.getD_eq_getElem?_getD, List.getElem?_eq_getElem h]; rfl
/-- the numbers from a to b - 1 -/
def rgD (a b : Int) : List Int := (List.range (b - a).toNat).map fun (i : Nat) => a + i
theorem mem_rgD {a b n : Int} : n ∈ rgD a b ↔ a ≤ n ∧ n < b := by
  unfold rgD
  constructor
  · intro h
    obtain ⟨i, hi, rfl⟩ := List.mem_map.mp h
    have := List.mem_range.mp hi
    omega
  · intro h
    exact List.mem_map.mpr ⟨(n - a).toNat, List.mem_range.mpr (by omega), by omega⟩
theorem rgD_len {a b : Int} : (rgD a b).length = (b - a).toNat := by unfold rgD; rw [List.length_map, List.length_range]
theorem ev_listRg2 {a b : Int} (ha : EvD K ta M E M1 (rint a)) (hb : EvD K tb M1 E M2 (rint b)) (h : RgOk a b) : EvD K (tLstRg (tRg2 ta tb)) M E M2 (rints (rgD a b)) := fun B F As σ H S Q q =>
  ha B F As σ H S _ fun v F1 As1 H1 S1 e1 p1 r1 => hb B F1 As1 σ H1 S1 _ fun w F2 As2 H2 S2 e2 p2 r2 => by
    cases R.int_inv r1; cases R.int_inv r2
    refine ⟨a, b, rfl, rfl, h, fun p hp => ?_⟩
    have e : rgV a b = (rgD a b).map V.int := by
      unfold rgV rgD
      rw [List.map_map]; rfl
    rw [e]
    exact ev_lstNew S2 hp (P2.ofInts _) fun u F' As' H' S' e' p' r' => q u F' As' H' S' ((e1.trans e2).trans e') ((p1.trans p2).trans p') r'
end
end DL
set_option linter.all false
/-! DL: what isinstance and except ask of classes, out of what the top has written. -/
namespace DL
open PySem L2
section
variable {K : PySem.W.Frag} {C D : Addr} {T : String}
theorem kit_same : PySem.W.kitOne K (.ref C) (.ref C) = some true := by
  unfold PySem.W.kitOne
  rw [if_pos (by simp)]
theorem kit_cls2 (hc : PySem.W.isClsIn K D = true) (ht : PySem.W.typeIn K (.ref D) = some (.type "type")) {v : Value} : PySem.W.kitCls K v (.ref D) = PySem.W.subIn K v (.ref D) := by
  have hc : (PySem.W.clsIn K D).isSome = true := hc
  have e : ((PySem.W.clsIn K D).isSome && PySem.W.typeIn K (.ref D) == some (.type "type")) = true := by
    rw [hc, ht] <;> rfl
  show (if ((PySem.W.clsIn K D).isSome && PySem.W.typeIn K (.ref D) == some (.type "type")) = true then PySem.W.subIn K v (.ref D) else none) = _
  rw [if_pos e]
theorem kit_ne {b : Bool} (hn : (Value.ref C == Value.ref D) = false) (hc : PySem.W.isClsIn K D = true) (ht : PySem.W.typeIn K (.ref D) = some (.type "type")) (hs : PySem.W.subIn K (.ref C) (.ref D) = some b) : PySem.W.kitOne K (.ref C) (.ref D) = some b := by
  unfold PySem.W.kitOne
  rw [hn, if_neg Bool.false_ne_true, kit_cls2 hc ht, hs]
theorem kit_ty {b : Bool} (hn : (Value.ref C == Value.type T) = false) (hm : PySem.W.kitMeta T = true) (hs : PySem.W.subIn K (.ref C) (.type T) = some b) : PySem.W.kitOne K (.ref C) (.type T) = some b := by
  unfold PySem.W.kitOne
  rw [hn, if_neg Bool.false_ne_true]
  show (if PySem.W.kitMeta T = true then PySem.W.subIn K (.ref C) (.type T) else none) = _
  rw [if_pos hm, hs]
theorem exm_own {b : Bool} (hb : PySem.W.subIn K (.ref D) (.type "BaseException") = some true) (hc : PySem.W.isClsIn K D = true) (ht : PySem.W.typeIn K (.ref D) = some (.type "type")) (hs : PySem.W.subIn K (.ref C) (.ref D) = some b) : PySem.W.exmOne K (.ref C) (.ref D) = some b := by
  unfold PySem.W.exmOne
  rw [if_pos (by rw [hb]; rfl), kit_cls2 hc ht, hs]
end
end DL
set_option Elab.async false
set_option linter.all false
set_option maxRecDepth 100000
set_option maxHeartbeats 2000000
/-! DL: cells that hold cells: made, given back, read; cells lent to a def that only reads. -/
namespace DL
open PySem L2
open Evl (Ex)
def Rv.up (n : Nat) : Rv → Rv
  | .dat d => .dat d
  | .cel k => .cel (n + k)
def DO.up (n : Nat) : DO → DO
  | .lst rs => .lst (rs.map (Rv.up n))
  | .tup rs => .tup (rs.map (Rv.up n))
  | .ins C fs => .ins C (fs.map fun p => (p.1, p.2.up n))
def MC.up (n : Nat) : MC → MC
  | .deep x => .deep (x.up n)
  | mc => mc
section
variable {K : PySem.W.Frag} {B : Base} {F F' F1 H H' H1 : Hp} {As As' As1 : List Addr} {M M0 M1 M2 M3 M'' : List MC} {σ : L2.St} {E : List (Option Rv)} {ta tb te : TE} {r x : Rv} {xs rs : List Rv} {Φ : List MC → List Rv → List MC → Out → Prop} {XX : XK} {Xs : L2.St → XK} {t : TA} {v : V}
theorem RV.up (h : RV K F As r v) : RV K F (As1 ++ As) (r.up As1.length) v := by
  cases r with
  | dat d => exact h
  | cel k =>
    obtain ⟨a, h1, h2⟩ := h
    refine ⟨a, ?_, h2⟩
    rw [List.getElem?_append_right (Nat.le_add_right _ _), Nat.add_sub_cancel_left]
    exact h1
theorem P2.mapL {α β γ : Type} {R : α → β → Prop} {S : γ → β → Prop} {f : α → γ} {us : List α} {ws : List β} (h : P2 R us ws) (g : ∀ a b, R a b → S (f a) b) : P2 S (us.map f) ws := by
  refine ⟨by rw [List.length_map]; exact h.1, fun i p q e1 e2 => ?_⟩
  rw [List.getElem?_map] at e1
  cases c : us[i]? with
  | none => rw [c] at e1; cases e1
  | some a => rw [c] at e1; cases e1; exact g _ _ (h.2 i a q c e2)
theorem DOR.up {y : DO} {o : HO} (h : DOR K F As y o) : DOR K F (As1 ++ As) (y.up As1.length) o := by
  cases y with
  | lst rs => obtain ⟨zs, h1, h2⟩ := h; exact ⟨zs, h1, h2.mapL fun _ _ q => q.up⟩
  | tup rs => obtain ⟨zs, h1, h2⟩ := h; exact ⟨zs, h1, h2.mapL fun _ _ q => q.up⟩
  | ins C fs => obtain ⟨dx, ws, h1, h2⟩ := h; exact ⟨dx, ws, h1, h2.mapL fun _ _ q => ⟨q.1, q.2.up⟩⟩
theorem MCR.up {mc : MC} {o : HO} (h : MCR K F As mc o) : MCR K F (As1 ++ As) (mc.up As1.length) o := by
  cases mc with
  | deep y => exact DOR.up h
  | lst ds => exact h
  | dct kvs => exact h
  | ins C fs => exact h
  | gone => exact h
/-- the caller behind a call that took no cell and made some -/
theorem Sta.grow0 (S1 : Sta K B F1 As1 M1 σ E H1) (fin : Fin K F1 H1 [] [] F' H' As' M'') : Sta K B F' (As1 ++ As') (M1 ++ M''.map (MC.up M1.length)) σ E H' ∧ Ex F1 F' := by
  obtain ⟨τ, En, S2⟩ := fin.sta
  have same : ∀ c o, H1 c = some o → H' c = some o := fun c o g => S2.bH c o g (fun z => by cases z)
  have new : ∀ a ∈ As', H1 a = none := fun a h => by
    rcases S2.bA a h with q | q
    · cases q
    · exact q
  refine ⟨⟨S2.ex, by rw [List.length_append, List.length_append, List.length_map, S1.len, S2.len], ?_, fun k c mc g1 g2 g3 => ?_, S1.slots.mono S2.bF (List.prefix_append _ _), S1.bF.trans S2.bF, fun c o g nP => same _ _ (S1.bH c o g nP), fun c o g g0 => ?_, fun c g => ?_, fun c o g => ?_, fun c g => ?_, S1.pA.trans (List.prefix_append _ _)⟩, S2.bF⟩
  · rw [List.nodup_append]
    exact ⟨S1.nd, S2.nd, fun a ha b hb e => S1.off (new b hb) (e ▸ ha)⟩
  · by_cases hk : k < As1.length
    · rw [List.getElem?_append_left hk] at g1
      rw [List.getElem?_append_left (S1.len ▸ hk)] at g2
      obtain ⟨g4, o, g5, g6⟩ := S1.cell k c mc g1 g2 g3
      exact ⟨S2.bN c o g5 g4, o, same _ _ g5, g6.mono2 S2.bF (List.prefix_append _ _)⟩
    · have hk := Nat.le_of_not_lt hk
      rw [List.getElem?_append_right hk] at g1
      rw [List.getElem?_append_right (S1.len ▸ hk), List.getElem?_map, ← S1.len] at g2
      cases q : M''[k - As1.length]? with
      | none => rw [q] at g2; cases g2
      | some m0 =>
        rw [q] at g2
        have g2 : MC.up As1.length m0 = mc := Option.some.inj g2
        have n0 : m0 ≠ .gone := by
          rintro rfl
          exact g3 g2.symm
        obtain ⟨g4, o, g5, g6⟩ := S2.cell _ c m0 g1 q n0
        exact ⟨g4, o, g5, g2 ▸ MCR.up g6⟩
  · obtain ⟨w, hw⟩ := S1.bK c o g
    exact S2.bN c w hw (S1.bN c o g g0)
  · rcases List.mem_append.mp g with q | q
    · exact S1.bA c q
    · exact .inr (S1.base_off (new c q))
  · obtain ⟨w, hw⟩ := S1.bK c o g
    exact ⟨w, same _ _ hw⟩
  · rcases List.mem_append.mp g with q | q
    · obtain ⟨w, hw⟩ := S1.kn c q
      exact ⟨w, same _ _ hw⟩
    · exact S2.kn c q
theorem ev_growF {vs : List V} {Q : VK} {ms : List MC} (S1 : Sta K B F1 As1 M1 σ E H1) (hx : dats xs ≠ none) (r1 : P2 (RV K F1 As1) xs vs) (hΦ : Φ [] xs [] (.grow ms r))
    (k : ∀ v F' As' H', Sta K B F' As' (M1 ++ ms.map (MC.up M1.length)) σ E H' → Ex F1 F' → As1 <+: As' → RV K F' As' (r.up M1.length) v → Q v H') : FSp K Φ vs H1 Q XX :=
  ⟨F1, [], [], xs, [], .grow ms r, S1.before0 hx r1, Live.nil, hΦ, fun v F' As' M'' H' fin hd rv => by
    obtain ⟨S2, e2⟩ := S1.grow0 fin
    have hd : M'' = ms := hd
    subst hd
    exact k v F' _ H' S2 e2 (List.prefix_append _ _) (S1.len ▸ rv.up)⟩
/-- no cell goes in, new cells come out, among them what is given back -/
theorem ev_callW {ms : List MC} (ha : EvA K t M E M1 xs) (hx : dats xs ≠ none) (hΦ : Φ [] xs [] (.grow ms r)) : EvD K (tCall (FSp K Φ) [] XX t) M E (M1 ++ ms.map (MC.up M1.length)) (r.up M1.length) := fun B F As σ H S Q q =>
  ha B F As σ H S _ fun vs F1 As1 H1 S1 e1 p1 r1 => by
    rw [List.append_nil]
    exact ev_growF S1 hx r1 hΦ fun v F2 As2 H2 S2 e2 p2 rv => q v F2 As2 H2 S2 (e1.trans e2) (p1.trans p2) rv
theorem ev_callWS {ms : List MC} (ha : EvA K t M E M1 xs) (hx : dats xs ≠ none) (hΦ : Φ [] xs [] (.grow ms r)) : EvD K (tCallS (FSp K Φ) Xs t) M E (M1 ++ ms.map (MC.up M1.length)) (r.up M1.length) := fun B F As σ H S Q q =>
  ha B F As σ H S _ fun vs F1 As1 H1 S1 e1 p1 r1 => ev_growF S1 hx r1 hΦ fun v F2 As2 H2 S2 e2 p2 rv => q v F2 As2 H2 S2 (e1.trans e2) (p1.trans p2) rv
/-! ### cells lent -/
/-- a value and all that it holds, as data -/
def viewR (M : List MC) : Nat → Rv → Option D
  | _, .dat d => some d
  | 0, .cel _ => none
  | n + 1, .cel k => match M[k]? with
    | some (.lst ds) => some (.lst ds)
    | some (.dct kvs) => some (.dct kvs)
    | some (.ins C fs) => some (.ins C fs)
    | some (.deep (.lst rs)) => (rs.mapM (viewR M n)).map .lst
    | some (.deep (.tup rs)) => (rs.mapM (viewR M n)).map .tup
    | some (.deep (.ins C fs)) => ((fs.map (·.2)).mapM (viewR M n)).map fun ds => .ins C ((fs.map (·.1)).zip ds)
    | _ => none
theorem mapM_some {α β : Type} {f : α → Option β} : ∀ {us : List α} {ws : List β}, us.mapM f = some ws → us.length = ws.length ∧ ∀ (i : Nat) (a : α), us[i]? = some a → ∃ b, ws[i]? = some b ∧ f a = some b
  | [], ws, h => by
    have h : ws = [] := by simpa using h.symm
    subst h
    exact ⟨rfl, fun i a e => by simp at e⟩
  | u :: us, ws, h => by
    rw [List.mapM_cons] at h
    cases c : f u with
    | none => rw [c] at h; cases h
    | some b =>
      cases c2 : us.mapM f with
      | none => rw [c, c2] at h; cases h
      | some bs =>
        rw [c, c2] at h
        have h : b :: bs = ws := Option.some.inj h
        subst h
        obtain ⟨l, g⟩ := mapM_some c2
        refine ⟨by simp [l], fun i a e => ?_⟩
        cases i with
        | zero =>
          have e : u = a := by simpa using e
          exact ⟨b, rfl, e ▸ c⟩
        | succ i => exact g i a (by simpa using e)
theorem view_R (S : Sta K B F As M σ E H) : ∀ {n : Nat} {r : Rv} {d : D} {v : V}, viewR M n r = some d → RV K F As r v → R K H d v
  | n, .dat d0, d, v, h, rv => by
    have h : some d0 = some d := by cases n <;> exact h
    cases h
    exact R.mono rv S.ex
  | 0, .cel k, d, v, h, rv => by cases h
  | n + 1, .cel k, d, v, h, ⟨a, hA, ev⟩ => by
    subst ev
    unfold viewR at h
    have all : ∀ {us : List Rv} {ds : List D} {ws : List V}, us.mapM (viewR M n) = some ds → P2 (RV K F As) us ws → P2 (R K H) ds ws := fun {us ds ws} h1 h2 => by
      obtain ⟨l, g⟩ := mapM_some h1
      refine ⟨l ▸ h2.1, fun i d w e1 e2 => ?_⟩
      have hi : i < us.length := by rw [l]; exact (List.getElem?_eq_some_iff.mp e1).1
      obtain ⟨b, e3, e4⟩ := g i _ (List.getElem?_eq_getElem hi)
      rw [e1] at e3; cases e3
      exact view_R S e4 (h2.2 i _ w (List.getElem?_eq_getElem hi) e2)
    cases q : M[k]? with
    | none => rw [q] at h; cases h
    | some mc =>
      rw [q] at h
      cases mc with
      | gone => cases h
      | lst ds =>
        cases h
        obtain ⟨_, o, ho, zs, rfl, pa⟩ := S.cell k a _ hA q (by intro z; cases z)
        exact R.lst' ho (pa.imp fun _ _ z => z.mono S.ex)
      | dct kvs =>
        cases h
        obtain ⟨_, o, ho, zs, rfl, pa⟩ := S.cell k a _ hA q (by intro z; cases z)
        exact R.dct' ho (pa.imp fun _ _ z => ⟨z.1, z.2.mono S.ex⟩)
      | ins C fs =>
        cases h
        obtain ⟨_, o, ho, dx, zs, rfl, pa⟩ := S.cell k a _ hA q (by intro z; cases z)
        exact R.ins' ho (pa.imp fun _ _ z => ⟨z.1, z.2.mono S.ex⟩)
      | deep y =>
        cases y with
        | lst rs =>
          obtain ⟨_, o, ho, zs, rfl, pa⟩ := S.cell k a _ hA q (by intro z; cases z)
          have h : (rs.mapM (viewR M n)).map D.lst = some d := h
          cases c : rs.mapM (viewR M n) with
          | none => rw [c] at h; cases h
          | some ds => rw [c] at h; cases h; exact R.lst' ho (all c pa)
        | tup rs =>
          obtain ⟨_, o, ho, zs, rfl, pa⟩ := S.cell k a _ hA q (by intro z; cases z)
          have h : (rs.mapM (viewR M n)).map D.tup = some d := h
          cases c : rs.mapM (viewR M n) with
          | none => rw [c] at h; cases h
          | some ds => rw [c] at h; cases h; exact R.tup' ho (all c pa)
        | ins C fs =>
          obtain ⟨_, o, ho, dx, zs, rfl, pa⟩ := S.cell k a _ hA q (by intro z; cases z)
          have h : ((fs.map (·.2)).mapM (viewR M n)).map (fun ds => D.ins C ((fs.map (·.1)).zip ds)) = some d := h
          cases c : (fs.map (·.2)).mapM (viewR M n) with
          | none => rw [c] at h; cases h
          | some ds =>
            rw [c] at h; cases h
            have p2 : P2 (RV K F As) (fs.map (·.2)) (zs.map (·.2)) := by
              refine ⟨by simpa using pa.1, fun i x y e1 e2 => ?_⟩
              rw [List.getElem?_map] at e1 e2
              cases c1 : fs[i]? with
              | none => rw [c1] at e1; cases e1
              | some p =>
                cases c2 : zs[i]? with
                | none => rw [c2] at e2; cases e2
                | some q => rw [c1] at e1; rw [c2] at e2; cases e1; cases e2; exact (pa.2 i p q c1 c2).2
            have p3 := all c p2
            refine R.ins' ho ⟨?_, fun i p q e1 e2 => ?_⟩
            · have := p3.1
              have := pa.1
              simp at *
              omega
            · rw [List.getElem?_zip_eq_some] at e1
              obtain ⟨e3, e4⟩ := e1
              rw [List.getElem?_map] at e3
              cases c1 : fs[i]? with
              | none => rw [c1] at e3; cases e3
              | some p0 =>
                rw [c1] at e3
                have e3 : p0.1 = p.1 := Option.some.inj e3
                refine ⟨e3 ▸ (pa.2 i p0 q c1 e2).1, p3.2 i p.2 q.2 e4 (by rw [List.getElem?_map, e2]; rfl)⟩
theorem Sta.stay (S : Sta K B F As M σ E H) (kp : ∀ a o, H a = some o → H' a = some o) : Sta K B F As M σ E H' :=
  ⟨fun a o h => kp _ _ (S.ex a o h), S.len, S.nd, fun k a mc h1 h2 h3 => by
    obtain ⟨g1, o, g2, g3⟩ := S.cell k a mc h1 h2 h3
    exact ⟨g1, o, kp _ _ g2, g3⟩, S.slots, S.bF, fun a o h hP => kp _ _ (S.bH a o h hP), S.bN, S.bA, fun a o h => by
    obtain ⟨u, hu⟩ := S.bK a o h
    exact ⟨u, kp _ _ hu⟩, fun a h => by
    obtain ⟨u, hu⟩ := S.kn a h
    exact ⟨u, kp _ _ hu⟩, S.pA⟩
/-- data that stand in no heap -/
def D.sc : D → Prop
  | .non => True
  | .bl _ => True
  | .int _ => True
  | .str _ => True
  | _ => False
theorem R.sc {d : D} (h : R K F d v) (s : d.sc) : R K F' d v := by
  cases h with
  | non => exact .non
  | bl b => exact .bl b
  | int i => exact .int i
  | str z => exact .str z
  | _ => cases s
theorem lend_in {vs : List V} {ds : List D} {n : Nat} (S1 : Sta K B F1 As1 M1 σ E H1) (hv : xs.mapM (viewR M1 n) = some ds) (r1 : P2 (RV K F1 As1) xs vs) : Sta K (Sta.self H1 H1 []) H1 [] [] (vs.map some) ((ds.map Rv.dat).map some) H1 := by
  obtain ⟨l, g⟩ := mapM_some hv
  refine ⟨Ex.refl _, rfl, List.nodup_nil, fun k a mc h => by simp at h, ⟨by simp [← l, r1.1], fun i r h => ?_⟩, Ex.refl _, fun a o h _ => h, fun a o _ h => h, fun a h => (by cases h), fun a o h => ⟨o, h⟩, fun a h => (by cases h), List.prefix_refl _⟩
  rw [List.getElem?_map, List.getElem?_map] at h
  cases c : ds[i]? with
  | none => rw [c] at h; cases h
  | some d =>
    rw [c] at h; cases h
    have hi : i < xs.length := by rw [l]; exact (List.getElem?_eq_some_iff.mp c).1
    obtain ⟨b, e3, e4⟩ := g i _ (List.getElem?_eq_getElem hi)
    rw [c] at e3; cases e3
    obtain ⟨w, hw, rw_⟩ := r1.get (List.getElem?_eq_getElem hi)
    exact ⟨w, by rw [List.getElem?_map, hw]; rfl, view_R S1 e4 rw_⟩
/-- a call that only reads: cells go in as data, a plain value comes out -/
theorem ev_lend {ds : List D} {d : D} (n : Nat) (ha : EvA K t M E M1 xs) (hv : xs.mapM (viewR M1 n) = some ds) (hΦ : Φ [] (ds.map Rv.dat) [] (.ret d)) (hs : d.sc) : EvD K (tCall (FSp K Φ) [] XX t) M E M1 (.dat d) := fun B F As σ H S Q q =>
  ha B F As σ H S _ fun vs F1 As1 H1 S1 e1 p1 r1 => by
    rw [List.append_nil]
    refine ⟨H1, [], [], ds.map Rv.dat, [], .ret d, lend_in S1 hv r1, Live.nil, hΦ, fun v F' As' M'' H' fin rv => ?_⟩
    obtain ⟨τ, En, S2⟩ := fin.sta
    exact q v F1 As1 H' (S1.stay fun a o h => S2.bH a o h (fun z => by cases z)) e1 p1 (R.sc rv hs)
/-! ### made and read -/
theorem ev_tupM (ha : EvA K t M E M1 rs) (hl : rs.length ≤ 16777216) : EvD K (tTup t) M E (M1 ++ [.deep (.tup rs)]) (.cel M1.length) := fun B F As σ H S Q q =>
  ha B F As σ H S _ fun vs F1 As1 H1 S1 e1 p1 r1 => ⟨sz (r1.1 ▸ hl), fun p hp => by
    have S2 := S1.newM (o := .tup vs) (mc := .deep (.tup rs)) hp ⟨vs, rfl, r1.imp fun _ _ z => z.mono (Ex.refl _) (List.prefix_append _ _)⟩
    exact q _ _ _ _ S2 e1 (p1.trans (List.prefix_append _ _)) ⟨p, by rw [List.getElem?_append_right (by rw [S1.len]; exact Nat.le_refl _), S1.len]; simp, rfl⟩⟩
theorem ev_lstC (ha : EvA K t M E M1 rs) (hl : rs.length ≤ 16777216) : EvD K (tLst t) M E (M1 ++ [.deep (.lst rs)]) (.cel M1.length) := fun B F As σ H S Q q =>
  ha B F As σ H S _ fun vs F1 As1 H1 S1 e1 p1 r1 => ⟨sz (r1.1 ▸ hl), fun p hp => by
    have S2 := S1.newM (o := .lst vs) (mc := .deep (.lst rs)) hp ⟨vs, rfl, r1.imp fun _ _ z => z.mono (Ex.refl _) (List.prefix_append _ _)⟩
    exact q _ _ _ _ S2 e1 (p1.trans (List.prefix_append _ _)) ⟨p, by rw [List.getElem?_append_right (by rw [S1.len]; exact Nat.le_refl _), S1.len]; simp, rfl⟩⟩
theorem od_ixTc {k : Nat} {i : Int} (hk : M[k]? = some (.deep (.tup rs))) (ha : atI rs i = some r) : OpD K (rIxT K) M (.cel k) (rint i) M r := OpD.pure fun B F H As σ E v w S r1 r2 Q q => by
  obtain ⟨a, hA, rfl⟩ := r1
  cases R.int_inv r2
  obtain ⟨_, o, ho, vs, rfl, h3⟩ := S.cell k a _ hA hk (by intro z; cases z)
  unfold atI at ha
  rw [h3.1] at ha
  cases e : ixN vs.length i with
  | none => rw [e] at ha; cases ha
  | some j =>
    rw [e] at ha
    obtain ⟨y, hy, ry⟩ := h3.get ha
    exact ⟨a, vs, i, y, rfl, rfl, SqT.of ho, by unfold atI; rw [e]; exact hy, q y ry⟩
theorem od_ixLc {k : Nat} {i : Int} (hk : M[k]? = some (.deep (.lst rs))) (ha : atI rs i = some r) : OpD K (rIxL K) M (.cel k) (rint i) M r := OpD.pure fun B F H As σ E v w S r1 r2 Q q => by
  obtain ⟨a, hA, rfl⟩ := r1
  cases R.int_inv r2
  obtain ⟨_, o, ho, vs, rfl, h3⟩ := S.cell k a _ hA hk (by intro z; cases z)
  unfold atI at ha
  rw [h3.1] at ha
  cases e : ixN vs.length i with
  | none => rw [e] at ha; cases ha
  | some j =>
    rw [e] at ha
    obtain ⟨y, hy, ry⟩ := h3.get ha
    exact ⟨a, vs, i, y, rfl, rfl, SqL.of ho, by unfold atI; rw [e]; exact hy, q y ry⟩
end
end DL
set_option Elab.async false
set_option linter.all false
set_option maxRecDepth 100000
set_option maxHeartbeats 2000000
/-! DL: list(range(a, b, c)), while loops. -/
namespace DL
open PySem L2 PySem.Spec PyProof.Rows
open Evl (Ex)
/-- n numbers from i on, c apart -/
def stV (i c : Int) (n : Nat) : List V := (List.range n).map fun (k : Nat) => V.int (i + (k : Int) * c)
def stD (i c : Int) (n : Nat) : List Int := (List.range n).map fun (k : Nat) => i + (k : Int) * c
def tLstRg3 (ta : TA) : TE := fun σ H Q => ta σ H fun vs H1 => ∃ (i j c : Int) (n : Nat), vs = [.int i, .int j, .int c] ∧ RgC i j c n ∧ n ≤ 16777216 ∧ ∀ q, H1 q = none → Q (.ref q) (upd H1 q (.lst (stV i c n)))
theorem vals_st {i c : Int} {n : Nat} {acc : Array Value} (h : ItemsOf (fun k v => ∃ t, v = .int (i + k * c) t) acc n) : Vals (stV i c n) acc.toList := by
  have e : acc.toList.length = n := by rw [Array.length_toList]; exact h.1
  unfold stV
  rw [← e]
  refine vals_of_get acc.toList _ fun j u hj => ?_
  obtain ⟨t, rfl⟩ := h.2 j u (by rw [← hj, Array.getElem?_toList])
  exact ⟨t, rfl⟩
section
variable {X : Cx}
theorem pe_listRg3 {a b c : Expr} {ta : TA} {p p2 pos pos2 : Pos} (hc : X.calm = true) (hg : Gl X "list") (hm : X.mg "list" = none) (hg2 : Gl X "range") (hm2 : X.mg "range" = none) (ha : PA X [a, b, c] ta)
    (hs : starEach [a, b, c] X.env = (false, eval a X.env) :: starEach [b, c] X.env := by rfl) (hpl : (backTo pos2 (starEach [b, c] X.env)).any (·.1) = false := by rfl)
    (na : starEach [.Call (.Name "range" p2) [a, b, c] [] pos2] X.env = (false, eval (.Call (.Name "range" p2) [a, b, c] [] pos2) X.env) :: starEach [] X.env := by rfl) :
    PE X (.Call (.Name "list" p) [.Call (.Name "range" p2) [a, b, c] [] pos2] [] pos) (tLstRg3 ta) := by
  refine ⟨fun pins s σ H Q I h => ?_⟩
  refine Call_ (ld_blt I hg hm boot_list (PyProof.Rows.callWith_type1 (args_cons (Call_ (ld_blt I hg2 hm2 boot_range (PyProof.Rows.callWith_type1 (thn (ha.run pos2 pins s σ H _ I h) fun us s1 ⟨vs, H1, I1, r1, q1⟩ => ?_) hs hpl))) na) na))
  obtain ⟨i, j, k, n, e, ⟨c0, c1, c2, c3⟩, hn, q⟩ := q1
  subst e
  cases r1 with
  | cons r rr =>
    cases rr with
    | cons r' rr =>
      cases rr with
      | cons r'' rr =>
        cases rr
        obtain ⟨t, rfl⟩ := r
        obtain ⟨t', rfl⟩ := r'
        obtain ⟨t'', rfl⟩ := r''
        refine call_range_3 c0 (args_nil ?_) (.inl (PyProof.noPylong_small c1))
        have I2 : Inv X pins σ H1 { s1 with heap := s1.heap.push { cls := .type "range", data := .fields #[.int i t, .int j t', .int k t''] } } := I1.kept (t' := s1.toks) fun b o e => Heap.get?_push_of_some _ e
        refine call_list_range (n := n) (I2.ok.hd hc) (IsRange.new ..) c2 c3 (by exact hn) fun h' tk acc c' hk e' hi => ?_
        refine ⟨.ref _, upd H1 _ (.lst (stV i k n)), I2.laid hk (Nat.le_refl _) (show ObjOk X.prog X.w _ _ _ (.lst (stV i k n)) from ⟨?_, acc.toList, c', vals_st hi, ?_⟩), rfl, q _ ?_⟩
        · unfold stV; rw [List.length_map, List.length_range, sizeLine_eq]; omega
        · rw [Array.toArray_toList]; exact e'
        · exact I2.hok.fresh (Nat.le_refl _)
end
/-- a if c else b, as a test -/
def tIfT (c ta tb : TT) : TT := fun σ H Q => c σ H fun d H1 => if d = true then ta σ H1 Q else tb σ H1 Q
theorem pt_ifExp {X : Cx} {c a b : Expr} {pos : Pos} {tc ta tb : TT} (hc : PT X c tc) (ha : PT X a ta) (hb : PT X b tb) : PT X (.IfExp c a b pos) (tIfT tc ta tb) := by
  refine ⟨fun pins s σ H Q I h => ?_⟩
  unfold PySem.isTrue
  refine wpAny_bind (thn (hc.run pins s σ H _ I h) fun d s1 ⟨H1, I1, q1⟩ => ?_)
  cases d with
  | true => exact ha.run pins s1 σ H1 Q I1 q1
  | false => exact hb.run pins s1 σ H1 Q I1 q1
/-- how many numbers range(a, b, c) has, c above 0 -/
def rgN (a b c : Int) : Nat := if a < b then ((b - a - 1) / c + 1).toNat else 0
theorem rgC_up {i j c : Int} (hi : 0 ≤ i ∧ i ≤ 16777216) (hj : 0 ≤ j ∧ j ≤ 16777216) (hc : 1 ≤ c ∧ c ≤ 16777216) : RgC i j c (rgN i j c) := by
  have size : Builtin.Range.rangeSize i j c = (rgN i j c : Nat) := by
    unfold Builtin.Range.rangeSize rgN
    rw [if_pos (by omega)]
    split
    · have : 0 ≤ (j - i - 1) / c := Int.ediv_nonneg (by omega) (by omega)
      omega
    · rfl
  refine ⟨by omega, by omega, ?_, size⟩
  unfold Builtin.Range.small
  rw [size]
  have le : (rgN i j c : Int) ≤ 16777217 := by
    unfold rgN
    split
    · have : (j - i - 1) / c ≤ j - i - 1 := Int.ediv_le_self _ (by omega)
      omega
    · omega
  rw [if_pos (show c > 0 by omega)]
  simp only [Builtin.Range.rangeFitsLong, Bool.and_eq_true, Bool.or_eq_true, decide_eq_true_eq, beq_iff_eq]
  omega
section
variable {K : PySem.W.Frag} {B : Base} {F F' F1 H H' H1 : Hp} {As As' As1 : List Addr} {M M0 M1 M2 M3 M'' : List MC} {σ : L2.St} {E : List (Option Rv)} {ta tb te : TE} {r x : Rv} {xs rs : List Rv} {t : TA} {v : V} {D : Ends} {u u' : TS}
theorem ev_listRg3 {a b c : Int} (ha : EvA K t M E M1 [rint a, rint b, rint c]) (ha1 : 0 ≤ a ∧ a ≤ 16777216) (hb : 0 ≤ b ∧ b ≤ 16777215) (hc : 1 ≤ c ∧ c ≤ 16777216) : EvD K (tLstRg3 t) M E M1 (rints (stD a c (rgN a b c))) := fun B F As σ H S Q q =>
  ha B F As σ H S _ fun vs F1 As1 H1 S1 e1 p1 r1 => by
    obtain ⟨v1, ws, rfl, h1, r1⟩ := r1.inv_cons
    obtain ⟨v2, v3, rfl, h2, h3⟩ := r1.two
    cases R.int_inv h1; cases R.int_inv h2; cases R.int_inv h3
    refine ⟨a, b, c, rgN a b c, rfl, rgC_up ha1 ⟨hb.1, by omega⟩ hc, ?_, fun p hp => ?_⟩
    · unfold rgN
      split
      · have : (b - a - 1) / c ≤ b - a - 1 := Int.ediv_le_self _ (by omega)
        omega
      · omega
    · have e : stV a c (rgN a b c) = (stD a c (rgN a b c)).map V.int := by
        unfold stV stD
        rw [List.map_map]; rfl
      rw [e]
      exact ev_lstNew S1 hp (P2.ofInts _) fun u F' As' H' S' e' p' r' => q u F' As' H' S' (e1.trans e') (p1.trans p') r'
theorem et_ifT {c tt tu : TT} {b d : Bool} (h : EvT K c M E M1 b) (h1 : b = true → EvT K tt M1 E M2 d) (h2 : b = false → EvT K tu M1 E M2 d) : EvT K (tIfT c tt tu) M E M2 d := fun B F As σ H S Q q => h B F As σ H S _ fun F1 As1 H1 S1 e1 p1 => by
  cases b with
  | true => exact h1 rfl B F1 As1 σ H1 S1 Q fun F2 As2 H2 S2 e2 p2 => q F2 As2 H2 S2 (e1.trans e2) (p1.trans p2)
  | false => exact h2 rfl B F1 As1 σ H1 S1 Q fun F2 As2 H2 S2 e2 p2 => q F2 As2 H2 S2 (e1.trans e2) (p1.trans p2)
/-- while: P m, m turns at most are left -/
theorem s_while {c : TT} (S : Sta K B F As M σ E H) (P : Nat → List MC → List (Option Rv) → Prop) (m : Nat) (h0 : P m M E)
    (hb : ∀ m M E, P m M E → ∃ b M1, EvT K c M E M1 b ∧ (b = true → Nxt K B M1 E (u { D with nx := fun σ' H' => ∃ m', m' < m ∧ NxP K B (P m') σ' H', ct := fun σ' H' => ∃ m', m' < m ∧ NxP K B (P m') σ' H', bk := D.nx })) ∧ (b = false → Nxt K B M1 E D.nx)) : tWhile c u D σ H := by
  refine ⟨fun m σ' H' => NxP K B (P m) σ' H', ⟨m, F, As, M, E, S, h0⟩, ?_⟩
  rintro m σ' H' ⟨F2, As2, M2, E2, S2, hP⟩
  obtain ⟨b, M3, hc, h1, h2⟩ := hb m M2 E2 hP
  refine hc B F2 As2 σ' H' S2 _ fun F3 As3 H3 S3 _ _ => ?_
  cases b with
  | true =>
    rw [if_pos rfl]
    exact ⟨_, fun σ' H' h => h, h1 rfl _ _ _ _ S3⟩
  | false =>
    rw [if_neg Bool.false_ne_true]
    exact h2 rfl _ _ _ _ S3
theorem q_while {c : TT} (S : Sta K B F As M σ E H) (P : Nat → List MC → List (Option Rv) → Prop) (m : Nat) (h0 : P m M E)
    (hb : ∀ m M E, P m M E → ∃ b M1, EvT K c M E M1 b ∧ (b = true → Nxt K B M1 E (u { D with nx := fun σ' H' => ∃ m', m' < m ∧ NxP K B (P m') σ' H', ct := fun σ' H' => ∃ m', m' < m ∧ NxP K B (P m') σ' H', bk := u' D })) ∧ (b = false → Nxt K B M1 E (u' D))) : tSeq (tWhile c u) u' D σ H := s_while (D := { D with nx := u' D }) S P m h0 hb
end
end DL
set_option Elab.async false
set_option linter.all false
set_option maxRecDepth 100000
set_option maxHeartbeats 2000000
/-! DL: the place of a number in a list. -/
namespace DL
open PySem L2
open Evl (Ex)
def idxI (n : Int) : List Int → Nat
  | [] => 0
  | x :: xs => if x = n then 0 else idxI n xs + 1
theorem idxI_at {n : Int} : ∀ {xs : List Int}, n ∈ xs → xs[idxI n xs]? = some n ∧ idxI n xs < xs.length ∧ ∀ j, j < idxI n xs → xs[j]? ≠ some n
  | [], h => by cases h
  | x :: xs, h => by
    unfold idxI
    by_cases c : x = n
    · rw [if_pos c, c]
      exact ⟨rfl, by simp, fun j hj => by omega⟩
    · rw [if_neg c]
      have h : n ∈ xs := by
        rcases List.mem_cons.mp h with q | q
        · exact absurd q.symm c
        · exact q
      obtain ⟨h1, h2, h3⟩ := idxI_at h
      refine ⟨h1, by rw [List.length_cons]; omega, fun j hj => ?_⟩
      cases j with
      | zero => intro z; exact c (by simpa using z)
      | succ j => exact h3 j (by omega)
section
variable {K : PySem.W.Frag} {M M1 M2 : List MC} {E : List (Option Rv)} {ta tb : TE} {x : Rv}
theorem ev_idxI {ns : List Int} {n : Int} (ho : EvD K ta M E M1 x) (hi : EvD K tb M1 E M2 (rint n)) (h1 : IsLst M1 x (ns.map D.int)) (h2 : IsLst M2 x (ns.map D.int)) (hn : n ∈ ns) :
    EvD K (tBM K "list" (rIndex K) ta (tCons tb tNil)) M E M2 (rint (idxI n ns : Nat)) := fun B F As σ H S Q q =>
  ho B F As σ H S _ fun v F1 As1 H1 S1 e1 p1 r1 => by
    obtain ⟨a0, vs0, rfl, ha0, pa0⟩ := h1.view S1 r1
    refine ⟨.inl ⟨rfl, _, SqL.of ha0⟩, hi B F1 As1 σ H1 S1 _ fun w F2 As2 H2 S2 e2 p2 r2 => ?_⟩
    obtain ⟨a, vs, ev2, ha, pa⟩ := h2.view S2 (r1.m e2 p2)
    have e := P2.ints pa
    subst e
    cases R.int_inv r2
    obtain ⟨g1, g2, g3⟩ := idxI_at hn
    refine ⟨a, ns.map V.int, .int n, idxI n ns, .int n, ev2, rfl, SqL.of ha, rfl, all_flat ns, by rw [List.getElem?_map, g1]; rfl, by simp [eqV], fun m z' hm hz => ?_, q _ F2 As2 H2 S2 (e1.trans e2) (p1.trans p2) (.int _)⟩
    rw [List.getElem?_map] at hz
    cases c : ns[m]? with
    | none => rw [c] at hz; cases hz
    | some k =>
      rw [c] at hz; cases hz
      have : k ≠ n := fun z => g3 m hm (by rw [c, z])
      simp [eqV, this]
/-- [..] * n, a list that will be changed -/
theorem od_repM {ds : List D} {k : Int} (h1 : IsLst M x ds) (hk : -(2 ^ 63) ≤ k ∧ k < 2 ^ 63) (hl : ds.length * k.toNat ≤ 16777216) : OpD K rRep M x (rint k) (M ++ [.lst (List.replicate k.toNat ds).flatten]) (.cel M.length) := fun B F As σ E H v w S r1 r2 Q q => by
  obtain ⟨a, vs, rfl, ha, pa⟩ := h1.view S r1
  refine ⟨a, k, vs, rfl, R.int_inv r2, ha, hk.1, hk.2, sz (by rw [← pa.1]; exact hl), fun p hp => ?_⟩
  have S2 := S.newM (o := .lst (List.replicate k.toNat vs).flatten) (mc := .lst (List.replicate k.toNat ds).flatten) hp ⟨_, rfl, pa.rep _⟩
  exact q _ _ _ _ S2 (Ex.refl F) (List.prefix_append _ _) ⟨p, by rw [List.getElem?_append_right (by rw [S.len]; exact Nat.le_refl _), S.len]; simp, rfl⟩
/-- a row by its places -/
def arr (n : Nat) (f : Nat → Int) : List Int := (List.range n).map f
theorem arr_len {n : Nat} {f : Nat → Int} : (arr n f).length = n := by unfold arr; rw [List.length_map, List.length_range]
theorem arr_at {n k : Nat} {f : Nat → Int} (h : k < n) : gI (arr n f) (k : Int) = f k := by
  show (arr n f).getD k 0 = f k
  unfold arr
  rw [List.getD_eq_getElem?_getD, List.getElem?_map, List.getElem?_range h]; rfl
theorem arr_ext {n : Nat} {f g : Nat → Int} (h : ∀ k, k < n → f k = g k) : arr n f = arr n g := List.map_congr_left fun k hk => h k (List.mem_range.mp hk)
theorem arr_set {n k : Nat} {f : Nat → Int} {v : Int} : (arr n f).set k v = arr n fun m => if m = k then v else f m := by
  refine List.ext_getElem? fun i => ?_
  by_cases hi : i < n
  · by_cases e : k = i
    · subst e
      rw [List.getElem?_set_self (by rw [arr_len]; exact hi)]
      unfold arr
      rw [List.getElem?_map, List.getElem?_range hi]
      show some v = some (if k = k then v else f k)
      rw [if_pos rfl]
    · rw [List.getElem?_set_ne e]
      unfold arr
      rw [List.getElem?_map, List.getElem?_map, List.getElem?_range hi]
      show some (f i) = some (if i = k then v else f i)
      rw [if_neg (fun z => e z.symm)]
  · rw [List.getElem?_eq_none (by rw [List.length_set, arr_len]; omega), List.getElem?_eq_none (by rw [arr_len]; omega)]
theorem arr_rep {n : Nat} {z : Int} : List.replicate n z = arr n fun _ => z := by
  unfold arr
  rw [List.map_const', List.length_range]
theorem et_andG {t u : TT} {b c : Bool} {M3 : List MC} (h1 : EvT K t M E M1 b) (h2 : b = true → EvT K u M1 E M3 c) (h3 : b = false → M1 = M3) : EvT K (tAnd t u) M E M3 (b && c) := fun B F As σ H S Q q => h1 B F As σ H S _ fun F1 As1 H1 S1 e1 p1 => by
  cases b with
  | true => exact h2 rfl B F1 As1 σ H1 S1 Q fun F2 As2 H2 S2 e2 p2 => q F2 As2 H2 S2 (e1.trans e2) (p1.trans p2)
  | false => exact q F1 As1 H1 (h3 rfl ▸ S1) e1 p1
theorem get_set {k0 : Nat} {x y : MC} (hk : M[k0]? = some x) : (M.set k0 y)[k0]? = some y := List.getElem?_set_self (List.getElem?_eq_some_iff.mp hk).1
variable {B : Base} {F H : Hp} {As : List Addr} {σ : L2.St} {De : Ends} {uu uv : TS}
/-- for x, y in xs, xs a list of pairs -/
theorem s_forT2 {tl : TE} {i j : Nat} {ds : List D} (S : Sta K B F As M σ E H) (ha : EvD K tl M E M1 (.dat (.lst ds))) (h2 : ∀ d ∈ ds, ∃ d1 d2, d = .tup [d1, d2]) (P : Nat → List MC → List (Option Rv) → Prop) (h0 : P 0 M1 E)
    (hb : ∀ (B' : Base), Cv K B' B → ∀ (n : Nat) (d1 d2 : D) M E, ds[n]? = some (.tup [d1, d2]) → P n M E → Nxt K B' M ((E.set i (some (.dat d1))).set j (some (.dat d2))) (uu { De with nx := NxP K B' (P (n + 1)), ct := NxP K B' (P (n + 1)), bk := De.nx }))
    (hd : ∀ M E, P ds.length M E → Nxt K B M E De.nx) : tFor (iList K tl) (gTup K 2 (gCons (gName i) (gCons (gName j) gNil))) uu De σ H :=
  s_forG (st := fun E d E' => ∃ d1 d2, d = .tup [d1, d2] ∧ E' = (E.set i (some (.dat d1))).set j (some (.dat d2))) S ha (fun {B F As M σ E H d v Q} hm S rd k => by
    obtain ⟨d1, d2, rfl⟩ := h2 d hm
    obtain ⟨a, vs, rfl, hA, pa⟩ := R.tup_inv rd
    obtain ⟨v1, ws, rfl, r1, pa⟩ := pa.inv_cons
    obtain ⟨v2, ws, rfl, r2, pa⟩ := pa.inv_cons
    have := pa.inv_nil; subst this
    exact ⟨a, [v1, v2], rfl, SqT.of (S.ex _ _ hA), rfl, v1, [v2], rfl, v2, [], rfl, rfl, k _ _ ⟨d1, d2, rfl, rfl⟩ ((S.set (r := .dat d1) r1).set (r := .dat d2) r2)⟩)
    P h0 (fun B' cv n d M E E' h1 h2 h3 => by
      obtain ⟨d1, d2, rfl, rfl⟩ := h3
      exact hb B' cv n d1 d2 M E h1 h2) hd
theorem q_forT2 {tl : TE} {i j : Nat} {ds : List D} (S : Sta K B F As M σ E H) (ha : EvD K tl M E M1 (.dat (.lst ds))) (h2 : ∀ d ∈ ds, ∃ d1 d2, d = .tup [d1, d2]) (P : Nat → List MC → List (Option Rv) → Prop) (h0 : P 0 M1 E)
    (hb : ∀ (B' : Base), Cv K B' B → ∀ (n : Nat) (d1 d2 : D) M E, ds[n]? = some (.tup [d1, d2]) → P n M E → Nxt K B' M ((E.set i (some (.dat d1))).set j (some (.dat d2))) (uu { De with nx := NxP K B' (P (n + 1)), ct := NxP K B' (P (n + 1)), bk := uv De }))
    (hd : ∀ M E, P ds.length M E → Nxt K B M E (uv De)) : tSeq (tFor (iList K tl) (gTup K 2 (gCons (gName i) (gCons (gName j) gNil))) uu) uv De σ H := s_forT2 (De := { De with nx := uv De }) S ha h2 P h0 hb hd
theorem rints_app (ns ms : List Int) : Rv.dat (.lst (ns.map D.int ++ ms.map D.int)) = rints (ns ++ ms) := by
  show Rv.dat (.lst _) = Rv.dat (.lst ((ns ++ ms).map D.int))
  rw [List.map_append]
end
end DL
set_option Elab.async false
set_option linter.all false
set_option maxRecDepth 100000
set_option maxHeartbeats 2000000
/-! DL: calls in general. What a def's promise makes of cells that are handed in, by numbers of the caller's. -/
namespace DL
open PySem L2
open Evl (Ex)
def Rv.via (ks : List Nat) : Rv → Rv
  | .dat d => .dat d
  | .cel j => .cel (ks.getD j 0)
def Rv.ok (n : Nat) : Rv → Prop
  | .dat _ => True
  | .cel j => j < n
/-- the cells ks become ms -/
def setAll : List MC → List Nat → List MC → List MC
  | M, k :: ks, m :: ms => setAll (M.set k m) ks ms
  | M, _, _ => M
theorem setAll_len : ∀ {ks : List Nat} {M ms : List MC}, (setAll M ks ms).length = M.length
  | [], M, ms => by cases ms <;> rfl
  | k :: ks, M, [] => rfl
  | k :: ks, M, m :: ms => by
    show (setAll (M.set k m) ks ms).length = _
    rw [setAll_len, List.length_set]
theorem setAll_off : ∀ {ks : List Nat} {M ms : List MC} {i : Nat}, i ∉ ks → (setAll M ks ms)[i]? = M[i]?
  | [], M, ms, i, _ => by cases ms <;> rfl
  | k :: ks, M, [], i, _ => rfl
  | k :: ks, M, m :: ms, i, h => by
    show (setAll (M.set k m) ks ms)[i]? = _
    rw [setAll_off (fun z => h (List.mem_cons_of_mem _ z)), List.getElem?_set_ne (fun z => h (by rw [← z]; exact List.mem_cons_self ..))]
theorem setAll_on : ∀ {ks : List Nat} {M ms : List MC} {j k : Nat} {m : MC}, ks.Nodup → ks[j]? = some k → ms[j]? = some m → k < M.length → (setAll M ks ms)[k]? = some m
  | [], M, ms, j, k, m, _, h, _, _ => by simp at h
  | k0 :: ks, M, [], j, k, m, _, _, h, _ => by simp at h
  | k0 :: ks, M, m0 :: ms, j, k, m, nd, h1, h2, hk => by
    show (setAll (M.set k0 m0) ks ms)[k]? = _
    obtain ⟨n1, n2⟩ := List.nodup_cons.mp nd
    cases j with
    | zero =>
      have h1 : k0 = k := by simpa using h1
      have h2 : m0 = m := by simpa using h2
      subst h1; subst h2
      rw [setAll_off n1, List.getElem?_set_self hk]
    | succ j => exact setAll_on n2 (by simpa using h1) (by simpa using h2) (by rw [List.length_set]; exact hk)
section
variable {K : PySem.W.Frag} {B : Base} {F F' F1 H H' H1 : Hp} {As As' As1 Ac : List Addr} {M M0 M1 M2 M3 M'' Mc Mc' : List MC} {σ : L2.St} {E : List (Option Rv)} {ta tb te : TE} {r x : Rv} {xs rs xc : List Rv} {Φ : List MC → List Rv → List MC → Out → Prop} {XX : XK} {Xs : L2.St → XK} {t : TA} {v : V} {ks : List Nat} {vs : List V} {d : D} {mc : MC}
/-- the cells ks of M1 are Mc, handed in with the arguments xc -/
structure Hand (M1 : List MC) (ks : List Nat) (Mc : List MC) (xc : List Rv) : Prop where
  nd : ks.Nodup
  len : Mc.length = ks.length
  at_ : ∀ (j k : Nat), ks[j]? = some k → ∃ mc, Mc[j]? = some mc ∧ M1[k]? = some mc ∧ ¬ mc.bad
  ok : ∀ x ∈ xc, x.ok ks.length
theorem Hand.none (h : dats xs ≠ none) : Hand M1 [] [] xs := ⟨List.nodup_nil, rfl, fun j k z => by simp at z, fun x hx => by
  obtain ⟨ds, e⟩ := Option.ne_none_iff_exists'.mp h
  rw [dats_eq e] at hx
  obtain ⟨d, _, rfl⟩ := List.mem_map.mp hx
  exact trivial⟩
theorem via_dats {ks : List Nat} (h : dats xs ≠ none) : xs.map (Rv.via ks) = xs := by
  obtain ⟨ds, e⟩ := Option.ne_none_iff_exists'.mp h
  rw [dats_eq e, List.map_map]
  rfl
theorem Hand.one {k : Nat} (hk : M1[k]? = some mc) (hb : ¬ mc.bad) (h : ∀ x ∈ xc, x.ok 1) : Hand M1 [k] [mc] xc := ⟨by simp, rfl, fun j k' z => by
  cases j with
  | zero => cases z; exact ⟨mc, rfl, hk, hb⟩
  | succ j => simp at z, h⟩
theorem Hand.get (W : Hand M1 ks Mc xc) (S1 : Sta K B F1 As1 M1 σ E H1) {j k : Nat} (h : ks[j]? = some k) : ∃ a, As1[k]? = some a ∧ (ks.map fun k => As1.getD k 0)[j]? = some a := by
  obtain ⟨mc, _, h2, _⟩ := W.at_ j k h
  have hl : k < As1.length := by rw [S1.len]; exact (List.getElem?_eq_some_iff.mp h2).1
  refine ⟨As1[k], List.getElem?_eq_getElem hl, ?_⟩
  rw [List.getElem?_map, h]
  show some (As1.getD k 0) = _
  rw [List.getD_eq_getElem?_getD, List.getElem?_eq_getElem hl]; rfl
theorem Hand.inv (W : Hand M1 ks Mc xc) (S1 : Sta K B F1 As1 M1 σ E H1) {j : Nat} {a : Addr} (h : (ks.map fun k => As1.getD k 0)[j]? = some a) : ∃ k, ks[j]? = some k ∧ As1[k]? = some a := by
  rw [List.getElem?_map] at h
  cases c : ks[j]? with
  | none => rw [c] at h; cases h
  | some k =>
    obtain ⟨b, h1, h2⟩ := W.get S1 c
    rw [List.getElem?_map, h, ] at h2
    exact ⟨k, rfl, by rw [h1, ← h2]⟩
theorem Hand.nodup (S1 : Sta K B F1 As1 M1 σ E H1) : ∀ {ks : List Nat}, ks.Nodup → (∀ k ∈ ks, k < As1.length) → (ks.map fun k => As1.getD k 0).Nodup
  | [], _, _ => List.nodup_nil
  | k :: ks, nd, hl => by
    obtain ⟨n1, n2⟩ := List.nodup_cons.mp nd
    rw [List.map_cons, List.nodup_cons]
    refine ⟨fun z => ?_, Hand.nodup S1 n2 fun k' h => hl k' (List.mem_cons_of_mem _ h)⟩
    obtain ⟨k', h1, h2⟩ := List.mem_map.mp z
    have g1 := hl k (List.mem_cons_self ..)
    have g2 := hl k' (List.mem_cons_of_mem _ h1)
    rw [List.getD_eq_getElem?_getD, List.getD_eq_getElem?_getD, List.getElem?_eq_getElem g1, List.getElem?_eq_getElem g2] at h2
    have h2 : As1[k'] = As1[k] := h2
    have := S1.uniq (j := k') (k := k) (a := As1[k]) (by rw [List.getElem?_eq_getElem g2, h2]) (List.getElem?_eq_getElem g1)
    exact n1 (this ▸ h1)
theorem call_in (S1 : Sta K B F1 As1 M1 σ E H1) (W : Hand M1 ks Mc xc) (r1 : P2 (RV K F1 As1) (xc.map (Rv.via ks)) vs) :
    Sta K (Sta.self F1 H1 (ks.map fun k => As1.getD k 0)) F1 (ks.map fun k => As1.getD k 0) Mc (vs.map some) (xc.map some) H1 := by
  have bound : ∀ k ∈ ks, k < As1.length := fun k h => by
    obtain ⟨j, hj⟩ := List.getElem?_of_mem h
    obtain ⟨a, h1, _⟩ := W.get S1 hj
    exact (List.getElem?_eq_some_iff.mp h1).1
  refine ⟨S1.ex, by rw [List.length_map, W.len], Hand.nodup S1 W.nd bound, fun j a mc h1 h2 h3 => ?_, ⟨by have := r1.1; simp at this ⊢; exact this, fun i r h => ?_⟩, Ex.refl F1, fun b o h _ => h, fun b o _ h => h, fun b h => .inl h, fun b o h => ⟨o, h⟩, fun b h => ?_, List.prefix_refl _⟩
  · obtain ⟨k, g1, g2⟩ := W.inv S1 h1
    obtain ⟨m, g3, g4, g5⟩ := W.at_ j k g1
    rw [h2] at g3; cases g3
    obtain ⟨z1, o, z2, z3⟩ := S1.cell k a mc g2 g4 h3
    exact ⟨z1, o, z2, z3.flat (MC.bad_deep g5)⟩
  · rw [List.getElem?_map] at h
    cases c : xc[i]? with
    | none => rw [c] at h; cases h
    | some y =>
      rw [c] at h
      have h : y = r := by simpa using h
      subst h
      obtain ⟨v, hv, rv⟩ := r1.get (i := i) (x := y.via ks) (by rw [List.getElem?_map, c]; rfl)
      refine ⟨v, by rw [List.getElem?_map, hv]; rfl, ?_⟩
      cases y with
      | dat d => exact rv
      | cel j =>
        have hj : j < ks.length := W.ok _ (List.mem_of_getElem? c)
        obtain ⟨a, h1, rfl⟩ := rv
        have e1 : ks[j]? = some ks[j] := List.getElem?_eq_getElem hj
        have e2 : ks.getD j 0 = ks[j] := by rw [List.getD_eq_getElem?_getD, e1]; rfl
        rw [e2] at h1
        obtain ⟨b, h2, h3⟩ := W.get S1 e1
        rw [h1] at h2; cases h2
        exact ⟨a, h3, rfl⟩
  · obtain ⟨j, hj⟩ := List.getElem?_of_mem h
    obtain ⟨k, g1, g2⟩ := W.inv S1 hj
    exact S1.kn b (List.mem_of_getElem? g2)
theorem call_out (S1 : Sta K B F1 As1 M1 σ E H1) (W : Hand M1 ks Mc xc) (fin : Fin K F1 H1 (ks.map fun k => As1.getD k 0) Mc' F' H' As' M'') (hf : ∀ m ∈ Mc', ¬ m.isDeep) :
    Sta K B F' As1 (setAll M1 ks Mc') σ E H' ∧ Ex F1 F' := by
  obtain ⟨τ, En, S2⟩ := fin.sta
  obtain ⟨tl, htl⟩ := fin.pre
  have lM : Mc'.length = ks.length := by rw [fin.len, List.length_map]
  have kp : ∀ b o, H1 b = some o → b ∉ (ks.map fun k => As1.getD k 0) → H' b = some o := fun b o h n => S2.bH b o h n
  have sub : ∀ b, b ∈ (ks.map fun k => As1.getD k 0) → b ∈ As1 := fun b h => by
    obtain ⟨j, hj⟩ := List.getElem?_of_mem h
    obtain ⟨k, _, g2⟩ := W.inv S1 hj
    exact List.mem_of_getElem? g2
  refine ⟨⟨S2.ex, by rw [setAll_len]; exact S1.len, S1.nd, fun k a m h1 h2 h3 => ?_, S1.slots.mono S2.bF (List.prefix_refl _), S1.bF.trans S2.bF, fun b o h hP => ?_, fun b o h h0 => ?_, S1.bA, fun b o h => ?_, fun b h => ?_, S1.pA⟩, S2.bF⟩
  · by_cases hk : k ∈ ks
    · obtain ⟨j, hj⟩ := List.getElem?_of_mem hk
      obtain ⟨b, g1, g2⟩ := W.get S1 hj
      rw [h1] at g1; cases g1
      have hjl : j < ks.length := (List.getElem?_eq_some_iff.mp hj).1
      have e1 : Mc'[j]? = some Mc'[j] := List.getElem?_eq_getElem (lM ▸ hjl)
      have e2 := setAll_on (M := M1) W.nd hj e1 (by rw [← S1.len]; exact (List.getElem?_eq_some_iff.mp h1).1)
      rw [e2] at h2; cases h2
      have eA : As'[j]? = some a := prefix_get ⟨tl, htl⟩ g2
      have eM : M''[j]? = some Mc'[j] := by
        have e3 := fin.cut
        rw [List.length_map] at e3
        have e4 : (M''.take ks.length)[j]? = some Mc'[j] := by rw [e3]; exact e1
        rw [List.getElem?_take, if_pos hjl] at e4
        exact e4
      obtain ⟨z1, o, z2, z3⟩ := S2.cell j a _ eA eM h3
      exact ⟨z1, o, z2, z3.flat (hf _ (List.mem_of_getElem? e1))⟩
    · rw [setAll_off hk] at h2
      obtain ⟨z1, o, z2, z3⟩ := S1.cell k a m h1 h2 h3
      have na : a ∉ (ks.map fun k => As1.getD k 0) := fun z => by
        obtain ⟨j, hj⟩ := List.getElem?_of_mem z
        obtain ⟨k', g1, g2⟩ := W.inv S1 hj
        exact hk (S1.uniq h1 g2 ▸ List.mem_of_getElem? g1)
      exact ⟨S2.bN a o z2 z1, o, kp _ _ z2 na, z3.mono S2.bF⟩
  · refine kp _ _ (S1.bH b o h hP) fun z => ?_
    rcases S1.bA b (sub b z) with q | q
    · exact hP q
    · rw [q] at h; cases h
  · obtain ⟨w, hw⟩ := S1.bK b o h
    exact S2.bN b w hw (S1.bN b o h h0)
  · obtain ⟨w, hw⟩ := S1.bK b o h
    exact S2.bK b w hw
  · obtain ⟨w, hw⟩ := S1.kn b h
    exact S2.bK b w hw
/-- a cell that came along -/
theorem Sta.more {a : Addr} {o : HO} (S : Sta K B F As M σ E H) (hF : F a = none) (hH : H a = some o) (hm : MCR K F (As ++ [a]) mc o) (hA : a ∉ As) (hB : B.H0 a = none) : Sta K B F (As ++ [a]) (M ++ [mc]) σ E H := by
  refine ⟨S.ex, by rw [List.length_append, List.length_append, S.len]; rfl, ?_, fun k c m h1 h2 h3 => ?_, S.slots.mono (Ex.refl F) (List.prefix_append _ _), S.bF, S.bH, S.bN, fun c h => ?_, S.bK, fun c h => ?_, S.pA.trans (List.prefix_append _ _)⟩
  · rw [List.nodup_append]
    refine ⟨S.nd, by simp, fun x hx y hy e => ?_⟩
    simp at hy
    subst e; subst hy; exact hA hx
  · rcases getElem?_concat h1 with q1 | ⟨q1, q2⟩
    · rcases getElem?_concat h2 with q3 | ⟨q3, q4⟩
      · obtain ⟨h4, o, h5, h6⟩ := S.cell k c m q1 q3 h3
        exact ⟨h4, o, h5, h6.mono2 (Ex.refl F) (List.prefix_append _ _)⟩
      · have := (List.getElem?_eq_some_iff.mp q1).1
        rw [S.len] at this; omega
    · rcases getElem?_concat h2 with q3 | ⟨q3, q4⟩
      · have := (List.getElem?_eq_some_iff.mp q3).1
        rw [← S.len] at this; omega
      · subst q2; subst q4
        exact ⟨hF, o, hH, hm⟩
  · rcases List.mem_append.mp h with h | h
    · exact S.bA c h
    · simp at h; subst h; exact .inr hB
  · rcases List.mem_append.mp h with h | h
    · exact S.kn c h
    · simp at h; subst h; exact ⟨o, hH⟩
/-- .. frozen at once -/
theorem Sta.moreF {a : Addr} {o : HO} (S : Sta K B F As M σ E H) (hF : F a = none) (hH : H a = some o) (hA : a ∉ As) (hB : B.H0 a = none) : Sta K B (upd F a o) As M σ E H ∧ Ex F (upd F a o) := by
  have ex : Ex F (upd F a o) := Ex.new hF
  refine ⟨⟨fun b u h => ?_, S.len, S.nd, fun k c m h1 h2 h3 => ?_, S.slots.mono ex (List.prefix_refl _), S.bF.trans ex, S.bH, fun b u h h0 => ?_, S.bA, S.bK, S.kn, S.pA⟩, ex⟩
  · by_cases e : b = a
    · subst e; rw [upd_same] at h; cases h; exact hH
    · rw [upd_ne e] at h; exact S.ex b u h
  · obtain ⟨z1, o', z2, z3⟩ := S.cell k c m h1 h2 h3
    have e : c ≠ a := fun z => hA (z ▸ List.mem_of_getElem? h1)
    exact ⟨by rw [upd_ne e]; exact z1, o', z2, z3.mono ex⟩
  · have e : b ≠ a := fun z => by rw [z, hB] at h; cases h
    rw [upd_ne e]; exact S.bN b u h h0
theorem MCR.toR {a : Addr} {o : HO} (h : MCR K F As mc o) (hF : F a = some o) (hd : mc.toD = some d) : R K F d (.ref a) := by
  cases mc with
  | lst ds => cases hd; obtain ⟨xs, rfl, p⟩ := h; exact R.lst' hF p
  | dct kvs => cases hd; obtain ⟨xs, rfl, p⟩ := h; exact R.dct' hF p
  | ins C fs => cases hd; obtain ⟨dx, xs, rfl, p⟩ := h; exact R.ins' hF p
  | gone => cases hd
  | deep x => cases hd
/-! ### what a def's call does, whatever the call's form -/
def CD (K : PySem.W.Frag) (Φ : List MC → List Rv → List MC → Out → Prop) (M1 : List MC) (xs : List Rv) (M2 : List MC) (r : Rv) : Prop :=
  ∀ (B : Base) (F : Hp) (As : List Addr) (σ : L2.St) (E : List (Option Rv)) (H : Hp) (vs : List V), Sta K B F As M1 σ E H → P2 (RV K F As) xs vs → ∀ (Q : VK) (XX : XK), (∀ v F' As' H', Sta K B F' As' M2 σ E H' → Ex F F' → As <+: As' → RV K F' As' r v → Q v H') → FSp K Φ vs H Q XX
def CX (K : PySem.W.Frag) (Φ : List MC → List Rv → List MC → Out → Prop) (M1 : List MC) (xs : List Rv) (M2 : List MC) (C : Addr) (fs : List (Str × D)) : Prop :=
  ∀ (B : Base) (F : Hp) (As : List Addr) (σ : L2.St) (E : List (Option Rv)) (H : Hp) (vs : List V), Sta K B F As M1 σ E H → P2 (RV K F As) xs vs → ∀ (Q : VK) (XX : XK), (∀ dd ws F' As' H', Sta K B F' As' M2 σ E H' → H' dd = none → PK (R K F') fs ws → XX (.ref C) (some dd) (upd H' dd (.xd ws))) → FSp K Φ vs H Q XX
theorem live_of (_ : Hand M1 ks Mc xc) : Live Mc := trivial
theorem cl_ret (W : Hand M1 ks Mc xc) (hΦ : Φ Mc xc Mc' (.ret d)) (hf : ∀ m ∈ Mc', ¬ m.isDeep) : CD K Φ M1 (xc.map (Rv.via ks)) (setAll M1 ks Mc') (.dat d) := fun B F As σ E H vs S r1 Q XX q =>
  ⟨F, _, Mc, xc, Mc', .ret d, call_in S W r1, live_of W, hΦ, fun v F' As' M'' H' fin rv => by
    obtain ⟨S2, e2⟩ := call_out S W fin hf
    exact q v F' As H' S2 e2 (List.prefix_refl _) rv⟩
theorem cl_exc {C : Addr} {fs : List (Str × D)} (W : Hand M1 ks Mc xc) (hΦ : Φ Mc xc Mc' (.exc C fs)) (hf : ∀ m ∈ Mc', ¬ m.isDeep) : CX K Φ M1 (xc.map (Rv.via ks)) (setAll M1 ks Mc') C fs := fun B F As σ E H vs S r1 Q XX q =>
  ⟨F, _, Mc, xc, Mc', .exc C fs, call_in S W r1, live_of W, hΦ, fun dd ws F' As' M'' H' fin n p => by
    obtain ⟨S2, e2⟩ := call_out S W fin hf
    exact q dd ws F' As H' S2 n p⟩
theorem new_facts (S : Sta K B F As M1 σ E H) (W : Hand M1 ks Mc xc) (fin : Fin K F H (ks.map fun k => As.getD k 0) Mc' F' H' As' M'') {k : Nat} {a : Addr} (hk : (ks.map fun k => As.getD k 0).length ≤ k) (hA : As'[k]? = some a) (hm : M''[k]? = some mc) (hg : mc ≠ .gone) :
    F' a = none ∧ ∃ o, H' a = some o ∧ MCR K F' As' mc o ∧ a ∉ As ∧ B.H0 a = none := by
  obtain ⟨τ, En, S2⟩ := fin.sta
  obtain ⟨tl, htl⟩ := fin.pre
  obtain ⟨z1, o, z2, z3⟩ := S2.cell k a mc hA hm hg
  have nH : H a = none := by
    rcases S2.bA a (List.mem_of_getElem? hA) with q | q
    · exfalso
      have q : a ∈ (ks.map fun k => As.getD k 0) := q
      obtain ⟨j, hj⟩ := List.getElem?_of_mem q
      have := S2.uniq (prefix_get ⟨tl, htl⟩ hj) hA
      have := (List.getElem?_eq_some_iff.mp hj).1
      omega
    · exact q
  exact ⟨z1, o, z2, z3, S.off nH, S.base_off nH⟩
theorem cl_new (W : Hand M1 ks Mc xc) (hΦ : Φ Mc xc Mc' (.new mc)) (hf : ∀ m ∈ Mc', ¬ m.isDeep) (hm : ¬ mc.isDeep) : CD K Φ M1 (xc.map (Rv.via ks)) (setAll M1 ks Mc' ++ [mc]) (.cel M1.length) := fun B F As σ E H vs S r1 Q XX q =>
  ⟨F, _, Mc, xc, Mc', .new mc, call_in S W r1, live_of W, hΦ, fun v k F' As' M'' H' fin hk h1 h2 rv => by
    obtain ⟨a, hA, rfl⟩ := rv
    obtain ⟨S2, e2⟩ := call_out S W fin hf
    obtain ⟨z1, o, z2, z3, z4, z5⟩ := new_facts S W fin hk hA h1 h2
    exact q _ F' (As ++ [a]) H' (S2.more z1 z2 (z3.flat hm) z4 z5) e2 (List.prefix_append _ _) ⟨a, by rw [← S.len]; rw [List.getElem?_append_right (Nat.le_refl _)]; simp, rfl⟩⟩
theorem cl_newF (W : Hand M1 ks Mc xc) (hΦ : Φ Mc xc Mc' (.new mc)) (hf : ∀ m ∈ Mc', ¬ m.isDeep) (hd : mc.toD = some d) : CD K Φ M1 (xc.map (Rv.via ks)) (setAll M1 ks Mc') (.dat d) := fun B F As σ E H vs S r1 Q XX q =>
  ⟨F, _, Mc, xc, Mc', .new mc, call_in S W r1, live_of W, hΦ, fun v k F' As' M'' H' fin hk h1 h2 rv => by
    obtain ⟨a, hA, rfl⟩ := rv
    obtain ⟨S2, e2⟩ := call_out S W fin hf
    obtain ⟨z1, o, z2, z3, z4, z5⟩ := new_facts S W fin hk hA h1 h2
    obtain ⟨S3, e3⟩ := S2.moreF z1 z2 z4 z5
    have nd : ¬ mc.isDeep := fun z => by cases mc with
      | deep y => cases hd
      | _ => exact z
    exact q _ _ As H' S3 (e2.trans e3) (List.prefix_refl _) (MCR.toR (As := As) ((z3.flat nd).mono e3) upd_same hd)⟩
theorem cl_grow {ms : List MC} (hx : dats xs ≠ none) (hΦ : Φ [] xs [] (.grow ms r)) : CD K Φ M1 xs (M1 ++ ms.map (MC.up M1.length)) (r.up M1.length) := fun B F As σ E H vs S r1 Q XX q =>
  ev_growF S hx r1 hΦ fun v F2 As2 H2 S2 e2 p2 rv => q v F2 As2 H2 S2 e2 p2 rv
theorem cl_lend {ds : List D} (n : Nat) (hv : xs.mapM (viewR M1 n) = some ds) (hΦ : Φ [] (ds.map Rv.dat) [] (.ret d)) (hs : d.sc) : CD K Φ M1 xs M1 (.dat d) := fun B F As σ E H vs S r1 Q XX q =>
  ⟨H, [], [], ds.map Rv.dat, [], .ret d, lend_in S hv r1, Live.nil, hΦ, fun v F' As' M'' H' fin rv => by
    obtain ⟨τ, En, S2⟩ := fin.sta
    exact q v F As H' (S.stay fun a o h => S2.bH a o h (fun z => by cases z)) (Ex.refl F) (List.prefix_refl _) (R.sc rv hs)⟩
/-- .. no cell goes in -/
theorem cl_ret0 (hx : dats xs ≠ none) (hΦ : Φ [] xs [] (.ret d)) : CD K Φ M1 xs M1 (.dat d) := by
  have h := cl_ret (K := K) (M1 := M1) (Hand.none hx) hΦ (fun m hm => by cases hm)
  rw [via_dats hx] at h
  exact h
theorem cl_new0 (hx : dats xs ≠ none) (hΦ : Φ [] xs [] (.new mc)) (hm : ¬ mc.isDeep := by intro z; cases z) : CD K Φ M1 xs (M1 ++ [mc]) (.cel M1.length) := by
  have h := cl_new (K := K) (M1 := M1) (Hand.none hx) hΦ (fun m hm => by cases hm) hm
  rw [via_dats hx] at h
  exact h
theorem cl_newF0 (hx : dats xs ≠ none) (hΦ : Φ [] xs [] (.new mc)) (hd : mc.toD = some d) : CD K Φ M1 xs M1 (.dat d) := by
  have h := cl_newF (K := K) (M1 := M1) (Hand.none hx) hΦ (fun m hm => by cases hm) hd
  rw [via_dats hx] at h
  exact h
theorem cl_exc0 {C : Addr} {fs : List (Str × D)} (hx : dats xs ≠ none) (hΦ : Φ [] xs [] (.exc C fs)) : CX K Φ M1 xs M1 C fs := by
  have h := cl_exc (K := K) (M1 := M1) (Hand.none hx) hΦ (fun m hm => by cases hm)
  rw [via_dats hx] at h
  exact h
/-! ### the forms of calls -/
theorem ev_cl (ha : EvA K t M E M1 xs) (h : CD K Φ M1 xs M2 r) : EvD K (tCall (FSp K Φ) [] XX t) M E M2 r := fun B F As σ H S Q q =>
  ha B F As σ H S _ fun vs F1 As1 H1 S1 e1 p1 r1 => by
    rw [List.append_nil]
    exact h B F1 As1 σ E H1 vs S1 r1 Q XX fun v F2 As2 H2 S2 e2 p2 rv => q v F2 As2 H2 S2 (e1.trans e2) (p1.trans p2) rv
theorem ev_clS (ha : EvA K t M E M1 xs) (h : CD K Φ M1 xs M2 r) : EvD K (tCallS (FSp K Φ) Xs t) M E M2 r := fun B F As σ H S Q q =>
  ha B F As σ H S _ fun vs F1 As1 H1 S1 e1 p1 r1 => h B F1 As1 σ E H1 vs S1 r1 Q (Xs σ) fun v F2 As2 H2 S2 e2 p2 rv => q v F2 As2 H2 S2 (e1.trans e2) (p1.trans p2) rv
theorem xx_cl {C : Addr} {fs : List (Str × D)} (ha : EvA K t M E M1 xs) (h : CX K Φ M1 xs M2 C fs) : ExX K (fun _ => XX) (tCall (FSp K Φ) [] XX t) M E M2 C fs := fun B F As σ H S k Q =>
  ha B F As σ H S _ fun vs F1 As1 H1 S1 e1 p1 r1 => by
    rw [List.append_nil]
    exact h B F1 As1 σ E H1 vs S1 r1 Q XX fun dd ws F' As' H' S' n p => k dd ws F' As' H' S' n p
theorem xx_clS {C : Addr} {fs : List (Str × D)} (ha : EvA K t M E M1 xs) (h : CX K Φ M1 xs M2 C fs) : ExX K Xs (tCallS (FSp K Φ) Xs t) M E M2 C fs := fun B F As σ H S k Q =>
  ha B F As σ H S _ fun vs F1 As1 H1 S1 e1 p1 r1 => h B F1 As1 σ E H1 vs S1 r1 Q (Xs σ) fun dd ws F' As' H' S' n p => k dd ws F' As' H' S' n p
theorem no_attr {C : Addr} {fs : List (Str × D)} {m : Str} {ws : List (Str × V)} (pa : PK (R K F) fs ws) (hm : fs.lookup m = none) : ws.lookup m = none := by
  rcases pa.look (f := m) with ⟨_, g⟩ | ⟨d2, v2, g, _⟩
  · exact g
  · rw [hm] at g; cases g
/-- a method of a frozen instance -/
theorem ev_mt {C : Addr} {fs : List (Str × D)} {m : Str} (ho : EvD K ta M E M1 (.dat (.ins C fs))) (hm : fs.lookup m = none) (ha : EvA K t M1 E M2 xs) (h : CD K Φ M2 (.dat (.ins C fs) :: xs) M3 r) : EvD K (tMeth C m (FSp K Φ) [] XX ta t) M E M3 r := fun B F As σ H S Q q =>
  ho B F As σ H S _ fun v F1 As1 H1 S1 e1 p1 r1 => by
    obtain ⟨a, dx, ws, ev, hA, pa⟩ := R.ins_inv r1
    refine ⟨a, dx, ws, ev, S1.ex _ _ hA, no_attr (C := C) pa hm, ha B F1 As1 σ H1 S1 _ fun vs F2 As2 H2 S2 e2 p2 r2 => ?_⟩
    rw [List.append_nil]
    exact h B F2 As2 σ E H2 _ S2 (P2.cons (R.mono r1 e2) r2) Q XX fun v F3 As3 H3 S3 e3 p3 rv => q v F3 As3 H3 S3 ((e1.trans e2).trans e3) ((p1.trans p2).trans p3) rv
theorem xx_mt {C C2 : Addr} {fs gs : List (Str × D)} {m : Str} (ho : EvD K ta M E M1 (.dat (.ins C fs))) (hm : fs.lookup m = none) (ha : EvA K t M1 E M2 xs) (h : CX K Φ M2 (.dat (.ins C fs) :: xs) M3 C2 gs) : ExX K (fun _ => XX) (tMeth C m (FSp K Φ) [] XX ta t) M E M3 C2 gs := fun B F As σ H S k Q =>
  ho B F As σ H S _ fun v F1 As1 H1 S1 e1 p1 r1 => by
    obtain ⟨a, dx, ws, ev, hA, pa⟩ := R.ins_inv r1
    refine ⟨a, dx, ws, ev, S1.ex _ _ hA, no_attr (C := C) pa hm, ha B F1 As1 σ H1 S1 _ fun vs F2 As2 H2 S2 e2 p2 r2 => ?_⟩
    rw [List.append_nil]
    exact h B F2 As2 σ E H2 _ S2 (P2.cons (R.mono r1 e2) r2) Q XX fun dd ws F' As' H' S' n p => k dd ws F' As' H' S' n p
theorem ev_mtT {C : Addr} {fs : List (Str × D)} {m : Str} (ho : EvD K ta M E M1 (.dat (.ins C fs))) (hm : fs.lookup m = none) (ha : EvA K t M1 E M2 xs) (h : CD K Φ M2 (.dat (.ins C fs) :: xs) M3 r) : EvD K (tMethT C m (FSp K Φ) Xs ta t) M E M3 r := fun B F As σ H S Q q =>
  ho B F As σ H S _ fun v F1 As1 H1 S1 e1 p1 r1 => by
    obtain ⟨a, dx, ws, ev, hA, pa⟩ := R.ins_inv r1
    exact ⟨a, dx, ws, ev, S1.ex _ _ hA, no_attr (C := C) pa hm, ha B F1 As1 σ H1 S1 _ fun vs F2 As2 H2 S2 e2 p2 r2 => h B F2 As2 σ E H2 _ S2 (P2.cons (R.mono r1 e2) r2) Q (Xs σ) fun v F3 As3 H3 S3 e3 p3 rv => q v F3 As3 H3 S3 ((e1.trans e2).trans e3) ((p1.trans p2).trans p3) rv⟩
theorem xx_mtT {C C2 : Addr} {fs gs : List (Str × D)} {m : Str} (ho : EvD K ta M E M1 (.dat (.ins C fs))) (hm : fs.lookup m = none) (ha : EvA K t M1 E M2 xs) (h : CX K Φ M2 (.dat (.ins C fs) :: xs) M3 C2 gs) : ExX K Xs (tMethT C m (FSp K Φ) Xs ta t) M E M3 C2 gs := fun B F As σ H S k Q =>
  ho B F As σ H S _ fun v F1 As1 H1 S1 e1 p1 r1 => by
    obtain ⟨a, dx, ws, ev, hA, pa⟩ := R.ins_inv r1
    exact ⟨a, dx, ws, ev, S1.ex _ _ hA, no_attr (C := C) pa hm, ha B F1 As1 σ H1 S1 _ fun vs F2 As2 H2 S2 e2 p2 r2 => h B F2 As2 σ E H2 _ S2 (P2.cons (R.mono r1 e2) r2) Q (Xs σ) fun dd ws F' As' H' S' n p => k dd ws F' As' H' S' n p⟩
/-- a new instance: its __init__ gets the last cell -/
theorem ev_mk {C : Addr} (ha : EvA K t M E M1 xs) (h : CD K Φ (M1 ++ [.ins C []]) (.cel M1.length :: xs) M2 rnon) : EvD K (tMake C (FSp K Φ) [] XX t) M E M2 (.cel M1.length) := fun B F As σ H S Q q =>
  ha B F As σ H S _ fun vs F1 As1 H1 S1 e1 p1 r1 x dx nx ndx hne => by
    obtain ⟨S3, e3, hA, hM⟩ := make_in (C := C) (vs := vs) S1 nx ndx hne
    rw [List.append_nil]
    exact h B _ _ σ E _ _ S3 (P2.cons ⟨x, hA, rfl⟩ (r1.m e3 (List.prefix_append _ _))) _ XX fun v F4 As4 H4 S4 e4 p4 rv => ⟨R.non_inv rv, q _ F4 As4 H4 S4 ((e1.trans e3).trans e4) ((p1.trans (List.prefix_append _ _)).trans p4) ⟨x, prefix_get p4 hA, rfl⟩⟩
/-! ### all cells go in, and none is changed -/
theorem RV.back (p : As <+: As') (h : RV K F' As' r v) (h0 : ∃ w, RV K F As r w) : RV K F' As r v := by
  cases r with
  | dat d => exact h
  | cel k =>
    obtain ⟨a, h1, h2⟩ := h
    obtain ⟨w, b, h3, _⟩ := h0
    have := prefix_get p h3
    rw [h1] at this; cases this
    exact ⟨_, h3, h2⟩
theorem P2.back {us : List Rv} {vs ws : List V} (p : As <+: As') (h : P2 (RV K F' As') us vs) (h0 : P2 (RV K F As) us ws) : P2 (RV K F' As) us vs := ⟨h.1, fun i r v e1 e2 => by
  obtain ⟨w, hw, rw_⟩ := h0.get e1
  exact (h.2 i r v e1 e2).back p ⟨w, rw_⟩⟩
theorem MCR.back {o o0 : HO} (p : As <+: As') (h : MCR K F' As' mc o) (h0 : MCR K F As mc o0) : MCR K F' As mc o := by
  cases mc with
  | lst ds => exact h
  | dct kvs => exact h
  | ins C fs => exact h
  | gone => exact h
  | deep y =>
    cases y with
    | lst rs =>
      obtain ⟨zs, h1, h2⟩ := h
      obtain ⟨ws, h3, h4⟩ := h0
      exact ⟨zs, h1, h2.back p h4⟩
    | tup rs =>
      obtain ⟨zs, h1, h2⟩ := h
      obtain ⟨ws, h3, h4⟩ := h0
      exact ⟨zs, h1, h2.back p h4⟩
    | ins C fs =>
      obtain ⟨dx, zs, h1, h2⟩ := h
      obtain ⟨dy, ws, h3, h4⟩ := h0
      refine ⟨dx, zs, h1, h2.1, fun i a b e1 e2 => ⟨(h2.2 i a b e1 e2).1, ?_⟩⟩
      obtain ⟨w, hw, rw_⟩ := h4.get e1
      exact (h2.2 i a b e1 e2).2.back p ⟨_, rw_.2⟩
theorem read_in (S : Sta K B F As M1 σ E H) (r1 : P2 (RV K F As) xs vs) : Sta K (Sta.self F H As) F As M1 (vs.map some) (xs.map some) H :=
  ⟨S.ex, S.len, S.nd, S.cell, ⟨by simp [r1.1], fun i r h => by
    rw [List.getElem?_map] at h
    cases c : xs[i]? with
    | none => rw [c] at h; cases h
    | some y =>
      rw [c] at h
      have h : y = r := by simpa using h
      subst h
      obtain ⟨v, hv, rv⟩ := r1.get c
      exact ⟨v, by rw [List.getElem?_map, hv]; rfl, rv⟩⟩, Ex.refl F, fun a o h _ => h, fun a o _ h => h, fun a h => .inl h, fun a o h => ⟨o, h⟩, S.kn, List.prefix_refl _⟩
theorem read_out (S : Sta K B F As M1 σ E H) (fin : Fin K F H As M1 F' H' As' M'') : Sta K B F' As M1 σ E H' ∧ Ex F F' := by
  obtain ⟨τ, En, S2⟩ := fin.sta
  refine ⟨⟨S2.ex, S.len, S.nd, fun k a m h1 h2 h3 => ?_, S.slots.mono S2.bF (List.prefix_refl _), S.bF.trans S2.bF, fun b o h hP => ?_, fun b o h h0 => ?_, S.bA, fun b o h => ?_, fun b h => ?_, S.pA⟩, S2.bF⟩
  · have hk := (List.getElem?_eq_some_iff.mp h1).1
    have eM : M''[k]? = some m := by
      have e : (M''.take As.length)[k]? = some m := by rw [fin.cut]; exact h2
      rw [List.getElem?_take, if_pos hk] at e
      exact e
    obtain ⟨z1, o, z2, z3⟩ := S2.cell k a m (prefix_get fin.pre h1) eM h3
    obtain ⟨_, o0, _, w3⟩ := S.cell k a m h1 h2 h3
    exact ⟨z1, o, z2, z3.back fin.pre w3⟩
  · refine S2.bH b o (S.bH b o h hP) fun z => ?_
    have z : b ∈ As := z
    rcases S.bA b z with q | q
    · exact hP q
    · rw [q] at h; cases h
  · obtain ⟨w, hw⟩ := S.bK b o h
    exact S2.bN b w hw (S.bN b o h h0)
  · obtain ⟨w, hw⟩ := S.bK b o h
    exact S2.bK b w hw
  · obtain ⟨w, hw⟩ := S.kn b h
    exact S2.bK b w hw
theorem read_new (S : Sta K B F As M1 σ E H) (fin : Fin K F H As M1 F' H' As' M'') {k : Nat} {a : Addr} (hk : As.length ≤ k) (hA : As'[k]? = some a) (hm : M''[k]? = some mc) (hg : mc ≠ .gone) :
    F' a = none ∧ ∃ o, H' a = some o ∧ MCR K F' As' mc o ∧ a ∉ As ∧ B.H0 a = none := by
  obtain ⟨τ, En, S2⟩ := fin.sta
  obtain ⟨z1, o, z2, z3⟩ := S2.cell k a mc hA hm hg
  have nA : a ∉ As := fun z => by
    obtain ⟨j, hj⟩ := List.getElem?_of_mem z
    have := S2.uniq (prefix_get fin.pre hj) hA
    have := (List.getElem?_eq_some_iff.mp hj).1
    omega
  have nH : H a = none := by
    rcases S2.bA a (List.mem_of_getElem? hA) with q | q
    · exact absurd q nA
    · exact q
  exact ⟨z1, o, z2, z3, nA, S.base_off nH⟩
/-- all cells go in, some are changed, no cell into one of them -/
theorem all_out (S : Sta K B F As M1 σ E H) (fin : Fin K F H As M2 F' H' As' M'') (hM : ∀ (i : Nat) (m : MC), M2[i]? = some m → M1[i]? = some m ∨ ¬ m.isDeep) : Sta K B F' As M2 σ E H' ∧ Ex F F' := by
  obtain ⟨τ, En, S2⟩ := fin.sta
  refine ⟨⟨S2.ex, fin.len.symm, S.nd, fun k a m h1 h2 h3 => ?_, S.slots.mono S2.bF (List.prefix_refl _), S.bF.trans S2.bF, fun b o h hP => ?_, fun b o h h0 => ?_, S.bA, fun b o h => ?_, fun b h => ?_, S.pA⟩, S2.bF⟩
  · have hk := (List.getElem?_eq_some_iff.mp h1).1
    have eM : M''[k]? = some m := by
      have e : (M''.take As.length)[k]? = some m := by rw [fin.cut]; exact h2
      rw [List.getElem?_take, if_pos hk] at e
      exact e
    obtain ⟨z1, o, z2, z3⟩ := S2.cell k a m (prefix_get fin.pre h1) eM h3
    rcases hM k m h2 with q | q
    · obtain ⟨_, o0, _, w3⟩ := S.cell k a m h1 q h3
      exact ⟨z1, o, z2, z3.back fin.pre w3⟩
    · exact ⟨z1, o, z2, z3.flat q⟩
  · refine S2.bH b o (S.bH b o h hP) fun z => ?_
    have z : b ∈ As := z
    rcases S.bA b z with q | q
    · exact hP q
    · rw [q] at h; cases h
  · obtain ⟨w, hw⟩ := S.bK b o h
    exact S2.bN b w hw (S.bN b o h h0)
  · obtain ⟨w, hw⟩ := S.bK b o h
    exact S2.bK b w hw
  · obtain ⟨w, hw⟩ := S.kn b h
    exact S2.bK b w hw
theorem set_keeps {k : Nat} {m : MC} (hm : ¬ m.isDeep) : ∀ (i : Nat) (m' : MC), (M1.set k m)[i]? = some m' → M1[i]? = some m' ∨ ¬ m'.isDeep := fun i m' h => by
  by_cases e : k = i
  · subst e
    by_cases hk : k < M1.length
    · rw [List.getElem?_set_self hk] at h; cases h; exact .inr hm
    · rw [List.getElem?_eq_none (by rw [List.length_set]; omega)] at h; cases h
  · rw [List.getElem?_set_ne e] at h; exact .inl h
theorem cl_all (hΦ : Φ M1 xs M2 (.ret d)) (hM : ∀ (i : Nat) (m : MC), M2[i]? = some m → M1[i]? = some m ∨ ¬ m.isDeep) : CD K Φ M1 xs M2 (.dat d) := fun B F As σ E H vs S r1 Q XX q =>
  ⟨F, As, M1, xs, M2, .ret d, read_in S r1, trivial, hΦ, fun v F' As' M'' H' fin rv => q v F' As H' (all_out S fin hM).1 (all_out S fin hM).2 (List.prefix_refl _) rv⟩
theorem cl_allX {C : Addr} {fs : List (Str × D)} (hΦ : Φ M1 xs M2 (.exc C fs)) (hM : ∀ (i : Nat) (m : MC), M2[i]? = some m → M1[i]? = some m ∨ ¬ m.isDeep) : CX K Φ M1 xs M2 C fs := fun B F As σ E H vs S r1 Q XX q =>
  ⟨F, As, M1, xs, M2, .exc C fs, read_in S r1, trivial, hΦ, fun dd ws F' As' M'' H' fin n p => q dd ws F' As H' (all_out S fin hM).1 n p⟩
/-! ### lists of numbers behind changes elsewhere -/
theorem get_n {α : Type} (us ws : List α) (k : Nat) : (us ++ ws)[us.length + k]? = ws[k]? := by
  rw [List.getElem?_append_right (Nat.le_add_right _ _), Nat.add_sub_cancel_left]
theorem set_n {α : Type} (us ws : List α) (k : Nat) (y : α) : (us ++ ws).set (us.length + k) y = us ++ ws.set k y := by
  rw [List.set_append_right _ _ (Nat.le_add_right _ _), Nat.add_sub_cancel_left]
theorem get_mid {α : Type} (us : List α) (x : α) (ws : List α) : (us ++ x :: ws)[us.length]? = some x := (get_n us (x :: ws) 0).trans rfl
theorem set_mid {α : Type} (us : List α) (x : α) (ws : List α) (y : α) : (us ++ x :: ws).set us.length y = us ++ y :: ws := set_n us (x :: ws) 0 y
theorem get_mid1 {α : Type} (us : List α) (x x1 : α) (ws : List α) : (us ++ x :: x1 :: ws)[us.length + 1]? = some x1 := (get_n us (x :: x1 :: ws) 1).trans rfl
theorem set_mid1 {α : Type} (us : List α) (x x1 : α) (ws : List α) (y : α) : (us ++ x :: x1 :: ws).set (us.length + 1) y = us ++ x :: y :: ws := set_n us (x :: x1 :: ws) 1 y
theorem IsLst.app {ds : List D} (h : IsLst M x ds) (N : List MC) : IsLst (M ++ N) x ds := by
  rcases h with h | ⟨k, h1, h2⟩
  · exact .inl h
  · exact .inr ⟨k, h1, by rw [List.getElem?_append_left (List.getElem?_eq_some_iff.mp h2).1]; exact h2⟩
theorem IsLst.off {ds : List D} {k : Nat} {C : Addr} {fs : List (Str × D)} {m : MC} (h : IsLst M x ds) (hk : M[k]? = some (.ins C fs)) : IsLst (M.set k m) x ds := by
  rcases h with h | ⟨j, h1, h2⟩
  · exact .inl h
  · refine .inr ⟨j, h1, ?_⟩
    have e : k ≠ j := by
      rintro rfl
      rw [hk] at h2; cases h2
    rw [List.getElem?_set_ne e]; exact h2
theorem cl_read (hΦ : Φ M1 xs M1 (.ret d)) : CD K Φ M1 xs M1 (.dat d) := fun B F As σ E H vs S r1 Q XX q =>
  ⟨F, As, M1, xs, M1, .ret d, read_in S r1, trivial, hΦ, fun v F' As' M'' H' fin rv => q v F' As H' (read_out S fin).1 (read_out S fin).2 (List.prefix_refl _) rv⟩
theorem cl_readX {C : Addr} {fs : List (Str × D)} (hΦ : Φ M1 xs M1 (.exc C fs)) : CX K Φ M1 xs M1 C fs := fun B F As σ E H vs S r1 Q XX q =>
  ⟨F, As, M1, xs, M1, .exc C fs, read_in S r1, trivial, hΦ, fun dd ws F' As' M'' H' fin n p => q dd ws F' As H' (read_out S fin).1 n p⟩
theorem cl_readN (hΦ : Φ M1 xs M1 (.new mc)) (hm : ¬ mc.isDeep := by intro z; cases z) : CD K Φ M1 xs (M1 ++ [mc]) (.cel M1.length) := fun B F As σ E H vs S r1 Q XX q =>
  ⟨F, As, M1, xs, M1, .new mc, read_in S r1, trivial, hΦ, fun v k F' As' M'' H' fin hk h1 h2 rv => by
    obtain ⟨a, hA, rfl⟩ := rv
    obtain ⟨S2, e2⟩ := read_out S fin
    obtain ⟨z1, o, z2, z3, z4, z5⟩ := read_new S fin hk hA h1 h2
    exact q _ F' (As ++ [a]) H' (S2.more z1 z2 (z3.flat hm) z4 z5) e2 (List.prefix_append _ _) ⟨a, by rw [← S.len]; rw [List.getElem?_append_right (Nat.le_refl _)]; simp, rfl⟩⟩
theorem cl_readF (hΦ : Φ M1 xs M1 (.new mc)) (hd : mc.toD = some d) : CD K Φ M1 xs M1 (.dat d) := fun B F As σ E H vs S r1 Q XX q =>
  ⟨F, As, M1, xs, M1, .new mc, read_in S r1, trivial, hΦ, fun v k F' As' M'' H' fin hk h1 h2 rv => by
    obtain ⟨a, hA, rfl⟩ := rv
    obtain ⟨S2, e2⟩ := read_out S fin
    obtain ⟨z1, o, z2, z3, z4, z5⟩ := read_new S fin hk hA h1 h2
    obtain ⟨S3, e3⟩ := S2.moreF z1 z2 z4 z5
    have nd : ¬ mc.isDeep := fun z => by cases mc with
      | deep y => cases hd
      | _ => exact z
    exact q _ _ As H' S3 (e2.trans e3) (List.prefix_refl _) (MCR.toR (As := As) ((z3.flat nd).mono e3) upd_same hd)⟩
/-! ### a loop over a list of numbers, data or a cell that the loop leaves -/
def Base.upA (B : Base) (F : Hp) (As : List Addr) : Base := { B with F0 := F, A0 := As }
theorem Sta.toUpA (S : Sta K B F As M σ E H) : Sta K (B.upA F As) F As M σ E H := { S with bF := Ex.refl F, bN := fun a o h h0 => h0, bH := S.bH, bA := S.bA, bK := S.bK, pA := List.prefix_refl _ }
theorem Sta.ofUpA {σ' : L2.St} {E' : List (Option Rv)} (S : Sta K B F1 As1 M1 σ E H1) (S' : Sta K (B.upA F1 As1) F As M σ' E' H) : Sta K B F As M σ' E' H := { S' with bF := S.bF.trans S'.bF, bN := fun a o h h0 => S'.bN a o h (S.bN a o h h0), bH := S'.bH, bA := S'.bA, bK := S'.bK, pA := S.pA.trans S'.pA }
variable {De : Ends} {uu uv : TS}
theorem s_forI {tl : TE} {j : Nat} {ns : List Int} (S : Sta K B F As M σ E H) (ha : EvD K tl M E M1 x) (hx : IsLst M1 x (ns.map D.int)) (P : Nat → List MC → List (Option Rv) → Prop) (h0 : P 0 M1 E) (keep : ∀ i M E, P i M E → IsLst M x (ns.map D.int))
    (hb : ∀ (B' : Base), Cv K B' B → ∀ (i : Nat) (n : Int) M E, ns[i]? = some n → P i M E → Nxt K B' M (E.set j (some (rint n))) (uu { De with nx := NxP K B' (P (i + 1)), ct := NxP K B' (P (i + 1)), bk := De.nx }))
    (hd : ∀ M E, P ns.length M E → Nxt K B M E De.nx) : tFor (iList K tl) (gName j) uu De σ H :=
  ha B F As σ H S _ fun v F1 As1 H1 S1 _ _ r1 => by
    obtain ⟨a, ws, rfl, hA, pa⟩ := hx.view S1 r1
    have ew := P2.ints pa
    subst ew
    refine ⟨a, rfl, ⟨_, SqL.of hA⟩, for_list (K := K) (a := a) (xs := ns.map V.int) (fun i => NxP K (B.upA F1 As1) (P i)) ⟨F1, As1, M1, E, S1.toUpA, h0⟩ (fun i σ' H' _ ⟨F2, As2, M2, E2, S2, hP⟩ => ?_) (fun i y σ' H' hi ⟨F2, As2, M2, E2, S2, hP⟩ => ?_) (fun σ' H' ⟨F2, As2, M2, E2, S2, hP⟩ => hd M2 E2 (by rw [List.length_map] at hP; exact hP) _ _ _ _ (S1.ofUpA S2))⟩
    · obtain ⟨b, zs, e, hb2, pz⟩ := (keep i M2 E2 hP).view S2 (r1.mono S2.bF S2.pA)
      have e : a = b := by injection e
      subst e
      rw [P2.ints pz] at hb2
      exact SqL.of hb2
    · rw [List.getElem?_map] at hi
      cases c : ns[i]? with
      | none => rw [c] at hi; cases hi
      | some n =>
        rw [c] at hi; cases hi
        exact hb (B.upA F1 As1) (fun {F As M σ E H} S' => S1.ofUpA S') i n M2 E2 c hP _ _ _ _ (S2.set (r := rint n) (.int n))
theorem q_forI {tl : TE} {j : Nat} {ns : List Int} (S : Sta K B F As M σ E H) (ha : EvD K tl M E M1 x) (hx : IsLst M1 x (ns.map D.int)) (P : Nat → List MC → List (Option Rv) → Prop) (h0 : P 0 M1 E) (keep : ∀ i M E, P i M E → IsLst M x (ns.map D.int))
    (hb : ∀ (B' : Base), Cv K B' B → ∀ (i : Nat) (n : Int) M E, ns[i]? = some n → P i M E → Nxt K B' M (E.set j (some (rint n))) (uu { De with nx := NxP K B' (P (i + 1)), ct := NxP K B' (P (i + 1)), bk := uv De }))
    (hd : ∀ M E, P ns.length M E → Nxt K B M E (uv De)) : tSeq (tFor (iList K tl) (gName j) uu) uv De σ H := s_forI (De := { De with nx := uv De }) S ha hx P h0 keep hb hd
/-! ### equal lists of numbers -/
theorem eqv_ints (ns ms : List Int) : PyData.eqv (.list (ns.map PyData.int)) (.list (ms.map PyData.int)) = decide (ns = ms) := by
  have h := PySem.W.ked_eqvAll ns ms
  simp only [PyData.eqv, h]
theorem od_eqLB {ns ms : List Int} : OpD K (rEqD K) M (rints ns) (rints ms) M (rbl (decide (ns = ms))) := OpD.pure fun B F H As σ E v w S r1 r2 Q q =>
  ⟨_, _, (PyOf.ints ns).dp S.ex r1, (PyOf.ints ms).dp S.ex r2, PySem.W.ke_shaped_ints _, PySem.W.ke_shaped_ints _, by rw [eqv_ints]; exact q _ (.bl _)⟩
/-- values that are seen as the same data -/
theorem od_neV {d : D} {e : PyData} {n m : Nat} {x y : Rv} (hx : viewR M n x = some d) (hy : viewR M m y = some d) (h : PyOf d e) (hs : SeqAt.shaped e = true) : OpD K (rNeD K) M x y M (rbl false) := OpD.pure fun B F H As σ E v w S r1 r2 Q q =>
  ⟨e, e, h.dp (Ex.refl H) (view_R S hx r1), h.dp (Ex.refl H) (view_R S hy r2), hs, hs, by rw [shaped_eqv hs]; exact q _ (.bl _)⟩
theorem arr_snoc {n : Nat} {f : Nat → Int} : arr (n + 1) f = arr n f ++ [f n] := by
  unfold arr
  rw [List.range_succ, List.map_append]; rfl
/-! ### fields set, told by what stands then -/
section
variable {C : Addr} {f : Str} {fs gs : List (Str × D)} {k n : Nat}
theorem s_fldE (S : Sta K B F As M σ E H) (h : EvD K tb M E M1 (.dat d)) (ho : EvD K ta M1 E M2 (.cel k)) (hk : M2[k]? = some (.ins C fs)) (c : Cls K C) (na : NoAttr K C f) (hl : fs.length < 1000) (hp : putD f d fs = gs)
    (kk : Nxt K B (M2.set k (.ins C gs)) E De.nx) : sFld K ta tb f De σ H := s_fld S h ho hk c na hl (hp ▸ kk)
theorem q_fldE (S : Sta K B F As M σ E H) (h : EvD K tb M E M1 (.dat d)) (ho : EvD K ta M1 E M2 (.cel k)) (hk : M2[k]? = some (.ins C fs)) (c : Cls K C) (na : NoAttr K C f) (hl : fs.length < 1000) (hp : putD f d fs = gs)
    (kk : Nxt K B (M2.set k (.ins C gs)) E (uv De)) : tSeq (sFld K ta tb f) uv De σ H := s_fldE (De := { De with nx := uv De }) S h ho hk c na hl hp kk
/-- .. of a cell of the def's own, frozen then -/
theorem s_fldF (S : Sta K B F As M σ E H) (hB : ∀ a, B.P a → a ∈ B.A0) (h : EvD K tb M E M1 (.cel n)) (hn : M1[n]? = some mc) (hd : mc.toD = some d) (h0 : B.A0.length ≤ n) (ho : EvD K ta (M1.set n .gone) E M2 (.cel k)) (hk : M2[k]? = some (.ins C fs)) (c : Cls K C) (na : NoAttr K C f) (hl : fs.length < 1000) (hp : putD f d fs = gs)
    (kk : Nxt K B (M2.set k (.ins C gs)) E De.nx) : sFld K ta tb f De σ H :=
  h B F As σ H S _ fun v F1 As1 H1 S1 e1 p1 r1 => by
    obtain ⟨a, hA, rfl⟩ := r1
    have hg : mc ≠ .gone := by rintro rfl; cases hd
    obtain ⟨g1, o, g2, g3⟩ := S1.cell n a mc hA hn hg
    have hP : B.H0 a = none := by
      rcases S1.bA a (List.mem_of_getElem? hA) with q | q
      · exfalso
        obtain ⟨j, hj, e⟩ := List.mem_iff_getElem.mp (hB a q)
        have e2 : As1[j]? = some a := prefix_get S1.pA (by rw [List.getElem?_eq_getElem hj, e])
        have := S1.uniq hA e2
        omega
      · exact q
    obtain ⟨S2, e2⟩ := S1.frz hA hn hg g2 hP
    have nd : ¬ mc.isDeep := fun z => by cases mc with
      | deep y => cases hd
      | _ => exact z
    have rd : R K (upd F1 a o) d (.ref a) := MCR.toR (As := As1) (g3.mono e2) upd_same hd
    refine ho B _ As1 σ H1 S2 _ fun w F3 As3 H3 S3 e3 p3 r3 => ?_
    obtain ⟨b, hb, rfl⟩ := r3
    obtain ⟨_, o2, ho2, dx, ws, rfl, pa⟩ := S3.cell k b _ hb hk (by intro z; cases z)
    subst hp
    exact ⟨b, C, dx, ws, rfl, ho2, c, na, by rw [← pa.1]; exact hl, kk _ _ _ _ (S3.chg hb hk (by intro z; cases z) ⟨dx, _, rfl, PK.putF (R.mono rd e3) pa⟩)⟩
theorem q_fldF (S : Sta K B F As M σ E H) (hB : ∀ a, B.P a → a ∈ B.A0) (h : EvD K tb M E M1 (.cel n)) (hn : M1[n]? = some mc) (hd : mc.toD = some d) (h0 : B.A0.length ≤ n) (ho : EvD K ta (M1.set n .gone) E M2 (.cel k)) (hk : M2[k]? = some (.ins C fs)) (c : Cls K C) (na : NoAttr K C f) (hl : fs.length < 1000) (hp : putD f d fs = gs)
    (kk : Nxt K B (M2.set k (.ins C gs)) E (uv De)) : tSeq (sFld K ta tb f) uv De σ H := s_fldF (De := { De with nx := uv De }) S hB h hn hd h0 ho hk c na hl hp kk
theorem xx_mk {C2 : Addr} {hs : List (Str × D)} (ha : EvA K t M E M1 xs) (h : CX K Φ (M1 ++ [.ins C []]) (.cel M1.length :: xs) M2 C2 hs) : ExX K (fun _ => XX) (tMake C (FSp K Φ) [] XX t) M E M2 C2 hs := fun B F As σ H S k Q =>
  ha B F As σ H S _ fun vs F1 As1 H1 S1 e1 p1 r1 x dx nx ndx hne => by
    obtain ⟨S3, e3, hA, hM⟩ := make_in (C := C) (vs := vs) S1 nx ndx hne
    rw [List.append_nil]
    exact h B _ _ σ E _ _ S3 (P2.cons ⟨x, hA, rfl⟩ (r1.m e3 (List.prefix_append _ _))) _ XX fun dd ws F' As' H' S' n p => k dd ws F' As' H' S' n p
end
/-- if c: x = e -/
theorem s_ifSet {c : TT} {i : Nat} {b : Bool} {d0 d1 : D} (S : Sta K B F As M σ E H) (h : EvT K c M E M b) (hx : E[i]? = some (some (.dat d0))) (hv : b = true → EvD K te M E M (.dat d1)) (k : Nxt K B M (E.set i (some (.dat (if b = true then d1 else d0)))) De.nx) : tIfS c (tAsg te (gName i)) tNext De σ H :=
  s_if S h (fun hb F As σ H S => s_set S (hv hb) (by rw [if_pos hb] at k; exact k)) (fun hb F As σ H S => s_next S (by
    have e : E.set i (some (.dat d0)) = E := by
      refine List.ext_getElem? fun j => ?_
      by_cases q : i = j
      · subst q
        rw [List.getElem?_set_self (List.getElem?_eq_some_iff.mp hx).1, hx]
      · rw [List.getElem?_set_ne q]
    rw [if_neg (by rw [hb]; exact Bool.false_ne_true), e] at k
    exact k))
theorem q_ifSet {c : TT} {i : Nat} {b : Bool} {d0 d1 : D} (S : Sta K B F As M σ E H) (h : EvT K c M E M b) (hx : E[i]? = some (some (.dat d0))) (hv : b = true → EvD K te M E M (.dat d1)) (k : Nxt K B M (E.set i (some (.dat (if b = true then d1 else d0)))) (uv De)) : tSeq (tIfS c (tAsg te (gName i)) tNext) uv De σ H := s_ifSet (De := { De with nx := uv De }) S h hx hv k
end
end DL
set_option Elab.async false
set_option linter.all false
set_option maxRecDepth 100000
set_option maxHeartbeats 2000000
/-! DL: an argument of a call raises; comprehensions over numbers with cells that move; loops over cells in a cell. -/
namespace DL
open PySem L2
open Evl (Ex)
section
variable {K : PySem.W.Frag} {B : Base} {F F' F1 H H' H1 : Hp} {As As' As1 : List Addr} {M M0 M1 M2 M' : List MC} {σ : L2.St} {E : List (Option Rv)} {ta tb te : TE} {r x : Rv} {xs rs : List Rv} {Φ : List MC → List Rv → List MC → Out → Prop} {XX : XK} {Xs : L2.St → XK} {t : TA} {C : Addr} {fs : List (Str × D)}
theorem xx_arg (h : ExA K Xs t M E M1 C fs) : ExX K Xs (tCall (FSp K Φ) [] XX t) M E M1 C fs := fun B F As σ H S k Q => h B F As σ H S k _
/-- [e for x in xs], numbers, each turn changing the cells, the list to be changed later -/
theorem ev_lcLSM {tl : TE} {j : Nat} {ns : List Int} (Ms : Nat → List MC) (f : Nat → Int) (ha : EvD K tl M E M1 (rints ns)) (hn : ns.length ≤ 16777000) (h0 : Ms 0 = M1)
    (he : ∀ (i : Nat) (n : Int), ns[i]? = some n → EvD K te (Ms i) (E.set j (some (rint n))) (Ms (i + 1)) (rint (f i))) :
    EvD K (tLc (iList K tl) (gName j) tYes te [j]) M E (Ms ns.length ++ [.lst (((List.range ns.length).map f).map D.int)]) (.cel (Ms ns.length).length) := fun B F As σ H S Q q =>
  ha B F As σ H S _ fun w F1 As1 H1 S1 e1 p1 r1 => by
    obtain ⟨a, ws, rfl, hA, pa⟩ := R.lst_inv r1
    have lw : ws.length = ns.length := by rw [← pa.1, List.length_map]
    refine ⟨a, rfl, ⟨ws, SqL.of (S1.ex _ _ hA)⟩, fun p hp => lc_list (K := K) (a := a) (xs := ws) (LcW K F1 H1 As1 Ms (fun _ => true) (fun i => .int (f i)) σ E p) (lcw_start S1 hp h0) (fun i H' _ ⟨F', As', acc, S', _⟩ => SqL.of (S'.ex _ _ (S'.bF _ _ hA))) (fun i x H' hi h => ?_) fun H' h => ?_⟩
    · obtain ⟨d, hd, rd⟩ := pa.flip.get hi
      rw [List.getElem?_map] at hd
      cases c : ns[i]? with
      | none => rw [c] at hd; cases hd
      | some n =>
        rw [c] at hd; cases hd
        obtain ⟨Mt, h1, h2, h3⟩ := LcT.moved (Ms := Ms) (v := fun i => .int (f i)) (he i n c)
        have hil := (List.getElem?_eq_some_iff.mp c).1
        exact ⟨wipe_one σ j _, lcw_turn h (by omega) (fun F' eF As' _ hE => hE.setW (r := rint n) (R.mono rd eF)) h1 h2 h3⟩
    · rw [lw] at h
      refine lcw_doneM S1 hp h fun u F' As' H' S' e' p' r' => ?_
      rw [givD_all] at S'
      have e : ((List.range ns.length).map fun i => D.int (f i)) = ((List.range ns.length).map f).map D.int := by rw [List.map_map]; rfl
      rw [e] at S'
      exact q u F' As' H' S' (e1.trans e') (p1.trans p') r'
/-- a list of lists of numbers, as the library's data -/
abbrev rowsD (rows : List (List Int)) : D := .lst (rows.map fun ns => .lst (ns.map D.int))
abbrev rowsP (rows : List (List Int)) : PyData := .list (rows.map fun ns => .list (ns.map PyData.int))
theorem PyOf.rows (rows : List (List Int)) : PyOf (rowsD rows) (rowsP rows) := .lst (by rw [List.length_map, List.length_map]) fun i d e h1 h2 => by
  rw [List.getElem?_map] at h1 h2
  cases c : rows[i]? with
  | none => rw [c] at h1; cases h1
  | some ns => rw [c] at h1 h2; cases h1; cases h2; exact PyOf.ints ns
theorem rows_lay : ∀ rows : List (List Int), PyData.canLayAll0 (rows.map fun ns => PyData.list (ns.map PyData.int)) = true
  | [] => rfl
  | ns :: r => by simp [PyData.canLayAll0, PyData.canLay0, PySem.W.ke_canLayAll0 ns, rows_lay r]
theorem rows_depth : ∀ rows : List (List Int), PyData.depthAll (rows.map fun ns => PyData.list (ns.map PyData.int)) ≤ 1
  | [] => Nat.zero_le _
  | ns :: r => by
    have := rows_depth r
    simp [PyData.depthAll, PyData.depth, PySem.W.ke_depthAll ns]
    omega
theorem rows_shaped (rows : List (List Int)) : SeqAt.shaped (rowsP rows) = true := by
  have := rows_depth rows
  simp [SeqAt.shaped, PyData.canLay0, PyData.depth, rows_lay rows]
  omega
theorem et_or2 {t u : TT} {c : Bool} (h1 : EvT K t M E M1 false) (h2 : EvT K u M1 E M2 c) : EvT K (tOr t u) M E M2 c := fun B F As σ H S Q q => h1 B F As σ H S _ fun F1 As1 H1 S1 e1 p1 => h2 B F1 As1 σ H1 S1 Q fun F2 As2 H2 S2 e2 p2 => q F2 As2 H2 S2 (e1.trans e2) (p1.trans p2)
theorem ev_and2 {c : Bool} (h1 : EvD K ta M E M1 (rbl true)) (h2 : EvD K tb M1 E M2 (rbl c)) : EvD K (tAndV ta tb) M E M2 (rbl c) := fun B F As σ H S Q q => h1 B F As σ H S _ fun v F1 As1 H1 S1 e1 p1 r1 => ⟨true, R.bl_inv r1, h2 B F1 As1 σ H1 S1 Q fun v F2 As2 H2 S2 e2 p2 r2 => q v F2 As2 H2 S2 (e1.trans e2) (p1.trans p2) r2⟩
/-- a if c else b, both reckoned -/
theorem ev_ifP {α : Type} {tt : TT} {b : Bool} {W : α → List MC} {w1 w2 : α} {i1 i2 : Int} (h : EvT K tt M E M1 b) (h1 : EvD K ta M1 E (W w1) (rint i1)) (h2 : EvD K tb M1 E (W w2) (rint i2)) : EvD K (tIf tt ta tb) M E (W (if b = true then w1 else w2)) (rint (if b = true then i1 else i2)) := by
  cases b with
  | true => exact ev_if h (fun _ => h1) (fun z => by cases z)
  | false => exact ev_if h (fun z => by cases z) (fun _ => h2)
theorem ev_ifPD {α : Type} {tt : TT} {b : Bool} {W : α → List MC} {w1 w2 : α} {d1 d2 : D} (h : EvT K tt M E M1 b) (h1 : b = true → EvD K ta M1 E (W w1) (.dat d1)) (h2 : b = false → EvD K tb M1 E (W w2) (.dat d2)) : EvD K (tIf tt ta tb) M E (W (if b = true then w1 else w2)) (.dat (if b = true then d1 else d2)) := by
  cases b with
  | true => exact ev_if h (fun _ => h1 rfl) (fun z => by cases z)
  | false => exact ev_if h (fun z => by cases z) (fun _ => h2 rfl)
/-- a new instance, frozen at once -/
theorem ev_mkF {mc : MC} {d : D} (ha : EvA K t M E M1 xs) (h : CD K Φ (M1 ++ [.ins C []]) (.cel M1.length :: xs) (M1 ++ [mc]) rnon) (hd : mc.toD = some d) : EvD K (tMake C (FSp K Φ) [] XX t) M E M1 (.dat d) := fun B F As σ H S Q q =>
  ha B F As σ H S _ fun vs F1 As1 H1 S1 e1 p1 r1 x dx nx ndx hne => by
    obtain ⟨S3, e3, hA, hM⟩ := make_in (C := C) (vs := vs) S1 nx ndx hne
    rw [List.append_nil]
    refine h B _ _ σ E _ _ S3 (P2.cons ⟨x, hA, rfl⟩ (r1.m e3 (List.prefix_append _ _))) _ XX fun v F4 As4 H4 S4 e4 p4 rv => ⟨R.non_inv rv, ?_⟩
    have hl : (As1 ++ [x]).length = As4.length := by rw [S4.len, List.length_append, List.length_append, S1.len]; rfl
    have eA : As1 ++ [x] = As4 := p4.eq_of_length hl
    subst eA
    have hg : mc ≠ .gone := by rintro rfl; cases hd
    have nd : ¬ mc.isDeep := fun z => by cases mc with
      | deep y => cases hd
      | _ => exact z
    obtain ⟨z1, o, z2, z3⟩ := S4.cell As1.length x mc (by rw [List.getElem?_append_right (Nat.le_refl _), Nat.sub_self]; rfl) (by rw [S1.len, List.getElem?_append_right (Nat.le_refl _), Nat.sub_self]; rfl) hg
    have S5 : Sta K B F4 As1 M1 σ E H4 := ⟨S4.ex, S1.len, S1.nd, fun k a m h1 h2 h3 => by
      obtain ⟨w1, o1, w2, w3⟩ := S4.cell k a m (prefix_get (List.prefix_append _ _) h1) (by rw [List.getElem?_append_left (List.getElem?_eq_some_iff.mp h2).1]; exact h2) h3
      obtain ⟨_, o0, _, v3⟩ := S1.cell k a m h1 h2 h3
      exact ⟨w1, o1, w2, w3.back (List.prefix_append _ _) v3⟩, S1.slots.mono (e3.trans e4) (List.prefix_refl _), S4.bF, S4.bH, S4.bN, S1.bA, S4.bK, fun a h => S4.kn a (List.mem_append_left _ h), S1.pA⟩
    obtain ⟨S6, e6⟩ := S5.moreF z1 z2 (S1.off nx) (S1.base_off nx)
    exact q _ _ As1 H4 S6 (((e1.trans e3).trans e4).trans e6) p1 (MCR.toR (As := As1) ((z3.flat nd).mono e6) upd_same hd)
variable {De : Ends} {uu uv : TS}
/-- a, b = x, y -/
theorem s_par {i j : Nat} {r1 r2 : Rv} (S : Sta K B F As M σ E H) (h : EvA K t M E M1 [r1, r2]) (k : Nxt K B M1 ((E.set i (some r1)).set j (some r2)) De.nx) : tPar i j t De σ H :=
  h B F As σ H S _ fun vs F1 As1 H1 S1 _ _ pa => by
    obtain ⟨v1, v2, rfl, q1, q2⟩ := pa.two
    exact ⟨v1, v2, rfl, k _ _ _ _ ((S1.set q1).set q2)⟩
theorem q_par {i j : Nat} {r1 r2 : Rv} (S : Sta K B F As M σ E H) (h : EvA K t M E M1 [r1, r2]) (k : Nxt K B M1 ((E.set i (some r1)).set j (some r2)) (uv De)) : tSeq (tPar i j t) uv De σ H := s_par (De := { De with nx := uv De }) S h k
/-- for x in xs, xs a cell that holds cells -/
theorem s_forC {tl : TE} {j n : Nat} {js : List Nat} (S : Sta K B F As M σ E H) (ha : EvD K tl M E M1 (.cel n)) (hx : M1[n]? = some (.deep (.lst (js.map Rv.cel)))) (P : Nat → List MC → List (Option Rv) → Prop) (h0 : P 0 M1 E) (keep : ∀ i M E, P i M E → M[n]? = some (.deep (.lst (js.map Rv.cel))))
    (hb : ∀ (B' : Base), Cv K B' B → ∀ (i k : Nat) M E, js[i]? = some k → P i M E → Nxt K B' M (E.set j (some (.cel k))) (uu { De with nx := NxP K B' (P (i + 1)), ct := NxP K B' (P (i + 1)), bk := De.nx }))
    (hd : ∀ M E, P js.length M E → Nxt K B M E De.nx) : tFor (iList K tl) (gName j) uu De σ H :=
  ha B F As σ H S _ fun v F1 As1 H1 S1 _ _ r1 => by
    obtain ⟨a, hA, rfl⟩ := r1
    have rd : ∀ {F2 As2 M2 E2 σ2 H2}, Sta K (B.upA F1 As1) F2 As2 M2 σ2 E2 H2 → M2[n]? = some (.deep (.lst (js.map Rv.cel))) → ∃ ws, H2 a = some (.lst ws) ∧ P2 (RV K F2 As2) (js.map Rv.cel) ws := fun {F2 As2 M2 E2 σ2 H2} S2 hm => by
      obtain ⟨_, o, g2, g3⟩ := S2.cell n a _ (prefix_get S2.pA hA) hm (by intro z; cases z)
      obtain ⟨ws, rfl, g4⟩ := g3
      exact ⟨ws, g2, g4⟩
    obtain ⟨ws, hw, pw⟩ := rd S1.toUpA hx
    have same : ∀ {F2 As2} {zs : List V}, As1 <+: As2 → P2 (RV K F2 As2) (js.map Rv.cel) zs → zs = ws := fun {F2 As2 zs} hp pz => by
      refine List.ext_getElem? fun i => ?_
      cases c : js[i]? with
      | none =>
        have hl := List.getElem?_eq_none_iff.mp c
        rw [List.getElem?_eq_none (by rw [← pz.1, List.length_map]; exact hl), List.getElem?_eq_none (by rw [← pw.1, List.length_map]; exact hl)]
      | some k =>
        have e : (js.map Rv.cel)[i]? = some (.cel k) := by rw [List.getElem?_map, c]; rfl
        obtain ⟨v1, e1, b1, h1, rfl⟩ := pz.get e
        obtain ⟨v2, e2, b2, h2, rfl⟩ := pw.get e
        have := prefix_get hp h2
        rw [h1] at this; cases this
        rw [e1, e2]
    refine ⟨a, rfl, ⟨_, SqL.of hw⟩, for_list (K := K) (a := a) (xs := ws) (fun i => NxP K (B.upA F1 As1) (P i)) ⟨F1, As1, M1, E, S1.toUpA, h0⟩ (fun i σ' H' _ ⟨F2, As2, M2, E2, S2, hP⟩ => ?_) (fun i y σ' H' hi ⟨F2, As2, M2, E2, S2, hP⟩ => ?_) (fun σ' H' ⟨F2, As2, M2, E2, S2, hP⟩ => hd M2 E2 (by rw [← pw.1, List.length_map] at hP; exact hP) _ _ _ _ (S1.ofUpA S2))⟩
    · obtain ⟨zs, h1, h2⟩ := rd S2 (keep i M2 E2 hP)
      rw [same S2.pA h2] at h1
      exact SqL.of h1
    · obtain ⟨r, hr, rv⟩ := pw.flip.get hi
      rw [List.getElem?_map] at hr
      cases c : js[i]? with
      | none => rw [c] at hr; cases hr
      | some k =>
        rw [c] at hr; cases hr
        exact hb (B.upA F1 As1) (fun {F As M σ E H} S' => S1.ofUpA S') i k M2 E2 c hP _ _ _ _ (S2.set (r := .cel k) (rv.mono S2.bF S2.pA))
theorem q_forC {tl : TE} {j n : Nat} {js : List Nat} (S : Sta K B F As M σ E H) (ha : EvD K tl M E M1 (.cel n)) (hx : M1[n]? = some (.deep (.lst (js.map Rv.cel)))) (P : Nat → List MC → List (Option Rv) → Prop) (h0 : P 0 M1 E) (keep : ∀ i M E, P i M E → M[n]? = some (.deep (.lst (js.map Rv.cel))))
    (hb : ∀ (B' : Base), Cv K B' B → ∀ (i k : Nat) M E, js[i]? = some k → P i M E → Nxt K B' M (E.set j (some (.cel k))) (uu { De with nx := NxP K B' (P (i + 1)), ct := NxP K B' (P (i + 1)), bk := uv De }))
    (hd : ∀ M E, P js.length M E → Nxt K B M E (uv De)) : tSeq (tFor (iList K tl) (gName j) uu) uv De σ H := s_forC (De := { De with nx := uv De }) S ha hx P h0 keep hb hd
end
end DL
set_option Elab.async false
set_option linter.all false
set_option maxRecDepth 100000
set_option maxHeartbeats 2000000
/-! DL: an `if` whose branches come to one state; `and` with cells that move. -/
namespace DL
open PySem L2
open Evl (Ex)
section
variable {K : PySem.W.Frag} {B : Base} {F F' F1 H H' H1 : Hp} {As As' As1 : List Addr} {M M0 M1 M2 M3 M' : List MC} {σ : L2.St} {E E2 : List (Option Rv)} {ta tb te : TE} {r x : Rv} {xs rs : List Rv} {b : Bool} {De : Ends} {t1 t2 uv : TS} {c : TT}
theorem q_ifE (M2 : List MC) (E2 : List (Option Rv)) (S : Sta K B F As M σ E H) (h : EvT K c M E M1 b) (h1 : b = true → ∀ De' : Ends, Nxt K B M2 E2 De'.nx → Nxt K B M1 E (t1 De')) (h2 : b = false → ∀ De' : Ends, Nxt K B M2 E2 De'.nx → Nxt K B M1 E (t2 De')) (k : Nxt K B M2 E2 (uv De)) : tSeq (tIfS c t1 t2) uv De σ H :=
  q_if S h (fun hb => h1 hb _ k) (fun hb => h2 hb _ k)
theorem ev_andG {d : Bool} (h1 : EvD K ta M E M1 (rbl b)) (h2 : b = true → EvD K tb M1 E M3 (rbl d)) (h3 : b = false → M1 = M3) : EvD K (tAndV ta tb) M E M3 (rbl (b && d)) := fun B F As σ H S Q q => h1 B F As σ H S _ fun v F1 As1 H1 S1 e1 p1 r1 => ⟨b, R.bl_inv r1, by
  cases b with
  | true => exact h2 rfl B F1 As1 σ H1 S1 Q fun v F2 As2 H2 S2 e2 p2 r2 => q v F2 As2 H2 S2 (e1.trans e2) (p1.trans p2) r2
  | false => exact q _ F1 As1 H1 (h3 rfl ▸ S1) e1 p1 (.bl _)⟩
theorem get_last {α : Type} (xs : List α) (x : α) : (xs ++ [x])[xs.length]? = some x := get_mid xs x []
theorem set_last {α : Type} (xs : List α) (x y : α) : (xs ++ [x]).set xs.length y = xs ++ [y] := set_mid xs x [] y
/-- sorted(xs), to be changed later -/
theorem cd_sortedM {ns : List Int} (h : IsLst M x (ns.map D.int)) : CaD K (rSortedI K) M [x] (M ++ [.lst ((sortI ns).map D.int)]) (.cel M.length) := fun B F As σ E H vs S r1 Q q => by
  obtain ⟨v, rfl, hv⟩ := r1.one
  obtain ⟨a, ws, rfl, ha, pa⟩ := h.view S hv
  refine ⟨a, ns, rfl, SqL.of (by rw [← pa.ints]; exact ha), fun ns' p hp hs hn => ?_⟩
  rw [sortI_unique hp hs]
  have S2 := S.newM (o := .lst ((sortI ns).map V.int)) (mc := .lst ((sortI ns).map D.int)) hn ⟨_, rfl, P2.ofInts _⟩
  exact q _ _ _ _ S2 (Ex.refl F) (List.prefix_append _ _) ⟨p, by rw [List.getElem?_append_right (by rw [S.len]; exact Nat.le_refl _), S.len]; simp, rfl⟩
/-- rows of four numbers -/
def rowD (r : Int × Int × Int × Int) : D := .tup [.int r.1, .int r.2.1, .int r.2.2.1, .int r.2.2.2]
/-- for a, b, c, d in rows -/
theorem s_forT4 {uu : TS} {tl : TE} {i j k l : Nat} {rows : List (Int × Int × Int × Int)} (S : Sta K B F As M σ E H) (ha : EvD K tl M E M1 (.dat (.lst (rows.map rowD)))) (P : Nat → List MC → List (Option Rv) → Prop) (h0 : P 0 M1 E)
    (hb : ∀ (B' : Base), Cv K B' B → ∀ (n : Nat) (r : Int × Int × Int × Int) M E, rows[n]? = some r → P n M E → Nxt K B' M ((((E.set i (some (rint r.1))).set j (some (rint r.2.1))).set k (some (rint r.2.2.1))).set l (some (rint r.2.2.2))) (uu { De with nx := NxP K B' (P (n + 1)), ct := NxP K B' (P (n + 1)), bk := De.nx }))
    (hd : ∀ M E, P rows.length M E → Nxt K B M E De.nx) : tFor (iList K tl) (gTup K 4 (gCons (gName i) (gCons (gName j) (gCons (gName k) (gCons (gName l) gNil))))) uu De σ H :=
  s_forG (st := fun E d E' => ∃ r, d = rowD r ∧ E' = (((E.set i (some (rint r.1))).set j (some (rint r.2.1))).set k (some (rint r.2.2.1))).set l (some (rint r.2.2.2))) S ha (fun {B F As M σ E H d v Q} hm S rd kk => by
    obtain ⟨r, _, rfl⟩ := List.mem_map.mp hm
    obtain ⟨a, vs, rfl, hA, pa⟩ := R.tup_inv rd
    obtain ⟨v1, ws, rfl, r1, pa⟩ := pa.inv_cons
    obtain ⟨v2, ws, rfl, r2, pa⟩ := pa.inv_cons
    obtain ⟨v3, ws, rfl, r3, pa⟩ := pa.inv_cons
    obtain ⟨v4, ws, rfl, r4, pa⟩ := pa.inv_cons
    have := pa.inv_nil; subst this
    exact ⟨a, [v1, v2, v3, v4], rfl, SqT.of (S.ex _ _ hA), rfl, v1, _, rfl, v2, _, rfl, v3, _, rfl, v4, [], rfl, rfl, kk _ _ ⟨r, rfl, rfl⟩ ((((S.set (r := rint r.1) r1).set (r := rint r.2.1) r2).set (r := rint r.2.2.1) r3).set (r := rint r.2.2.2) r4)⟩)
    P h0 (fun B' cv n d M E E' h1 h2 h3 => by
      obtain ⟨r, h4, rfl⟩ := h3
      rw [List.getElem?_map] at h1
      cases c : rows[n]? with
      | none => rw [c] at h1; cases h1
      | some r2 =>
        rw [c] at h1
        have h1 : rowD r2 = d := by injection h1
        have e : r2 = r := by
          rw [h4] at h1
          injection h1 with h1
          injection h1 with a1 h1
          injection h1 with a2 h1
          injection h1 with a3 h1
          injection h1 with a4 h1
          injection a1 with a1
          injection a2 with a2
          injection a3 with a3
          injection a4 with a4
          obtain ⟨b1, b2, b3, b4⟩ := r
          obtain ⟨c1, c2, c3, c4⟩ := r2
          simp only at a1 a2 a3 a4
          rw [a1, a2, a3, a4]
        subst e
        exact hb B' cv n r2 M E c h2) (fun M E h => hd M E (by rw [List.length_map] at h; exact h))
theorem q_forT4 {uu : TS} {tl : TE} {i j k l : Nat} {rows : List (Int × Int × Int × Int)} (S : Sta K B F As M σ E H) (ha : EvD K tl M E M1 (.dat (.lst (rows.map rowD)))) (P : Nat → List MC → List (Option Rv) → Prop) (h0 : P 0 M1 E)
    (hb : ∀ (B' : Base), Cv K B' B → ∀ (n : Nat) (r : Int × Int × Int × Int) M E, rows[n]? = some r → P n M E → Nxt K B' M ((((E.set i (some (rint r.1))).set j (some (rint r.2.1))).set k (some (rint r.2.2.1))).set l (some (rint r.2.2.2))) (uu { De with nx := NxP K B' (P (n + 1)), ct := NxP K B' (P (n + 1)), bk := uv De }))
    (hd : ∀ M E, P rows.length M E → Nxt K B M E (uv De)) : tSeq (tFor (iList K tl) (gTup K 4 (gCons (gName i) (gCons (gName j) (gCons (gName k) (gCons (gName l) gNil))))) uu) uv De σ H := s_forT4 (De := { De with nx := uv De }) S ha P h0 hb hd
end
end DL
set_option Elab.async false
set_option linter.all false
set_option maxRecDepth 100000
set_option maxHeartbeats 4000000
/-! DL: pairs of numbers in a list, a word in a tuple of the module, a < b < c. -/
namespace DL
open PySem L2 PySem.Spec PyProof.Rows
open Evl (Ex)
theorem unit5 {k : Nat} {A : Around} (r : Room k A) : A.units + 65 < cLine := by have := r.un; omega
section
variable {X : Cx} {K : PySem.W.Frag}
theorem op_inDK (hu : X.A.units + 65 < cLine) (hK : X.K = K) : OpR X (compareOp .In) (rInD K) := hK ▸ op_inD hu
theorem op_notInDK (hu : X.A.units + 65 < cLine) (hK : X.K = K) : OpR X (compareOp .NotIn) (rNotInD K) := hK ▸ op_notInD hu
end
theorem eqv_pair (p q : Int × Int) : PyData.eqv (pairP q) (pairP p) = decide (p = q) := by
  obtain ⟨a, b⟩ := p
  obtain ⟨c, d⟩ := q
  show ((c == a) && ((d == b) && true)) = _
  by_cases h : (a, b) = (c, d)
  · cases h; simp
  · rw [decide_eq_false h]
    by_cases h1 : c = a
    · by_cases h2 : d = b
      · exact absurd (by rw [h1, h2]) h
      · rw [beq_eq_false_iff_ne.mpr h2]; simp
    · rw [beq_eq_false_iff_ne.mpr h1]; rfl
theorem any_pair (p : Int × Int) : ∀ cs : List (Int × Int), ((cs.map pairP).any fun z => PyData.eqv z (pairP p)) = decide (p ∈ cs)
  | [] => rfl
  | c :: cs => by
    rw [List.map_cons, List.any_cons, any_pair p cs, eqv_pair]
    by_cases h : p = c
    · rw [decide_eq_true h, decide_eq_true (show p ∈ c :: cs from h ▸ List.mem_cons_self)]; rfl
    · rw [decide_eq_false h, Bool.false_or]
      by_cases g : p ∈ cs
      · rw [decide_eq_true g, decide_eq_true (List.mem_cons_of_mem _ g)]
      · rw [decide_eq_false g, decide_eq_false fun z => by
          rcases List.mem_cons.mp z with z | z
          · exact h z
          · exact g z]
abbrev pairsD (cs : List (Int × Int)) : D := .lst (cs.map pairD)
theorem PyOf.pairs (cs : List (Int × Int)) : PyOf (pairsD cs) (.list (cs.map pairP)) := .lst (by rw [List.length_map, List.length_map]) fun i d e h1 h2 => by
  rw [List.getElem?_map] at h1 h2
  cases c : cs[i]? with
  | none => rw [c] at h1; cases h1
  | some p => rw [c] at h1 h2; cases h1; cases h2; exact PyOf.pair p
theorem pairs_lay : ∀ cs : List (Int × Int), PyData.canLayAll0 (cs.map pairP) = true
  | [] => rfl
  | c :: r => by simp [PyData.canLayAll0, PyData.canLay0, pairs_lay r]
theorem pairs_depth : ∀ cs : List (Int × Int), PyData.depthAll (cs.map pairP) ≤ 1
  | [] => Nat.zero_le _
  | c :: r => by
    have := pairs_depth r
    simp [PyData.depthAll, PyData.depth]
    omega
theorem pairs_shaped (cs : List (Int × Int)) : SeqAt.shaped (.list (cs.map pairP)) = true := by
  have := pairs_depth cs
  simp [SeqAt.shaped, PyData.canLay0, PyData.depth, pairs_lay cs]
  omega
section
variable {K : PySem.W.Frag} {M M1 M2 M3 : List MC} {E : List (Option Rv)} {ta tb tc : TE} {x y z : Rv}
theorem od_inP {p : Int × Int} {cs : List (Int × Int)} : OpD K (rInD K) M (.dat (pairD p)) (.dat (pairsD cs)) M (rbl (decide (p ∈ cs))) := OpD.pure fun B F H As σ E v w S r1 r2 Q q =>
  ⟨pairP p, cs.map pairP, (PyOf.pair p).dp S.ex r1, (PyOf.pairs cs).dp S.ex r2, rfl, pairs_shaped cs, by rw [any_pair]; exact q _ (.bl _)⟩
theorem od_notinP {p : Int × Int} {cs : List (Int × Int)} : OpD K (rNotInD K) M (.dat (pairD p)) (.dat (pairsD cs)) M (rbl (!decide (p ∈ cs))) := OpD.pure fun B F H As σ E v w S r1 r2 Q q =>
  ⟨pairP p, cs.map pairP, (PyOf.pair p).dp S.ex r1, (PyOf.pairs cs).dp S.ex r2, rfl, pairs_shaped cs, by rw [any_pair]; exact q _ (.bl _)⟩
/-- a r b r' c -/
theorem ev_chain3 {r r' : R2} {b c : Bool} (ha : EvD K ta M E M1 x) (hb : EvD K tb M1 E M2 y) (hr : OpD K r M2 x y M2 (rbl b)) (hc : b = true → EvD K tc M2 E M2 z) (hr' : b = true → OpD K r' M2 y z M2 (rbl c)) : EvD K (tChain r r' ta tb tc) M E M2 (rbl (b && c)) := fun B F As σ H S Q q =>
  ha B F As σ H S _ fun v F1 As1 H1 S1 e1 p1 r1 => hb B F1 As1 σ H1 S1 _ fun w F2 As2 H2 S2 e2 p2 r2 =>
    hr B F2 As2 σ E H2 v w S2 (r1.m e2 p2) r2 _ fun u F3 As3 H3 S3 e3 p3 r3 => ⟨b, R.bl_inv r3, by
      cases b with
      | false => exact q _ F3 As3 H3 S3 (e1.trans (e2.trans e3)) (p1.trans (p2.trans p3)) (.bl _)
      | true =>
        rw [if_pos rfl]
        exact hc rfl B F3 As3 σ H3 S3 _ fun u2 F4 As4 H4 S4 e4 p4 r4 => hr' rfl B F4 As4 σ E H4 w u2 S4 ((r2.m e3 p3).m e4 p4) r4 _ fun u5 F5 As5 H5 S5 e5 p5 r5 => q u5 F5 As5 H5 S5 (e1.trans (e2.trans (e3.trans (e4.trans e5)))) (p1.trans (p2.trans (p3.trans (p4.trans p5)))) r5⟩
/-- a tuple of words that the top has written -/
def KTupS (K : PySem.W.Frag) (a : Addr) (ss : List Str) : Prop := ∀ H : Hp, SqT K H a (ss.map V.str)
theorem inV_strs (s : Str) (ss : List Str) : inV (.str s) (ss.map V.str) = decide (s ∈ ss) := by
  unfold inV
  induction ss with
  | nil => rfl
  | cons m ns ih =>
    rw [List.map_cons, List.any_cons, ih]
    show ((m == s) || decide (s ∈ ns)) = decide (s ∈ m :: ns)
    by_cases e : m = s
    · rw [decide_eq_true (show s ∈ m :: ns from e ▸ List.mem_cons_self), beq_iff_eq.mpr e, Bool.true_or]
    · rw [beq_eq_false_iff_ne.mpr e, Bool.false_or]
      by_cases c : s ∈ ns
      · rw [decide_eq_true c, decide_eq_true (List.mem_cons_of_mem _ c)]
      · rw [decide_eq_false c, decide_eq_false (fun z => by
          rcases List.mem_cons.mp z with z | z
          · exact e z.symm
          · exact c z)]
theorem all_flatS (ss : List Str) : (ss.map V.str).all flatV = true := by
  rw [List.all_eq_true]; intro v hv
  obtain ⟨n, _, rfl⟩ := List.mem_map.mp hv
  rfl
theorem ev_notinK {a : Addr} {s : Str} {ss : List Str} (h : KTupS K a ss) (hb : EvD K tb M E M1 (rstr s)) : EvD K (tOp (rIn K true) tb (tC (.ref a))) M E M1 (rbl (!decide (s ∈ ss))) := fun B F As σ H S Q q =>
  hb B F As σ H S _ fun v F1 As1 H1 S1 e1 p1 r1 => ⟨a, ss.map V.str, rfl, .inr (h H1), by rw [R.str_inv r1]; rfl, all_flatS ss, q _ F1 As1 H1 S1 e1 p1 (by
    rw [if_pos rfl, R.str_inv r1, inV_strs]; exact .bl _)⟩
theorem od_neB {i j : Bool} : OpD K rNe M (rbl i) (rbl j) M (rbl (!decide (i = j))) := OpD.pure fun B F H As σ E v w S r1 r2 Q q => by
  cases R.bl_inv r1; cases R.bl_inv r2
  exact ⟨rfl, q _ (by
    show R K F (.bl (!decide (i = j))) (.bl (!decide (V.bl i = V.bl j)))
    rw [show decide (V.bl i = V.bl j) = decide (i = j) by rw [Bool.eq_iff_iff]; simp]; exact .bl _)⟩
/-- [.. for x in xs if t], no turn taken -/
theorem ev_lc0 {tl te : TE} {tt : TT} {j : Nat} {ds : List D} (ha : EvD K tl M E M1 (.dat (.lst ds))) (hn : ds.length ≤ 16777000) (h : ∀ d ∈ ds, EvT K tt M1 (E.set j (some (.dat d))) M1 false) : EvD K (tLc (iList K tl) (gName j) tt te [j]) M E M1 (.dat (.lst [])) := by
  have g := ev_lcL (tt := tt) (te := te) (j := j) (fun _ => M1) (fun _ => false) (fun _ => .non) ha hn rfl fun i d hd => LcT.tested (h d (List.mem_of_getElem? hd)) (fun z => by cases z)
  have e : givD ds.length (fun _ => false) (fun _ => D.non) = [] := by
    unfold givD
    rw [List.filter_eq_nil_iff.mpr (fun _ _ z => by cases z)]
    rfl
  rwa [e] at g
/-- two lists of numbers, compared -/
theorem PyOf.two (as bs : List Int) : PyOf (.tup [.lst (as.map D.int), .lst (bs.map D.int)]) (.tuple [.list (as.map PyData.int), .list (bs.map PyData.int)]) := .tup rfl fun i d e a b => by
  match i, a, b with
  | 0, a, b => cases a; cases b; exact PyOf.ints _
  | 1, a, b => cases a; cases b; exact PyOf.ints _
  | i + 2, a, b => simp at a
theorem two_shaped (as bs : List Int) : SeqAt.shaped (.tuple [.list (as.map PyData.int), .list (bs.map PyData.int)]) = true := by
  simp [SeqAt.shaped, PyData.canLayAll0, PyData.canLay0, PyData.depth, PyData.depthAll, PySem.W.ke_canLayAll0, PySem.W.ke_depthAll]
theorem od_eqT2 {as bs cs ds : List Int} : OpD K (rEqD K) M (.dat (.tup [.lst (as.map D.int), .lst (bs.map D.int)])) (.dat (.tup [.lst (cs.map D.int), .lst (ds.map D.int)])) M (rbl (decide ((as, bs) = (cs, ds)))) := OpD.pure fun B F H As σ E v w S r1 r2 Q q =>
  ⟨_, _, (PyOf.two as bs).dp S.ex r1, (PyOf.two cs ds).dp S.ex r2, two_shaped _ _, two_shaped _ _, by
    have e : PyData.eqv (.tuple [.list (as.map PyData.int), .list (bs.map PyData.int)]) (.tuple [.list (cs.map PyData.int), .list (ds.map PyData.int)]) = decide ((as, bs) = (cs, ds)) := by
      show (PyData.eqv (.list _) (.list _) && (PyData.eqv (.list _) (.list _) && true)) = _
      rw [eqv_ints, eqv_ints]
      by_cases c1 : as = cs <;> by_cases c2 : bs = ds <;> simp [c1, c2]
    rw [e]; exact q _ (.bl _)⟩
end
end DL
set_option Elab.async false
set_option linter.all false
set_option maxRecDepth 100000
set_option maxHeartbeats 4000000
/-! DL: list(range(a, -1, -1)). -/
namespace DL
open PySem L2 PySem.Spec PyProof.Rows
open Evl (Ex)
section
variable {K : PySem.W.Frag} {M M1 : List MC} {E : List (Option Rv)} {t : TA}
theorem ev_listDown {a : Int} (ha : EvA K t M E M1 [rint a, rint (-1), rint (-1)]) (h0 : 0 ≤ a ∧ a ≤ 1000000) : EvD K (tLstRg3 t) M E M1 (rints ((List.range (a + 1).toNat).map fun (k : Nat) => a - (k : Int))) := fun B F As σ H S Q q =>
  ha B F As σ H S _ fun vs F1 As1 H1 S1 e1 p1 r1 => by
    obtain ⟨v1, ws, rfl, h1, r1⟩ := r1.inv_cons
    obtain ⟨v2, v3, rfl, h2, h3⟩ := r1.two
    cases R.int_inv h1; cases R.int_inv h2; cases R.int_inv h3
    refine ⟨a, -1, -1, (a - -1).toNat, rfl, RgC.neg (by omega) (by omega) (by omega) (by omega), by omega, fun p hp => ?_⟩
    have e : stV a (-1) (a - -1).toNat = ((List.range (a + 1).toNat).map fun (k : Nat) => a - (k : Int)).map V.int := by
      unfold stV
      rw [List.map_map, show (a - -1).toNat = (a + 1).toNat by omega]
      refine List.map_congr_left fun k _ => ?_
      show V.int (a + (k : Int) * -1) = V.int (a - (k : Int))
      congr 1
      omega
    rw [e]
    exact ev_lstNew S1 hp (P2.ofInts _) fun u F' As' H' S' e' p' r' => q u F' As' H' S' (e1.trans e') (p1.trans p') r'
end
end DL
set_option Elab.async false
set_option linter.all false
set_option maxRecDepth 100000
set_option maxHeartbeats 4000000
/-! DL: xs.remove(n), xs a cell of numbers. -/
namespace DL
open PySem L2 PySem.Spec PyProof.Rows
open Evl (Ex)
/-- the row without its first n -/
def remI (n : Int) (ns : List Int) : List Int := ns.eraseIdx (idxI n ns)
theorem remI_perm {n : Int} {ns : List Int} (h : n ∈ ns) : (n :: remI n ns).Perm ns := by
  obtain ⟨h1, h2, _⟩ := idxI_at h
  have e : ∀ (ls : List Int) (j : Nat) (h : j < ls.length), (ls[j] :: ls.eraseIdx j).Perm ls := fun ls => by
    induction ls with
    | nil => intro j h; cases h
    | cons x ls ih =>
      intro j h
      cases j with
      | zero => exact List.Perm.refl _
      | succ j =>
        have hj : j < ls.length := by simpa using h
        show (ls[j]'hj :: x :: ls.eraseIdx j).Perm (x :: ls)
        exact (List.Perm.swap x (ls[j]'hj) _).trans ((ih j hj).cons x)
  have g := e ns _ h2
  rw [List.getElem?_eq_getElem h2] at h1
  rw [Option.some.inj h1] at g
  exact g
theorem eraseIdx_mapI : ∀ (ls : List Int) (j : Nat), (ls.map D.int).eraseIdx j = (ls.eraseIdx j).map D.int
  | [], _ => rfl
  | _ :: _, 0 => rfl
  | x :: ls, j + 1 => by
    show D.int x :: (ls.map D.int).eraseIdx j = D.int x :: (ls.eraseIdx j).map D.int
    rw [eraseIdx_mapI ls j]
section
variable {K : PySem.W.Frag} {B : Base} {F F' H H' : Hp} {As As' : List Addr} {M M1 M2 : List MC} {σ : L2.St} {E : List (Option Rv)} {ta te : TE} {De : Ends} {uv : TS}
theorem s_remI {k : Nat} {ns : List Int} {ds : List DL.D} {e : Int} (S : Sta K B F As M σ E H) (ho : EvD K ta M E M1 (.cel k)) (h : EvD K te M1 E M2 (rint e)) (hk1 : M1[k]? = some (.lst ds)) (hk : M2[k]? = some (.lst (ns.map DL.D.int))) (hm : e ∈ ns)
    (kk : Nxt K B (M2.set k (.lst ((remI e ns).map DL.D.int))) E De.nx) : tDrop (tBM K "list" rRemI ta (tCons te tNil)) De σ H :=
  ho B F As σ H S _ fun v F1 As1 H1 S1 e1 p1 r1 => by
    obtain ⟨a, hA, rfl⟩ := r1
    obtain ⟨_, o, ho1, vs1, rfl, pa1⟩ := S1.cell k a _ hA hk1 (by intro z; cases z)
    refine ⟨.inl ⟨rfl, _, SqL.of ho1⟩, h B F1 As1 σ H1 S1 _ fun v2 F2 As2 H2 S2 e2 p2 r2 => ?_⟩
    have hA := prefix_get p2 hA
    obtain ⟨_, o, ho, vs, rfl, pa⟩ := S2.cell k a _ hA hk (by intro z; cases z)
    cases R.int_inv r2
    have ev := P2.ints pa
    subst ev
    obtain ⟨i1, i2, i3⟩ := idxI_at hm
    exact ⟨a, ns, e, idxI e ns, rfl, rfl, ho, i1, fun m q => i3 m q, kk _ _ _ _ (S2.chg hA hk (by intro z; cases z) ⟨_, rfl, P2.ofInts _⟩)⟩
theorem q_remI {k : Nat} {ns : List Int} {ds : List DL.D} {e : Int} (S : Sta K B F As M σ E H) (ho : EvD K ta M E M1 (.cel k)) (h : EvD K te M1 E M2 (rint e)) (hk1 : M1[k]? = some (.lst ds)) (hk : M2[k]? = some (.lst (ns.map DL.D.int))) (hm : e ∈ ns)
    (kk : Nxt K B (M2.set k (.lst ((remI e ns).map DL.D.int))) E (uv De)) : tSeq (tDrop (tBM K "list" rRemI ta (tCons te tNil))) uv De σ H := s_remI (De := { De with nx := uv De }) S ho h hk1 hk hm kk
end
end DL
set_option Elab.async false
set_option linter.all false
set_option maxRecDepth 100000
set_option maxHeartbeats 4000000
/-! DL: sorted(xs, reverse=True). -/
namespace DL
open PySem L2 PySem.Spec PyProof.Rows
open Evl (Ex)
theorem cr_sortedRevK {X : Cx} {K : PySem.W.Frag} {b : Bool} (hK : X.K = K) : CallRK X (.builtin "sorted") [Str.ofString "reverse"] (rSortedKw K b [.bl b]) := hK ▸ cr_sortedRev
def sortD (ns : List Int) : List Int := (sortI ns).reverse
theorem sortD_perm (ns : List Int) : (sortD ns).Perm ns := (List.reverse_perm _).trans (sortI_perm ns)
theorem sortD_pair (ns : List Int) : (sortD ns).Pairwise (· ≥ ·) := List.pairwise_reverse.mpr (sortI_pair ns)
theorem sortD_unique {ms ns : List Int} (h : ms.Perm ns) (p : ms.Pairwise (· ≥ ·)) : ms = sortD ns := (h.trans (sortD_perm ns).symm).eq_of_pairwise (fun x y _ _ h1 h2 => Int.le_antisymm h2 h1) p (sortD_pair ns)
theorem sortD_length (ns : List Int) : (sortD ns).length = ns.length := (sortD_perm ns).length_eq
section
variable {K : PySem.W.Frag} {M M1 M2 : List MC} {E : List (Option Rv)} {ta tk : TA} {x : Rv}
theorem ev_sortRev {ns : List Int} (ha : EvA K ta M E M1 [x]) (hk : EvA K tk M1 E M2 [rbl true]) (hx : IsLst M2 x (ns.map D.int)) : EvD K (tCKw (rSortedKw K true [.bl true]) ta tk) M E M2 (rints (sortD ns)) := fun B F As σ H S Q q =>
  ha B F As σ H S _ fun vs F1 As1 H1 S1 e1 p1 r1 => hk B F1 As1 σ H1 S1 _ fun zs F2 As2 H2 S2 e2 p2 r2 => by
    obtain ⟨v, rfl, hv⟩ := r1.one
    obtain ⟨u, rfl, hu⟩ := r2.one
    cases R.bl_inv hu
    obtain ⟨a, ws, rfl, hA, pa⟩ := hx.view S2 (hv.m e2 p2)
    refine ⟨a, ns, rfl, rfl, SqL.of (by rw [← pa.ints]; exact hA), fun ns' p hp hs hn => ?_⟩
    rw [sortD_unique hp hs]
    exact ev_lstNew S2 hn (P2.ofInts _) fun w F' As' H' S' e' p' r' => q w F' As' H' S' (e1.trans (e2.trans e')) (p1.trans (p2.trans p')) r'
end
end DL
set_option Elab.async false
set_option linter.all false
set_option maxRecDepth 100000
set_option maxHeartbeats 4000000
/-! DL: new lists to be changed later: list(range(a, b)), [e for x in xs]. -/
namespace DL
open PySem L2 PySem.Spec PyProof.Rows
open Evl (Ex)
section
variable {K : PySem.W.Frag} {M M1 M2 : List MC} {E : List (Option Rv)} {ta tb te : TE}
theorem ev_lstNewM {B : Base} {F H : Hp} {As : List Addr} {σ : L2.St} {ds : List D} {vs : List V} {p : Addr} (S : Sta K B F As M σ E H) (hp : H p = none) (h : P2 (R K F) ds vs) {Q : VK} (q : ∀ u F' As' H', Sta K B F' As' (M ++ [.lst ds]) σ E H' → Ex F F' → As <+: As' → RV K F' As' (.cel M.length) u → Q u H') : Q (.ref p) (upd H p (.lst vs)) := by
  have S2 := S.newM (o := .lst vs) (mc := .lst ds) hp ⟨vs, rfl, h⟩
  exact q _ _ _ _ S2 (Ex.refl F) (List.prefix_append _ _) ⟨p, by rw [List.getElem?_append_right (by rw [S.len]; exact Nat.le_refl _), S.len]; simp, rfl⟩
theorem ev_listRg2M {a b : Int} (ha : EvD K ta M E M1 (rint a)) (hb : EvD K tb M1 E M2 (rint b)) (h : RgOk a b) : EvD K (tLstRg (tRg2 ta tb)) M E (M2 ++ [.lst ((rgD a b).map D.int)]) (.cel M2.length) := fun B F As σ H S Q q =>
  ha B F As σ H S _ fun v F1 As1 H1 S1 e1 p1 r1 => hb B F1 As1 σ H1 S1 _ fun w F2 As2 H2 S2 e2 p2 r2 => by
    cases R.int_inv r1; cases R.int_inv r2
    refine ⟨a, b, rfl, rfl, h, fun p hp => ?_⟩
    have e : rgV a b = (rgD a b).map V.int := by
      unfold rgV rgD
      rw [List.map_map]; rfl
    rw [e]
    exact ev_lstNewM S2 hp (P2.ofInts _) fun u F' As' H' S' e' p' r' => q u F' As' H' S' ((e1.trans e2).trans e') ((p1.trans p2).trans p') r'
/-- [e for x in xs], xs data, the list to be changed later -/
theorem ev_lcLDM {tl : TE} {j : Nat} {ds : List D} (f : Nat → D) (ha : EvD K tl M E M1 (.dat (.lst ds))) (hn : ds.length ≤ 16777000)
    (he : ∀ (i : Nat) (d : D), ds[i]? = some d → EvD K te M1 (E.set j (some (.dat d))) M1 (.dat (f i))) :
    EvD K (tLc (iList K tl) (gName j) tYes te [j]) M E (M1 ++ [.lst ((List.range ds.length).map f)]) (.cel M1.length) := fun B F As σ H S Q q =>
  ha B F As σ H S _ fun w F1 As1 H1 S1 e1 p1 r1 => by
    obtain ⟨a, ws, rfl, hA, pa⟩ := R.lst_inv r1
    refine ⟨a, rfl, ⟨ws, SqL.of (S1.ex _ _ hA)⟩, fun p hp => lc_list (K := K) (a := a) (xs := ws) (LcW K F1 H1 As1 (fun _ => M1) (fun _ => true) f σ E p) (lcw_start S1 hp rfl) (fun i H' _ ⟨F', As', acc, S', _⟩ => SqL.of (S'.ex _ _ (S'.bF _ _ hA))) (fun i x H' hi h => ?_) fun H' h => ?_⟩
    · obtain ⟨d, hd, rd⟩ := pa.flip.get hi
      obtain ⟨Mt, h1, h2, h3⟩ := LcT.plain (te := te) (v := f) (he i d hd)
      have hil := (List.getElem?_eq_some_iff.mp hd).1
      exact ⟨wipe_one σ j _, lcw_turn h (by omega) (fun F' eF As' _ hE => hE.setW (r := .dat d) (R.mono rd eF)) h1 h2 h3⟩
    · rw [← pa.1] at h
      refine lcw_doneM S1 hp h fun u F' As' H' S' e' p' r' => ?_
      rw [givD_all] at S'
      exact q u F' As' H' S' (e1.trans e') (p1.trans p') r'
/-! ### cuts of lists -/
theorem cut_take {α : Type} {xs : List α} {k : Nat} (h : k ≤ xs.length) : cutD xs none (some (k : Int)) = xs.take k := by
  have e1 : HT.sIx xs.length 0 none = 0 := rfl
  have e2 : HT.sIx xs.length xs.length (some (k : Int)) = k := by
    simp only [HT.sIx]
    split <;> omega
  unfold cutD
  rw [e1, e2, List.drop_zero]; rfl
theorem cut_drop {α : Type} {xs : List α} {k : Nat} (h : k ≤ xs.length) : cutD xs (some (k : Int)) none = xs.drop k := by
  have e1 : HT.sIx xs.length 0 (some (k : Int)) = k := by
    simp only [HT.sIx]
    split <;> omega
  have e2 : HT.sIx xs.length xs.length none = xs.length := rfl
  unfold cutD
  rw [e1, e2, List.take_of_length_le (by rw [List.length_drop]; omega)]
end
end DL
set_option Elab.async false
set_option linter.all false
set_option maxRecDepth 100000
set_option maxHeartbeats 4000000
/-! DL: except suites of any statements; xs.pop(); xs + ys to be changed later; a list in a list of lists. -/
namespace DL
open PySem L2 PySem.Spec PyProof.Rows
open Evl (Ex)
/-- a suite, whatever object the error is -/
def tSuite (cw : Value) (od : Option Addr) (T : Obj → TS) : TS := fun De σ H => ∀ ob : Obj, L2N.Zn cw od ob → (∃ fv, ob.data = .fields fv) → T ob De σ H
theorem pss_suite {X : Cx} {sts : List Stmt} {cw : Value} {od : Option Addr} {ob : Obj} {T : Obj → TS} (hz : L2N.Zn cw od ob) (hfv : ∃ fv, ob.data = .fields fv) (h : PSs X sts (T ob)) : PSs X sts (tSuite cw od T) := ⟨fun pins s σ H De I w => h.run pins s σ H De I (w ob hz hfv)⟩
theorem pe_errFK {X : Cx} {K : PySem.W.Frag} {W : Addr → Obj → Hp → Prop} {e : Expr} {te : TE} {pos : Pos} {nm : Str} (hK : X.K = K) (hW : Stands X W) (he : PE X e te) (hb : attributeBase e nm X.env (eval e X.env) = eval e X.env := by rfl) : PE X (.Attribute e nm pos) (tErrF K W nm te) := hK ▸ pe_errF hW he hb
theorem call_isErrK {X : Cx} {K : PySem.W.Frag} {W : Addr → Obj → Hp → Prop} (hK : X.K = K) (hW : Stands X W) : CallR X (.builtin "isinstance") (rIsErr K W) := hK ▸ call_isErr hW
/-- a clause whose suite is of any statements -/
theorem Clauses.consT {X : Cx} {x nm : Str} {cv : Value} {ix : Nat} {T : Addr → Obj → Value → Option Addr → TS} {st0 : Stmt} {sts : List Stmt} {np ps : Pos} {hds : List ExceptHandler} {cls : List (Value × Nat × (Addr → Value → Option Addr → TS))}
    (hnm : Names X x cv) (hix : X.N[ix]? = some nm) (hlo : X.env.kindOf nm = some .local)
    (hts : ∀ (a : Addr) (ob : Obj) (cw : Value) (dd : Option Addr) (pn : List (Addr × Obj)), L2N.Zn cw dd ob → (∃ fv, ob.data = .fields fv) → X.base.get? a = none → a ∉ frs X.stack → PSs (X.suite a ((a, ob) :: pn)) (st0 :: sts) (T a ob cw dd))
    (rest : Clauses X hds cls) : Clauses X (.ExceptHandler (some (.Name x np)) (some nm) (st0 :: sts) ps :: hds) ((cv, ix, fun a cw dd => tSuite cw dd fun ob => T a ob cw dd) :: cls) :=
  .cons hnm hix hlo (fun a ob cw dd pn hz hfv h1 h2 => pss_suite (T := fun ob => T a ob cw dd) hz hfv (hts a ob cw dd pn hz hfv h1 h2)) rest
section
variable {K : PySem.W.Frag} {B : Base} {F F1 H H1 : Hp} {As : List Addr} {M M1 M2 : List MC} {σ : L2.St} {E : List (Option Rv)} {ta tb te : TE} {x y r : Rv} {De : Ends} {C : Addr} {fs : List (Str × D)}
theorem s_suite {T : Obj → TS} {i : Nat} {a dd : Addr} {ws : List (Str × V)} (S : Sta K B F As M σ E H) (hi : i < E.length) (hdd : H dd = none) (hp : PK (R K F) fs ws) (hE : ExcC K C)
    (k : ∀ ob, Nxt K B M (E.set i (some (.dat (.err a ob C fs)))) (T ob De)) : tSuite (.ref C) (some dd) T De (σ.set i (some (.ref a))) (upd H dd (.xd ws)) := fun ob hz hfv => by
  obtain ⟨S1, e1⟩ := S.newF (o := .xd ws) hdd
  have hil : i < σ.length := by rw [← S.slots.1]; exact hi
  have ner : R K (upd F dd (.xd ws)) (.err a ob C fs) (.ref a) := .err ⟨⟨hz.1, rfl⟩, hfv, hE, dd, hz.2.1, upd_same⟩ hp.keys fun j p q g1 g2 => R.mono (hp.2 j p q g1 g2).2 e1
  exact k ob _ _ _ _ (S1.set (r := .dat (.err a ob C fs)) ner)
/-- behind a suite the name is gone -/
theorem Sta.unset (S : Sta K B F As M σ E H) (i : Nat) : Sta K B F As M (σ.set i none) (E.set i none) H := { S with slots := ⟨by rw [List.length_set, List.length_set]; exact S.slots.1, fun j r g => by
  by_cases e : i = j
  · subst e
    by_cases hi : i < E.length
    · rw [List.getElem?_set_self hi] at g; cases g
    · rw [List.getElem?_eq_none (by rw [List.length_set]; omega)] at g; cases g
  · rw [List.getElem?_set_ne e] at g
    obtain ⟨w, hw, rw_⟩ := S.slots.2 j r g
    exact ⟨w, by rw [List.getElem?_set_ne e]; exact hw, rw_⟩⟩ }
theorem s_leave {i : Nat} {P : L2.St → Hp → Prop} (S : Sta K B F As M σ E H) (k : Nxt K B M (E.set i none) P) : P (σ.set i none) H := k _ _ _ _ (S.unset i)
theorem s_brk (S : Sta K B F As M σ E H) (k : Nxt K B M E De.bk) : tBreak De σ H := k _ _ _ _ S
theorem s_cnt (S : Sta K B F As M σ E H) (k : Nxt K B M E De.ct) : tCont De σ H := k _ _ _ _ S
/-- xs.pop(), xs a cell -/
theorem ev_pop {k : Nat} {ds : List D} {d : D} (ho : EvD K ta M E M1 (.cel k)) (hk : M1[k]? = some (.lst ds)) (hd : ds[ds.length - 1]? = some d) :
    EvD K (tBM K "list" rPop ta tNil) M E (M1.set k (.lst ds.dropLast)) (.dat d) := fun B F As σ H S Q q =>
  ho B F As σ H S _ fun v F1 As1 H1 S1 e1 p1 r1 => by
    obtain ⟨a, hA, rfl⟩ := r1
    obtain ⟨_, o, ho1, vs, rfl, pa⟩ := S1.cell k a _ hA hk (by intro z; cases z)
    obtain ⟨v, hv, rv⟩ := pa.get hd
    have hx : ds.length = vs.length := pa.1
    rw [hx] at hv
    have pd : P2 (R K F1) ds.dropLast vs.dropLast := by
      rw [List.dropLast_eq_take, List.dropLast_eq_take, hx]
      exact pa.take _
    exact ⟨.inl ⟨rfl, _, SqL.of ho1⟩, a, vs, v, rfl, rfl, ho1, hv, q v _ _ _ (S1.chg hA hk (by intro z; cases z) ⟨_, rfl, pd⟩) e1 p1 rv⟩
theorem od_catM {ds es : List D} (h1 : IsLst M x ds) (h2 : IsLst M y es) (hl : ds.length + es.length ≤ 16777216) : OpD K rCat M x y (M ++ [.lst (ds ++ es)]) (.cel M.length) := fun B F As σ E H v w S r1 r2 Q q => by
  obtain ⟨a, vs, rfl, ha, pa⟩ := h1.view S r1
  obtain ⟨c, ws, rfl, hc, pc⟩ := h2.view S r2
  exact ⟨a, c, vs, ws, rfl, rfl, ha, hc, sz (by rw [← pa.1, ← pc.1]; exact hl), fun p hp => ev_lstNewM S hp (pa.append pc) q⟩
theorem any_rows (ns : List Int) : ∀ rows : List (List Int), ((rows.map fun r => PyData.list (r.map PyData.int)).any fun z => PyData.eqv z (.list (ns.map PyData.int))) = decide (ns ∈ rows)
  | [] => rfl
  | r :: rows => by
    rw [List.map_cons, List.any_cons, any_rows ns rows, eqv_ints]
    by_cases h : ns = r
    · rw [decide_eq_true h.symm, decide_eq_true (show ns ∈ r :: rows from h ▸ List.mem_cons_self)]; rfl
    · rw [decide_eq_false (fun z => h z.symm), Bool.false_or]
      by_cases g : ns ∈ rows
      · rw [decide_eq_true g, decide_eq_true (List.mem_cons_of_mem _ g)]
      · rw [decide_eq_false g, decide_eq_false fun z => by
          rcases List.mem_cons.mp z with z | z
          · exact h z
          · exact g z]
theorem od_notinR {ns : List Int} {rows : List (List Int)} (h : IsLst M y (rows.map fun r => D.lst (r.map D.int))) : OpD K (rNotInD K) M (rints ns) y M (rbl (!decide (ns ∈ rows))) := OpD.pure fun B F H As σ E v w S r1 r2 Q q => by
  obtain ⟨a, vs, rfl, ha, pa⟩ := h.view S r2
  have rH : R K H (rowsD rows) (.ref a) := R.lst' ha (pa.imp fun _ _ z => R.mono z S.ex)
  exact ⟨.list (ns.map PyData.int), rows.map fun r => PyData.list (r.map PyData.int), (PyOf.ints ns).dp S.ex r1, (PyOf.rows rows).dp (Ex.refl H) rH, PySem.W.ke_shaped_ints _, rows_shaped rows, by rw [any_rows]; exact q _ (.bl _)⟩
/-- for x in xs, xs data; the loop's base is the def's, but for what was frozen before -/
theorem s_forLB {D : Ends} {u : TS} {tl : TE} {j : Nat} {ds : List DL.D} (S : Sta K B F As M σ E H) (ha : EvD K tl M E M1 (.dat (.lst ds))) (P : Nat → List MC → List (Option Rv) → Prop) (h0 : P 0 M1 E)
    (hb : ∀ (G : Hp), Cv K (B.up G) B → ∀ (i : Nat) (d : DL.D) M E, ds[i]? = some d → P i M E → Nxt K (B.up G) M (E.set j (some (.dat d))) (u { D with nx := NxP K (B.up G) (P (i + 1)), ct := NxP K (B.up G) (P (i + 1)), bk := D.nx }))
    (hd : ∀ M E, P ds.length M E → Nxt K B M E D.nx) : tFor (iList K tl) (gName j) u D σ H :=
  ha B F As σ H S _ fun vs F1 As1 H1 S1 _ _ r1 => by
    obtain ⟨a, ws, rfl, hA, pa⟩ := R.lst_inv r1
    refine ⟨a, rfl, ⟨ws, SqL.of (S1.ex _ _ hA)⟩, for_list (K := K) (a := a) (xs := ws) (fun i => NxP K (B.up F1) (P i)) ⟨F1, As1, M1, E, S1.toUp, h0⟩ (fun i σ' H' _ ⟨F2, As2, M2, E2, S2, hP⟩ => SqL.of (S2.ex _ _ (S2.bF _ _ hA))) (fun i x σ' H' hi ⟨F2, As2, M2, E2, S2, hP⟩ => ?_) (fun σ' H' ⟨F2, As2, M2, E2, S2, hP⟩ => hd M2 E2 (by rw [pa.1]; exact hP) _ _ _ _ (S1.ofUp S2))⟩
    obtain ⟨d, hd, rd⟩ := pa.flip.get hi
    exact hb F1 (fun S => S1.ofUp S) i d M2 E2 hd hP _ _ _ _ (S2.set (r := .dat d) (R.mono rd S2.bF))
theorem q_forLB {D : Ends} {u u' : TS} {tl : TE} {j : Nat} {ds : List DL.D} (S : Sta K B F As M σ E H) (ha : EvD K tl M E M1 (.dat (.lst ds))) (P : Nat → List MC → List (Option Rv) → Prop) (h0 : P 0 M1 E)
    (hb : ∀ (G : Hp), Cv K (B.up G) B → ∀ (i : Nat) (d : DL.D) M E, ds[i]? = some d → P i M E → Nxt K (B.up G) M (E.set j (some (.dat d))) (u { D with nx := NxP K (B.up G) (P (i + 1)), ct := NxP K (B.up G) (P (i + 1)), bk := u' D }))
    (hd : ∀ M E, P ds.length M E → Nxt K B M E (u' D)) : tSeq (tFor (iList K tl) (gName j) u) u' D σ H := s_forLB (D := { D with nx := u' D }) S ha P h0 hb hd
end
end DL
set_option Elab.async false
set_option linter.all false
set_option maxRecDepth 100000
set_option maxHeartbeats 4000000
/-! DL: shifts and odd numbers; a comprehension over a cell of numbers; lists of numbers that differ. -/
namespace DL
open PySem L2 PySem.Spec PyProof.Rows
open Evl (Ex)
section
variable {K : PySem.W.Frag} {M M1 M2 : List MC} {E : List (Option Rv)} {tl te : TE} {tt : TT} {x y : Rv} {j : Nat}
theorem od_shl1 {k : Nat} (h : k ≤ 134217727) : OpD K (fun x y H Q => ∃ k : Nat, x = .int 1 ∧ y = .int (k : Int) ∧ k ≤ 134217727 ∧ Q (.int (2 ^ k)) H) M (rint 1) (rint (k : Int)) M (rint ((2 ^ k : Nat) : Int)) := OpD.pure fun B F H As σ E v w S r1 r2 Q q => by
  cases R.int_inv r1; cases R.int_inv r2
  refine ⟨k, rfl, rfl, h, ?_⟩
  have e : ((2 ^ k : Nat) : Int) = 2 ^ k := by rw [Int.natCast_pow]; rfl
  rw [← e]
  exact q _ (.int _)
theorem od_odd {n : Nat} : OpD K (fun x y H Q => ∃ n : Nat, x = .int (n : Int) ∧ y = .int 1 ∧ Q (.int ((n % 2 : Nat) : Int)) H) M (rint (n : Int)) (rint 1) M (rint ((n % 2 : Nat) : Int)) := OpD.pure fun B F H As σ E v w S r1 r2 Q q => by
  cases R.int_inv r1; cases R.int_inv r2
  exact ⟨n, rfl, rfl, q _ (.int _)⟩
/-- [e for x in xs if t], xs a list of numbers, data or a cell -/
theorem ev_lcCI {ns : List Int} (p : Int → Bool) (f : Int → D) (ha : EvD K tl M E M1 x) (hx : IsLst M1 x (ns.map D.int)) (hn : ns.length ≤ 16777000)
    (ht : ∀ n ∈ ns, EvT K tt M1 (E.set j (some (rint n))) M1 (p n)) (he : ∀ n ∈ ns, p n = true → EvD K te M1 (E.set j (some (rint n))) M1 (.dat (f n))) :
    EvD K (tLc (iList K tl) (gName j) tt te [j]) M E M1 (.dat (.lst ((ns.filter p).map f))) := fun B F As σ H S Q q =>
  ha B F As σ H S _ fun v F1 As1 H1 S1 e1 p1 r1 => by
    obtain ⟨a, ws, rfl, hA, pa⟩ := hx.view S1 r1
    have ew := P2.ints pa
    subst ew
    refine ⟨a, rfl, ⟨_, SqL.of hA⟩, fun p0 hp => lc_list (K := K) (a := a) (xs := ns.map V.int) (LcW K F1 H1 As1 (fun _ => M1) (fun i => p (gI ns (i : Nat))) (fun i => f (gI ns (i : Nat))) σ E p0) (lcw_start S1 hp rfl) (fun i H' _ ⟨F', As', acc, S', hF, hA', hpre, _⟩ => ?_) (fun i y H' hi h => ?_) fun H' h => ?_⟩
    · obtain ⟨b, zs, e, hb2, pz⟩ := hx.view S' (r1.mono S'.bF hpre)
      have e : a = b := by injection e
      subst e
      rw [P2.ints pz] at hb2
      exact SqL.of hb2
    · rw [List.getElem?_map] at hi
      cases c : ns[i]? with
      | none => rw [c] at hi; cases hi
      | some n =>
        rw [c] at hi; cases hi
        have hm := List.mem_of_getElem? c
        have eg : gI ns (i : Nat) = n := by
          unfold gI
          rw [Int.toNat_natCast, List.getD_eq_getElem?_getD, c]; rfl
        have hil := (List.getElem?_eq_some_iff.mp c).1
        obtain ⟨Mt, h1, h2, h3⟩ := LcT.tested (f := fun i => p (gI ns (i : Nat))) (v := fun i => f (gI ns (i : Nat))) (i := i) (by rw [eg]; exact ht n hm) (by rw [eg]; exact he n hm)
        exact ⟨wipe_one σ j _, lcw_turn h (by omega) (fun F' eF As' _ hE => hE.setW (r := rint n) (.int n)) h1 h2 h3⟩
    · rw [List.length_map] at h
      refine lcw_done S1 hp h fun u F' As' H' S' e' p' r' => ?_
      rw [givD_list] at r'
      exact q u F' As' H' S' (e1.trans e') (p1.trans p') r'
theorem od_neLI {ns ms : List Int} (h1 : IsLst M x (ns.map D.int)) (h2 : IsLst M y (ms.map D.int)) : OpD K (rNeD K) M x y M (rbl (!decide (ns = ms))) := OpD.pure fun B F H As σ E v w S r1 r2 Q q => by
  obtain ⟨a, vs, rfl, ha, pa⟩ := h1.view S r1
  obtain ⟨b, ws, rfl, hb, pb⟩ := h2.view S r2
  have ra : R K H (dints ns) (.ref a) := R.lst' ha (pa.imp fun _ _ z => R.mono z S.ex)
  have rb : R K H (dints ms) (.ref b) := R.lst' hb (pb.imp fun _ _ z => R.mono z S.ex)
  exact ⟨_, _, (PyOf.ints ns).dp (Ex.refl H) ra, (PyOf.ints ms).dp (Ex.refl H) rb, PySem.W.ke_shaped_ints _, PySem.W.ke_shaped_ints _, by rw [eqv_ints]; exact q _ (.bl _)⟩
end
end DL
set_option Elab.async false
set_option linter.all false
set_option maxRecDepth 100000
set_option maxHeartbeats 4000000
/-! DL: sorted(set(xs)) of a list of numbers. -/
namespace DL
open PySem L2 PySem.Spec PyProof.Rows
section
variable {P : Program} {w : World} {A : Around} {E : Value → Shared → Prop} {s : Shared}
/-- the new set's object -/
def newSet (w : World) : Obj := { cls := .type "set", dict := none, data := .set #[] 0 (.fresh 0 0 (!w.params.followText "set-order")) }
set_option maxHeartbeats 3200000 in
/-- set(xs), xs a list of numbers (the tuple's road, L2.call_set_tupI, taken over a list) -/
theorem call_set_ints {l : Addr} {items : Array Value} (ns : List Int) {Q : Value → Shared → Prop} (hh : A.handled = none) (hl : s.heap.IsList l items) (hit : IntsAre items.toList ns) (hb : ns.length + 1 < scanBound)
    (h : ∀ (h' : Heap) (tk c : Nat), SetR w h' s.heap.objs.size (fun j => decide (j ∈ ns)) c → c ≤ ns.length → (∀ b o, s.heap.get? b = some o → h'.get? b = some o) → Q (.ref s.heap.objs.size) { s with heap := h', toks := tk }) :
    wpAny (model P w) A (call (.type "set") [.ref l]) Q E s := by
  have hsz : items.size = ns.length := by rw [← Array.length_toList]; exact IntsAre.length hit
  obtain ⟨c, tl, hmro⟩ := F.called_set.mro
  have hmade := F.called_set.made
  have hsub := F.called_set.sub
  have h1 := F.called_set.notType
  have h2 := F.called_set.canCreate
  have hct := F.typeCall_set_1 (.ref l)
  refine wpAny_call (codeAny_of_tree ?_)
  show wpAny _ _ (callAny (.type "set") _) _ _ _
  refine wpAny_pure ⟨Code.quiet_builtin _ (by decide +kernel), codeAny_builtin F.entry_type_call ?_⟩
  rw [Around.under_plain (weight_type_call_type "set" [.ref l] []) rfl]
  repeat (any_goals (first | assumption | wp_step))

  refine codeAny_mono (code_set_led1 (.ref l) (E := E) (Q₁ := fun obj s₁ => obj = .ref s.heap.objs.size ∧ s₁ = { s with heap := s.heap.push (newSet w) }) ⟨rfl, rfl⟩) fun r s₁ hr => ?_
  cases r with
  | error e => exact hr
  | ok fl =>
    cases fl with
    | next | brk | cont => exact hr.elim
    | ret obj =>
      obtain ⟨rfl, rfl⟩ := hr
      have hS : (s.heap.push (newSet w)).get? s.heap.objs.size = some (newSet w) := Heap.get?_push_size _ rfl
      have hT : Shared.TypeIs { s with heap := s.heap.push (newSet w) } (.ref s.heap.objs.size) "set" := ⟨_, hS, rfl⟩
      have hli := F.called_set.init.lookup
      have hbi := F.called_set.init.bind (.ref s.heap.objs.size)
      repeat (any_goals (first | assumption | wp_step))

      refine codeAny_mono (codeAny_call_builtin (R := wants (fun r s₂ => r = .none ∧ ∃ h' tk c, s₂ = { s with heap := h', toks := tk } ∧ SetR w h' s.heap.objs.size (fun j => decide (j ∈ ns)) c ∧ c ≤ ns.length ∧
          (∀ b o, s.heap.get? b = some o → h'.get? b = some o)) E) F.called_set.init.plain F.entry_set_init (check_set_init_1 hT ?_)) fun r₂ s₂ hr₂ => ?_
      · have hlS : l < s.heap.objs.size := Heap.lt_size hl.choose_spec.1
        have hl1 : (s.heap.push (newSet w)).IsList l items := hl.push _
        obtain ⟨ol, hol, hcl, nl, hdl⟩ := hl1
        obtain ⟨ocls, odict, odata, oslots⟩ := ol
        simp only at hcl hdl
        subst hcl; subst hdl
        have hsls := F.sub_list_set
        have hslf := F.sub_list_frozenset
        have hne : (Value.type "list" == Value.type "dict") = false := by decide
        have hl2 : (s.heap.push (newSet w)).IsList l items := ⟨_, hol, rfl, nl, rfl⟩
        unfold Builtin.«set.__init__» noKeywords Builtin.Frozenset.updateFrom
        generalize hPI : pyIter = PI
        wp_walk
        subst hPI

        refine wpAny_pyIter_list hl2 (wpAny_bind (wpAny_runValue ?_))
        have hh3 : A.in1.in1.in1.handled = none := by simp [hh]
        have es : (s.heap.push (newSet w)).objs.size = s.heap.objs.size + 1 := Heap.size_push ..
        have hneI : l ≠ (s.heap.push (newSet w)).objs.size := by rw [es]; exact Nat.ne_of_lt (Nat.lt_succ_of_lt hlS)
        have hSf : s.heap.objs.size ∉ [(s.heap.push (newSet w)).objs.size, l] := by
          rw [es]
          simp only [List.mem_cons, List.not_mem_nil, or_false, not_or]
          exact ⟨Nat.ne_of_lt (Nat.lt_succ_self _), Nat.ne_of_gt hlS⟩
        have hval : ∀ (i : Nat) (v : Value), items[i]? = some v → ∃ k t, ns[i]? = some k ∧ v = .int k t := fun i v hv => by
          have hi : i < ns.length := by rw [← hsz]; exact (Array.getElem?_eq_some_iff.mp hv).1
          obtain ⟨t, e⟩ := IntsAre.int_at hit i v (by rw [Array.getElem?_toList]; exact hv)
          refine ⟨ns[i], t, List.getElem?_eq_getElem hi, ?_⟩
          rw [e, List.getD_eq_getElem?_getD, List.getElem?_eq_getElem hi] <;> rfl
        refine set_update_ints ((Walks.list hh3 _ l hneI items).toS) s.heap.objs.size hSf ns hsz hb hval (items.size - 0) 0 _ (by omega) (Nat.zero_le _)
          ⟨⟨_, Heap.get?_push_size _ rfl, rfl, rfl⟩, hl2.push _⟩ ⟨0, Nat.le_refl 0, setR_new_at (Heap.get?_push_of_some _ hS)⟩ ?_
        intro s' c' hm hc' hS'
        obtain ⟨h', g2, d', tk', os'⟩ := s'
        obtain rfl : g2 = s.gens := hm.gens
        obtain rfl : d' = s.drawn := hm.drawn
        obtain rfl : os' = s.os := hm.os
        show wpAny _ _ _ _ _ _
        refine wpAny_pure ?_
        show wpAny _ _ (ret Value.none) _ _ _
        refine wpAny_pure ⟨rfl, h', tk', c', rfl, hS', by omega, fun b o e => ?_⟩
        have hb0 : b < s.heap.objs.size := Heap.lt_size e
        refine hm.heap b o ?_ (Heap.get?_push_of_some _ (Heap.get?_push_of_some _ e))
        rw [es]
        simp only [List.mem_cons, List.not_mem_nil, or_false, not_or]
        exact ⟨Nat.ne_of_lt hb0, Nat.ne_of_lt (Nat.lt_succ_of_lt hb0)⟩

      · cases r₂ with
        | error e => exact hr₂
        | ok fl₂ =>
          cases fl₂ with
          | next | brk | cont => exact hr₂.elim
          | ret r =>
            obtain ⟨rfl, h', tk, c', rfl, hS', hc', hk'⟩ := hr₂
            repeat (any_goals (first | assumption | wp_step))
            exact h _ _ _ hS' hc' hk'
end
/-- set(xs): a set object beside -/
def rSetL (w : World) (K : PySem.W.Frag) : List V → Hp → VK → Prop := fun vs H Q => ∃ (p : Addr) (ns : List Int), vs = [V.ref p] ∧ SqL K H p (ns.map V.int) ∧ ns.length ≤ 1000 ∧ ∀ (l : Addr) (c : Nat), H l = none → c ≤ ns.length → Q (.ref l) (upd H l (SetO w l (fun j => decide (j ∈ ns)) c))
theorem cr_setL {X : Cx} (hc : X.calm = true) : CallR X (.type "set") (rSetL X.w X.K) := by
  intro pins s σ H vs us Q I r h
  obtain ⟨p, ns, rfl, hq, hl, q⟩ := h
  rw [Vals.ref1 r]
  obtain ⟨its, rv, pl, hz⟩ := I.list hq
  obtain ⟨o, n, h1, h2, h3, h4⟩ := pl
  refine call_set_ints ns (I.ok.hd hc) ⟨o, h1, h2, n, h4⟩ (ints_of_vals rv) (by unfold scanBound; omega) fun h' tk c R hcn k => ?_
  exact ⟨.ref _, upd H s.heap.objs.size (SetO X.w s.heap.objs.size (fun j => decide (j ∈ ns)) c), I.laid (t' := tk) k (Nat.le_refl _) (setO_new R), rfl, q _ _ (I.hok.fresh (Nat.le_refl _)) hcn⟩
/-- sorted(set(xs)), fewer than 64 numbers: beside the new list some object is left behind -/
def rSortSet (K : PySem.W.Frag) : List V → Hp → VK → Prop := fun vs H Q => ∃ (a : Addr) (ns : List Int), vs = [V.ref a] ∧ SqL K H a (ns.map V.int) ∧ ns.length < 64 ∧
  ∀ (l p : Addr) (φ : Heap → Prop) (ms : List Int), H l = none → p ≠ l → H p = none → ms.Pairwise (· < ·) → (∀ k : Int, k ∈ ms ↔ k ∈ ns) → Q (.ref p) (upd (upd H l (.ext φ)) p (.lst (ms.map V.int)))
theorem pe_mono {X : Cx} {e : Expr} {t t' : TE} (h : PE X e t) (i : ∀ σ H Q, t' σ H Q → t σ H Q) : PE X e t' := ⟨fun pins s σ H Q I q => h.run pins s σ H Q I (i σ H Q q)⟩
theorem pe_sortSet {X : Cx} {K : PySem.W.Frag} {e : Expr} {ta : TA} {p pos p2 pos2 : Pos} (hK : X.K = K) (hc : X.calm = true) (hg : Gl X "sorted") (hm : X.mg "sorted" = none) (hg2 : Gl X "set") (hm2 : X.mg "set" = none) (ha : PA X [e] ta)
    (he : starEach [e] X.env = (false, eval e X.env) :: starEach [] X.env := by rfl) (he2 : starEach [.Call (.Name "set" p2) [e] [] pos2] X.env = (false, eval (.Call (.Name "set" p2) [e] [] pos2) X.env) :: starEach [] X.env := by rfl) :
    PE X (.Call (.Name "sorted" p) [.Call (.Name "set" p2) [e] [] pos2] [] pos) (tCB (rSortSet K) ta) := by
  subst hK
  have ha' : PA X [e] (fun σ H P => ∃ P0, ta σ H P0 ∧ ∀ vs H1, P0 vs H1 → P vs H1) := ⟨fun pos pins s σ H Q I ⟨P0, h, i⟩ => thn (ha.run pos pins s σ H P0 I h) fun us s1 ⟨vs, H1, I1, r1, q1⟩ => ⟨vs, H1, I1, r1, i vs H1 q1⟩⟩
  refine pe_mono (pe_callB (cr_sortedSet hc) hg hm (by decide +kernel) (pa_cons (pe_callTy (cr_setL hc) hg2 hm2 (by decide +kernel) ha' (he := he)) pa_nil) (he := he2)) fun σ H Q q => ?_
  refine ⟨_, q, fun vs H1 ⟨a, ns, e1, hq, hl, q1⟩ => ⟨a, ns, e1, hq, by omega, fun l c h0 hcn => ⟨l, _, c, rfl, upd_same, by omega, fun ms p hs hm hn hp => ?_⟩⟩⟩
  have hpl : p ≠ l := fun z => by rw [z, upd_same] at hp; cases hp
  rw [upd_ne hpl] at hp
  exact q1 l p _ ms h0 hpl hp hs fun k => by rw [hm k, decide_eq_true_eq]
/-! ### each number once, rising -/
def insU (x : Int) : List Int → List Int
  | [] => [x]
  | y :: l => if x < y then x :: y :: l else if x = y then y :: l else y :: insU x l
def sortU (ns : List Int) : List Int := ns.foldr insU []
theorem insU_mem {x k : Int} : ∀ l : List Int, k ∈ insU x l ↔ k = x ∨ k ∈ l
  | [] => by simp [insU]
  | y :: l => by
    unfold insU
    split
    · simp
    · split
      · rename_i h; subst h; simp
      · have ih := insU_mem (x := x) (k := k) l
        simp only [List.mem_cons, ih]
        constructor
        · rintro (h | h | h)
          · exact .inr (.inl h)
          · exact .inl h
          · exact .inr (.inr h)
        · rintro (h | h | h)
          · exact .inr (.inl h)
          · exact .inl h
          · exact .inr (.inr h)
theorem insU_pair {x : Int} : ∀ l : List Int, l.Pairwise (· < ·) → (insU x l).Pairwise (· < ·)
  | [], _ => by simp [insU]
  | y :: l, h => by
    obtain ⟨h1, h2⟩ := List.pairwise_cons.mp h
    unfold insU
    split
    · rename_i c
      refine List.pairwise_cons.mpr ⟨fun z hz => ?_, h⟩
      rcases List.mem_cons.mp hz with rfl | hz
      · exact c
      · exact Int.lt_trans c (h1 z hz)
    · split
      · exact h
      · refine List.pairwise_cons.mpr ⟨fun z hz => ?_, insU_pair l h2⟩
        rcases (insU_mem l).mp hz with rfl | hz
        · omega
        · exact h1 z hz
theorem sortU_mem {k : Int} : ∀ ns : List Int, k ∈ sortU ns ↔ k ∈ ns
  | [] => Iff.rfl
  | x :: ns => by
    show k ∈ insU x (sortU ns) ↔ _
    rw [insU_mem, sortU_mem ns, List.mem_cons]
theorem sortU_pair : ∀ ns : List Int, (sortU ns).Pairwise (· < ·)
  | [] => List.Pairwise.nil
  | x :: ns => insU_pair _ (sortU_pair ns)
theorem lt_unique {xs ys : List Int} (h1 : xs.Pairwise (· < ·)) (h2 : ys.Pairwise (· < ·)) (h : ∀ k, k ∈ xs ↔ k ∈ ys) : xs = ys := by
  have n1 : xs.Nodup := h1.imp (fun {a b} (h : a < b) => Int.ne_of_lt h)
  have n2 : ys.Nodup := h2.imp (fun {a b} (h : a < b) => Int.ne_of_lt h)
  have p : xs.Perm ys := (List.perm_ext_iff_of_nodup n1 n2).mpr h
  exact p.eq_of_pairwise (fun a b _ _ h1 h2 => absurd (Int.lt_trans h1 h2) (Int.lt_irrefl _)) h1 h2
open Evl (Ex)
section
variable {K : PySem.W.Frag} {B : Base} {F H : Hp} {As : List Addr} {M M1 : List MC} {σ : L2.St} {E : List (Option Rv)} {ta : TA} {x : Rv}
/-- a thing laid beside and forgotten -/
theorem Sta.beside (S : Sta K B F As M σ E H) {p : Addr} {o : HO} (hp : H p = none) : Sta K B F As M σ E (upd H p o) := by
  have hF := S.fresh hp
  refine ⟨Ex.mut S.ex hF, S.len, S.nd, fun k a mc h1 h2 h3 => ?_, S.slots, S.bF, fun a u h hP => ?_, S.bN, S.bA, fun a u h => ?_, fun a h => ?_, S.pA⟩
  · obtain ⟨h4, o', h5, h6⟩ := S.cell k a mc h1 h2 h3
    exact ⟨h4, o', by rw [upd_ne (ne_of_none h5 hp)]; exact h5, h6⟩
  · have q := S.bH a u h hP
    rw [upd_ne (ne_of_none q hp)]; exact q
  · obtain ⟨u', q⟩ := S.bK a u h
    exact ⟨u', by rw [upd_ne (ne_of_none q hp)]; exact q⟩
  · obtain ⟨u', q⟩ := S.kn a h
    exact ⟨u', by rw [upd_ne (ne_of_none q hp)]; exact q⟩
theorem ev_sortSet {ns : List Int} (ha : EvA K ta M E M1 [x]) (hx : IsLst M1 x (ns.map D.int)) (hn : ns.length < 64) : EvD K (tCB (rSortSet K) ta) M E M1 (rints (sortU ns)) := fun B F As σ H S Q q =>
  ha B F As σ H S _ fun vs F1 As1 H1 S1 e1 p1 r1 => by
    obtain ⟨v, rfl, hv⟩ := r1.one
    obtain ⟨a, ws, rfl, hA, pa⟩ := hx.view S1 hv
    refine ⟨a, ns, rfl, SqL.of (by rw [← pa.ints]; exact hA), hn, fun l p φ ms h0 hpl hp hs hm => ?_⟩
    have e : ms = sortU ns := lt_unique hs (sortU_pair ns) fun k => by rw [hm k, sortU_mem]
    subst e
    exact ev_lstNew (S1.beside h0) (by rw [upd_ne hpl]; exact hp) (P2.ofInts _) fun w F' As' H' S' e' p' r' => q w F' As' H' S' (e1.trans e') (p1.trans p') r'
end
end DL
set_option Elab.async false
set_option linter.all false
set_option maxRecDepth 100000
set_option maxHeartbeats 4000000
/-! DL: comprehensions of two clauses, over lists of numbers. -/
namespace DL
open PySem L2 PySem.Spec PyProof.Rows
open Evl (Ex)
theorem ES.none {K : PySem.W.Frag} {F : Hp} {As : List Addr} {σ : L2.St} {E : List (Option Rv)} (h : ES K F As σ E) (i : Nat) : ES K F As (σ.set i none) (E.set i none) := ⟨by rw [List.length_set, List.length_set]; exact h.1, fun j r g => by
  by_cases e : i = j
  · subst e
    by_cases hi : i < E.length
    · rw [List.getElem?_set_self hi] at g; cases g
    · rw [List.getElem?_eq_none (by rw [List.length_set]; omega)] at g; cases g
  · rw [List.getElem?_set_ne e] at g
    rw [List.getElem?_set_ne e]
    exact h.2 j r g⟩
section
variable {K : PySem.W.Frag} {B : Base} {F F1 H H1 H' G : Hp} {As As1 : List Addr} {M M1 : List MC} {σ σ2 : L2.St} {E E2 : List (Option Rv)} {tl tl1 te : TE} {tt : TT} {b : Bool} {ds : List D} {d : D} {r : Rv}
/-- the word of a block: its list so far; what G holds is held -/
def LcX (K : PySem.W.Frag) (F1 H1 : Hp) (As1 : List Addr) (M1 : List MC) (σ : L2.St) (E : List (Option Rv)) (p : Addr) (G : Hp) (ds : List D) (H' : Hp) : Prop :=
  ∃ F' As' acc, Sta K (Base.at F1 H1 As1 p (.lst [])) F' As' M1 σ E H' ∧ F' p = none ∧ p ∉ As' ∧ As1 <+: As' ∧ H' p = some (.lst acc) ∧ P2 (R K F') ds acc ∧ Ex G F'
theorem LcX.sub {p : Addr} {G' : Hp} (h : LcX K F1 H1 As1 M1 σ E p G ds H') (e : Ex G' G) : LcX K F1 H1 As1 M1 σ E p G' ds H' := by
  obtain ⟨F', As', acc, h1, h2, h3, h4, h5, h6, h7⟩ := h
  exact ⟨F', As', acc, h1, h2, h3, h4, h5, h6, e.trans h7⟩
/-- a thing reckoned within a block -/
theorem lcx_ev {p : Addr} (h : LcX K F1 H1 As1 M1 σ E p G ds H') (hES : ∀ F', Ex F1 F' → ∀ As', As1 <+: As' → ES K F' As' σ E → ES K F' As' σ2 E2) (he : EvD K te M1 E2 M1 r) {Q : VK}
    (q : ∀ u F3 As3 H3, RV K F3 As3 r u → LcX K F1 H1 As1 M1 σ E p F3 ds H3 → Ex G F3 → Q u H3) : te σ2 H' Q := by
  obtain ⟨F', As', acc, S', hF, hA, hpre, hH, hr, hG⟩ := h
  have S2 : Sta K (Sta.self F' H' As') F' As' M1 σ2 E2 H' := ⟨S'.ex, S'.len, S'.nd, S'.cell, hES F' S'.bF As' hpre S'.slots, Ex.refl F', fun a o h _ => h, fun a o _ h => h, fun a h => .inl h, fun a o h => ⟨o, h⟩, S'.kn, List.prefix_refl _⟩
  refine he _ _ _ _ _ S2 _ fun u F3 As3 H3 S3 e3 p3 r3 => ?_
  have hA3 : p ∉ As3 := fun z => by
    rcases S3.bA p z with q | q
    · exact hA q
    · have q : H' p = none := q
      rw [hH] at q; cases q
  have back : Sta K (Base.at F1 H1 As1 p (.lst [])) F3 As3 M1 σ E H3 := S'.rebase ⟨S3.ex, S3.len, S3.nd, S3.cell, S'.slots.mono S3.bF p3, S3.bF, S3.bH, S3.bN, S3.bA, S3.bK, S3.kn, S3.pA⟩
  exact q u F3 As3 H3 r3 ⟨F3, As3, acc, back, S3.bN p _ hH hF, hA3, hpre.trans p3, S3.bH p _ hH hA, hr.imp fun _ _ z => z.mono e3, Ex.refl F3⟩ (hG.trans e3)
theorem lcx_test {p : Addr} (h : LcX K F1 H1 As1 M1 σ E p G ds H') (hES : ∀ F', Ex F1 F' → ∀ As', As1 <+: As' → ES K F' As' σ E → ES K F' As' σ2 E2) (he : EvT K tt M1 E2 M1 b) {Q : Bool → Hp → Prop}
    (q : ∀ H3, LcX K F1 H1 As1 M1 σ E p G ds H3 → Q b H3) : tt σ2 H' Q := by
  obtain ⟨F', As', acc, S', hF, hA, hpre, hH, hr, hG⟩ := h
  have S2 : Sta K (Sta.self F' H' As') F' As' M1 σ2 E2 H' := ⟨S'.ex, S'.len, S'.nd, S'.cell, hES F' S'.bF As' hpre S'.slots, Ex.refl F', fun a o h _ => h, fun a o _ h => h, fun a h => .inl h, fun a o h => ⟨o, h⟩, S'.kn, List.prefix_refl _⟩
  refine he _ _ _ _ _ S2 _ fun F3 As3 H3 S3 e3 p3 => ?_
  have hA3 : p ∉ As3 := fun z => by
    rcases S3.bA p z with q | q
    · exact hA q
    · have q : H' p = none := q
      rw [hH] at q; cases q
  have back : Sta K (Base.at F1 H1 As1 p (.lst [])) F3 As3 M1 σ E H3 := S'.rebase ⟨S3.ex, S3.len, S3.nd, S3.cell, S'.slots.mono S3.bF p3, S3.bF, S3.bH, S3.bN, S3.bA, S3.bK, S3.kn, S3.pA⟩
  exact q H3 ⟨F3, As3, acc, back, S3.bN p _ hH hF, hA3, hpre.trans p3, S3.bH p _ hH hA, hr.imp fun _ _ z => z.mono e3, hG.trans e3⟩
/-- an element reckoned and put behind -/
theorem lcx_put {p : Addr} (h : LcX K F1 H1 As1 M1 σ E p G ds H') (hES : ∀ F', Ex F1 F' → ∀ As', As1 <+: As' → ES K F' As' σ E → ES K F' As' σ2 E2) (he : EvD K te M1 E2 M1 (.dat d)) (hl : ds.length < 16777000) {Nx : Hp → Prop}
    (q : ∀ H3, LcX K F1 H1 As1 M1 σ E p G (ds ++ [d]) H3 → Nx H3) : te σ2 H' fun y H7 => ∃ acc, H7 p = some (.lst acc) ∧ acc.length < sizeLine ∧ Nx (upd H7 p (.lst (acc ++ [y]))) := by
  refine lcx_ev h hES he fun u F3 As3 H3 r3 h3 e3 => ?_
  obtain ⟨F', As', acc, S', hF, hA, hpre, hH, hr, hG⟩ := h3
  refine ⟨acc, hH, szlt (by rw [← hr.1]; omega), q _ ⟨F', As', acc ++ [u], S'.other hF hA (.inr rfl) ⟨_, hH⟩, hF, hA, hpre, upd_same, hr.append (P2.single (R.mono r3 hG)), e3.trans hG⟩⟩
/-- [e for x in xs for y in ys if t] -/
def lc2D (xs ys : List Int) (p : Int → Int → Bool) (f : Int → Int → D) : List D := (xs.map fun x => (ys.filter (p x)).map (f x)).flatten
theorem lc2D_step {xs ys : List Int} {p : Int → Int → Bool} {f : Int → Int → D} {i : Nat} {x : Int} (h : xs[i]? = some x) : lc2D (xs.take (i + 1)) ys p f = lc2D (xs.take i) ys p f ++ (ys.filter (p x)).map (f x) := by
  unfold lc2D
  rw [List.take_add_one, h, List.map_append, List.flatten_append]
  show _ ++ ((ys.filter (p x)).map (f x) ++ []) = _
  rw [List.append_nil]
theorem lc2D_len {ys : List Int} {p : Int → Int → Bool} {f : Int → Int → D} : ∀ xs : List Int, (lc2D xs ys p f).length ≤ xs.length * ys.length
  | [] => Nat.zero_le _
  | x :: xs => by
    have ih := lc2D_len (p := p) (f := f) (ys := ys) xs
    have h := List.length_filter_le (p x) ys
    show ((ys.filter (p x)).map (f x) ++ lc2D xs ys p f).length ≤ _
    rw [List.length_append, List.length_map, List.length_cons, Nat.succ_mul]
    omega
theorem ev_lc2 {tt1 : TT} {j j1 : Nat} {xs ys : List Int} (p : Int → Int → Bool) (f : Int → Int → D) (ha : EvD K tl M E M1 (rints xs)) (hxs : xs.length ≤ 1000) (hys : ys.length ≤ 1000) (hne : j ≠ j1)
    (hb : ∀ x ∈ xs, EvD K tl1 M1 ((E.set j1 none).set j (some (rint x))) M1 (rints ys))
    (ht : ∀ x ∈ xs, ∀ y ∈ ys, EvT K tt1 M1 (((E.set j1 none).set j (some (rint x))).set j1 (some (rint y))) M1 (p x y))
    (he : ∀ x ∈ xs, ∀ y ∈ ys, p x y = true → EvD K te M1 (((E.set j1 none).set j (some (rint x))).set j1 (some (rint y))) M1 (.dat (f x y))) :
    EvD K (tLc2 (iList K tl) (gName j) tYes (iList K tl1) (gName j1) tt1 te [j, j1] [j1]) M E M1 (.dat (.lst (lc2D xs ys p f))) := fun B F As σ H S Q q =>
  ha B F As σ H S _ fun w F1 As1 H1 S1 e1 p1 r1 => by
    obtain ⟨a, ws, rfl, hA, pa⟩ := R.lst_inv r1
    have ew := P2.ints pa
    subst ew
    refine ⟨a, rfl, ⟨_, SqL.of (S1.ex _ _ hA)⟩, fun D hD => ?_⟩
    refine ⟨fun i m H' => m = xs.length - i ∧ i ≤ xs.length ∧ LcX K F1 H1 As1 M1 σ E D F1 (lc2D (xs.take i) ys p f) H', ⟨xs.length, rfl, Nat.zero_le _, F1, As1, [], S1.toAt hD, S1.fresh hD, S1.off hD, List.prefix_refl _, upd_same, P2.nil, Ex.refl F1⟩, ?_⟩
    rintro i m H2 ⟨rfl, hi, hw⟩
    have hsq : SqL K H2 a (xs.map V.int) := by
      obtain ⟨F', As', acc, S', _⟩ := hw
      exact SqL.of (S'.ex _ _ (S'.bF _ _ hA))
    by_cases hlt : i < xs.length
    · have hxi : xs[i]? = some xs[i] := List.getElem?_eq_getElem hlt
      have hxm : xs[i] ∈ xs := List.getElem_mem hlt
      have hst := lc2D_step (ys := ys) (p := p) (f := f) hxi
      generalize xs[i] = x at hxi hxm hst
      have hll := lc2D_len (ys := ys) (p := p) (f := f) (xs.take i)
      have htl : (xs.take i).length ≤ 1000 := by rw [List.length_take]; omega
      have hl3 : (lc2D (xs.take i) ys p f).length ≤ 1000000 := Nat.le_trans hll (Nat.mul_le_mul htl hys)
      refine .inr ⟨⟨xs.map V.int, V.int x, hsq, by rw [List.getElem?_map, hxi]; rfl⟩, LcX K F1 H1 As1 M1 σ E D F1 (lc2D (xs.take (i + 1)) ys p f), fun H' h => ⟨xs.length - (i + 1), by omega, rfl, hlt, h⟩, fun v H' y => ?_⟩
      obtain ⟨e, y⟩ := y
      subst e
      have hv := y _ hsq
      rw [List.getElem?_map, hxi] at hv
      cases hv
      have wp : wipe ((wipe σ [j, j1]).set j (some (V.int x))) [j, j1] = wipe σ [j, j1] := by
        show ((((σ.set j1 none).set j none).set j (some (V.int x))).set j1 none).set j none = (σ.set j1 none).set j none
        rw [List.set_set, List.set_comm _ _ hne, List.set_set, List.set_set]
      refine ⟨wp, ?_⟩
      have hES : ∀ F', Ex F1 F' → ∀ As', As1 <+: As' → ES K F' As' σ E → ES K F' As' ((wipe σ [j, j1]).set j (some (V.int x))) ((E.set j1 none).set j (some (rint x))) := fun F' _ As' _ hE => by
        show ES K F' As' (((σ.set j1 none).set j none).set j (some (V.int x))) _
        rw [List.set_set]
        exact (hE.none j1).set (.int x)
      unfold tYes
      dsimp only
      rw [if_pos rfl]
      unfold iList
      refine lcx_ev hw hES (hb x hxm) fun u F3 As3 H3 r3 h3 e3 => ?_
      obtain ⟨b, ws, rfl, hB, pb⟩ := R.lst_inv r3
      have ew := P2.ints pb
      subst ew
      have sq3 : ∀ {H'} {ds}, LcX K F1 H1 As1 M1 σ E D F3 ds H' → SqL K H' b (ys.map V.int) := fun h => by
        obtain ⟨F', As', acc, S', _, _, _, _, _, hG⟩ := h
        exact SqL.of (S'.ex _ _ (hG _ _ hB))
      refine ⟨b, rfl, ⟨_, sq3 h3⟩, ?_⟩
      refine ⟨fun k m H' => m = ys.length - k ∧ k ≤ ys.length ∧ LcX K F1 H1 As1 M1 σ E D F3 (lc2D (xs.take i) ys p f ++ ((ys.take k).filter (p x)).map (f x)) H', ⟨ys.length, rfl, Nat.zero_le _, ?_⟩, ?_⟩
      · show LcX K F1 H1 As1 M1 σ E D F3 (lc2D (xs.take i) ys p f ++ []) H3
        rw [List.append_nil]; exact h3
      rintro k m H4 ⟨rfl, hk, hw4⟩
      by_cases hlk : k < ys.length
      · have hyk : ys[k]? = some ys[k] := List.getElem?_eq_getElem hlk
        have hym : ys[k] ∈ ys := List.getElem_mem hlk
        generalize ys[k] = y at hyk hym
        refine .inr ⟨⟨ys.map V.int, V.int y, sq3 hw4, by rw [List.getElem?_map, hyk]; rfl⟩, LcX K F1 H1 As1 M1 σ E D F3 (lc2D (xs.take i) ys p f ++ ((ys.take (k + 1)).filter (p x)).map (f x)), fun H' h => ⟨ys.length - (k + 1), by omega, rfl, hlk, h⟩, fun v H' z => ?_⟩
        obtain ⟨e, z⟩ := z
        subst e
        have hv := z _ (sq3 hw4)
        rw [List.getElem?_map, hyk] at hv
        cases hv
        refine ⟨wipe_one _ j1 _, ?_⟩
        have hES2 : ∀ F', Ex F1 F' → ∀ As', As1 <+: As' → ES K F' As' σ E → ES K F' As' ((wipe ((wipe σ [j, j1]).set j (some (V.int x))) [j1]).set j1 (some (V.int y))) (((E.set j1 none).set j (some (rint x))).set j1 (some (rint y))) := fun F' e As' pr hE => (hES F' e As' pr hE).setW (r := rint y) (.int y)
        refine lcx_test hw4 hES2 (ht x hxm y hym) fun H6 h6 => ?_
        have tk : (ys.take (k + 1)).filter (p x) = (ys.take k).filter (p x) ++ if p x y = true then [y] else [] := by
          rw [List.take_add_one, hyk, List.filter_append]
          congr 1
          show [y].filter (p x) = _
          by_cases c : p x y = true
          · rw [if_pos c, List.filter_cons, if_pos c]; rfl
          · rw [if_neg c, List.filter_cons, if_neg c]; rfl
        rw [tk]
        cases hp : p x y with
        | false =>
          show LcX _ _ _ _ _ _ _ _ _ (_ ++ ((ys.take k).filter (p x) ++ []).map (f x)) H6
          rw [List.append_nil]; exact h6
        | true =>
          show te _ H6 _
          have hl6 : ((ys.take k).filter (p x)).length ≤ 1000 := Nat.le_trans (List.length_filter_le _ _) (by rw [List.length_take]; omega)
          refine lcx_put h6 hES2 (he x hxm y hym hp) (by rw [List.length_append, List.length_map]; omega) fun H7 h7 => ?_
          show LcX _ _ _ _ _ _ _ _ _ (_ ++ ((ys.take k).filter (p x) ++ [y]).map (f x)) H7
          rw [List.map_append, ← List.append_assoc]
          exact h7
      · have ek : k = ys.length := by omega
        subst ek
        refine .inl ⟨⟨ys.map V.int, sq3 hw4, by rw [List.length_map]; exact Nat.le_refl _⟩, ?_⟩
        rw [hst]
        rw [List.take_length] at hw4
        exact hw4.sub e3
    · have ei : i = xs.length := by omega
      subst ei
      refine .inl ⟨⟨xs.map V.int, hsq, by rw [List.length_map]; exact Nat.le_refl _⟩, ?_⟩
      rw [List.take_length] at hw
      obtain ⟨F', As', acc, S', hF, hA', hpre, hH, hr, hG⟩ := hw
      obtain ⟨S2, e2⟩ := S1.adopt hD S' hF hA' hH
      exact q _ _ _ _ S2 ((e1.trans S'.bF).trans e2) (p1.trans hpre) (R.lst' upd_same (hr.imp fun _ _ z => z.mono e2))
end
end DL
set_option Elab.async false
set_option linter.all false
set_option maxRecDepth 100000
set_option maxHeartbeats 2000000
/-! DL: a comprehension over range(n) whose elements are cells: a list of cells comes. -/
namespace DL
open PySem L2
open Evl (Ex)
section
variable {K : PySem.W.Frag} {B : Base} {F F' F1 H H' H1 : Hp} {As As' As1 : List Addr} {M M0 M1 M2 M3 M' : List MC} {σ σ' : St} {E E' : List (Option Rv)} {ta tb te tx : TE} {x y z r : Rv}
def LcC (K : PySem.W.Frag) (F1 H1 : Hp) (As1 : List Addr) (Ms : Nat → List MC) (v : Nat → Rv) (σ : St) (E : List (Option Rv)) (p : Addr) (i : Nat) (H' : Hp) : Prop :=
  ∃ F' As' acc, Sta K (Base.at F1 H1 As1 p (.lst [])) F' As' (Ms i) σ E H' ∧ F' p = none ∧ p ∉ As' ∧ As1 <+: As' ∧ H' p = some (.lst acc) ∧ P2 (RV K F' As') ((List.range i).map v) acc
theorem lcc_turn {Ms : Nat → List MC} {v : Nat → Rv} {p : Addr} {i : Nat} {σ2 : St} {E2 : List (Option Rv)} (h : LcC K F1 H1 As1 Ms v σ E p i H') (hi : i < 16777000)
    (hES : ∀ F', Ex F1 F' → ∀ As', As1 <+: As' → ES K F' As' σ E → ES K F' As' σ2 E2)
    (he : EvD K te (Ms i) E2 (Ms (i + 1)) (v i)) :
    tYes σ2 H' fun b H3 => if b = true then te σ2 H3 fun y H4 => ∃ acc, H4 p = some (.lst acc) ∧ acc.length < sizeLine ∧ LcC K F1 H1 As1 Ms v σ E p (i + 1) (upd H4 p (.lst (acc ++ [y]))) else LcC K F1 H1 As1 Ms v σ E p (i + 1) H3 := by
  obtain ⟨F', As', acc, S', hF, hA, hpre, hH, hr⟩ := h
  have S3 : Sta K (Sta.self F' H' As') F' As' (Ms i) σ2 E2 H' := ⟨S'.ex, S'.len, S'.nd, S'.cell, hES F' S'.bF As' hpre S'.slots, Ex.refl F', fun a o h _ => h, fun a o _ h => h, fun a h => .inl h, fun a o h => ⟨o, h⟩, S'.kn, List.prefix_refl _⟩
  have back : ∀ {F4 As4 M4 H4}, Sta K (Sta.self F' H' As') F4 As4 M4 σ2 E2 H4 → As' <+: As4 → Sta K (Base.at F1 H1 As1 p (.lst [])) F4 As4 M4 σ E H4 := fun {F4 As4 M4 H4} S4 p4 =>
    S'.rebase ⟨S4.ex, S4.len, S4.nd, S4.cell, S'.slots.mono S4.bF p4, S4.bF, S4.bH, S4.bN, S4.bA, S4.bK, S4.kn, S4.pA⟩
  show te σ2 H' fun y H4 => ∃ acc, H4 p = some (.lst acc) ∧ acc.length < sizeLine ∧ LcC K F1 H1 As1 Ms v σ E p (i + 1) (upd H4 p (.lst (acc ++ [y])))
  refine he _ _ _ _ _ S3 _ fun u F4 As4 H4 S4 e4 p4 r4 => ?_
  have hH4 : H4 p = some (.lst acc) := S4.bH p _ hH hA
  have hF4 : F4 p = none := S4.bN p _ hH hF
  have hA4 : p ∉ As4 := fun z => by
    rcases S4.bA p z with q | q
    · exact hA q
    · have q : H' p = none := q
      rw [hH] at q; cases q
  refine ⟨acc, hH4, szlt ?_, F4, As4, acc ++ [u], ?_, hF4, hA4, hpre.trans p4, upd_same, ?_⟩
  · have := hr.1
    rw [List.length_map, List.length_range] at this; omega
  · exact (back S4 p4).other hF4 hA4 (.inr rfl) ⟨_, hH4⟩
  · rw [List.range_succ, List.map_append]
    exact (hr.imp fun _ _ z => z.mono e4 p4).append (P2.single r4)
theorem lcc_done (S1 : Sta K B F1 As1 M0 σ E H1) {p : Addr} (hp : H1 p = none) {Ms : Nat → List MC} {v : Nat → Rv} {n : Nat} (h : LcC K F1 H1 As1 Ms v σ E p n H') {Q : VK}
    (q : ∀ u F' As' H', Sta K B F' As' (Ms n ++ [.deep (.lst ((List.range n).map v))]) σ E H' → Ex F1 F' → As1 <+: As' → RV K F' As' (.cel (Ms n).length) u → Q u H') : Q (.ref p) H' := by
  obtain ⟨F', As', acc, S', hF, hA, hpre, hH, hr⟩ := h
  have b0 := S1.base_off hp
  have S2 : Sta K B F' (As' ++ [p]) (Ms n ++ [.deep (.lst ((List.range n).map v))]) σ E H' := by
    refine ⟨S'.ex, by rw [List.length_append, List.length_append, S'.len]; rfl, ?_, fun k a mc h1 h2 h3 => ?_, S'.slots.mono (Ex.refl F') (List.prefix_append _ _), S1.bF.trans S'.bF, fun a u h hP => ?_, fun a u h h0 => ?_, fun a h => ?_, fun a u h => ?_, fun a h => ?_, (S1.pA.trans S'.pA).trans (List.prefix_append _ _)⟩
    · rw [List.nodup_append]
      refine ⟨S'.nd, by simp, fun a ha b hb e => ?_⟩
      simp at hb
      subst e; subst hb; exact hA ha
    · rcases getElem?_concat h1 with q1 | ⟨q1, q2⟩
      · rcases getElem?_concat h2 with q3 | ⟨q3, q4⟩
        · obtain ⟨z1, o, z2, z3⟩ := S'.cell k a mc q1 q3 h3
          exact ⟨z1, o, z2, z3.mono2 (Ex.refl _) (List.prefix_append _ _)⟩
        · have := (List.getElem?_eq_some_iff.mp q1).1
          rw [S'.len] at this; omega
      · rcases getElem?_concat h2 with q3 | ⟨q3, q4⟩
        · have := (List.getElem?_eq_some_iff.mp q3).1
          rw [← S'.len] at this; omega
        · subst q2; subst q4
          exact ⟨hF, _, hH, acc, rfl, hr.imp fun _ _ z => z.mono (Ex.refl _) (List.prefix_append _ _)⟩
    · have e : a ≠ p := ne_of_none h b0
      refine S'.bH a u (by show upd H1 p _ a = _; rw [upd_ne e]; exact S1.bH a u h hP) fun z => ?_
      rcases z with z | z
      · rcases S1.bA a z with q | q
        · exact hP q
        · rw [q] at h; cases h
      · exact e z
    · have e : a ≠ p := ne_of_none h b0
      obtain ⟨u', q⟩ := S1.bK a u h
      exact S'.bN a u' (by show upd H1 p _ a = _; rw [upd_ne e]; exact q) (S1.bN a u h h0)
    · rcases List.mem_append.mp h with h | h
      · rcases S'.bA a h with (q | q) | q
        · exact S1.bA a q
        · exact absurd (q ▸ h) hA
        · refine .inr ?_
          have : H1 a = none := by
            have q : upd H1 p _ a = none := q
            by_cases e : a = p
            · subst e; rw [upd_same] at q; cases q
            · rwa [upd_ne e] at q
          exact S1.base_off this
      · simp at h; subst h; exact .inr b0
    · have e : a ≠ p := ne_of_none h b0
      obtain ⟨u', q⟩ := S1.bK a u h
      exact S'.bK a u' (by show upd H1 p _ a = _; rw [upd_ne e]; exact q)
    · rcases List.mem_append.mp h with h | h
      · exact S'.kn a h
      · simp at h; subst h; exact ⟨_, hH⟩
  exact q _ _ _ _ S2 S'.bF (hpre.trans (List.prefix_append _ _)) ⟨p, by rw [List.getElem?_append_right (by rw [S'.len]; exact Nat.le_refl _), S'.len]; simp, rfl⟩
/-- [e for x in range(n)], the elements cells -/
theorem ev_lcR1C {t : TA} {j : Nat} {n : Int} (Ms : Nat → List MC) (v : Nat → Rv) (ha : EvA K t M E M1 [rint n]) (hn : -16777000 ≤ n ∧ n ≤ 16777000) (h0 : Ms 0 = M1)
    (hb : ∀ i : Nat, (i : Int) < n → EvD K te (Ms i) (E.set j (some (rint (i : Int)))) (Ms (i + 1)) (v i)) : EvD K (tLc (iRng1 t) (gName j) tYes te [j]) M E (Ms n.toNat ++ [.deep (.lst ((List.range n.toNat).map v))]) (.cel (Ms n.toNat).length) := fun B F As σ H S Q q =>
  ha B F As σ H S _ fun vs F1 As1 H1 S1 e1 p1 r1 => by
    obtain ⟨w, rfl, hw⟩ := r1.one
    cases R.int_inv hw
    refine ⟨n, rfl, by omega, by omega, fun p hp => lc_range (lo := 0) (n := n.toNat) (LcC K F1 H1 As1 Ms v σ E p) ?_ (fun i H' hi h => ?_) fun H' h => lcc_done S1 hp h fun u F' As' H' S' e' p' r' => q u F' As' H' S' (e1.trans e') (p1.trans p') r'⟩
    · refine ⟨F1, As1, [], ?_, S1.fresh hp, S1.off hp, List.prefix_refl _, upd_same, P2.nil⟩
      rw [h0]
      exact S1.toAt hp
    · have e0 : (0 : Int) + (i : Int) = (i : Int) := Int.zero_add _
      rw [e0]
      exact ⟨wipe_one σ j _, lcc_turn h (by omega) (fun F' _ As' _ hE => hE.setW (r := rint (i : Int)) (.int _)) (hb i (by omega))⟩
theorem ev_or2 {c : Bool} (h1 : EvD K ta M E M1 (rbl false)) (h2 : EvD K tb M1 E M2 (rbl c)) : EvD K (tOrV ta tb) M E M2 (rbl c) := fun B F As σ H S Q q => h1 B F As σ H S _ fun v F1 As1 H1 S1 e1 p1 r1 => ⟨false, R.bl_inv r1, h2 B F1 As1 σ H1 S1 Q fun v F2 As2 H2 S2 e2 p2 r2 => q v F2 As2 H2 S2 (e1.trans e2) (p1.trans p2) r2⟩
theorem ex_cb {Xs : L2.St → XK} {f : List V → L2.Hp → VK → Prop} {t : TA} {C : Addr} {fs : List (Str × D)} (h : ExA K Xs t M E M1 C fs) : ExX K Xs (tCB f t) M E M1 C fs := fun B F As σ H S k Q => h B F As σ H S k _
variable {d1 d2 d3 d4 : D} {De : Ends} {uv : TS}
/-- a, b, c = e -/
theorem s_tup3 {i j k : Nat} (S : Sta K B F As M σ E H) (h : EvD K te M E M' (.dat (.tup [d1, d2, d3]))) (kk : Nxt K B M' (((E.set i (some (.dat d1))).set j (some (.dat d2))).set k (some (.dat d3))) De.nx) : tAsg te (gTup K 3 (gCons (gName i) (gCons (gName j) (gCons (gName k) gNil)))) De σ H :=
  h B F As σ H S _ fun v F1 As1 H1 S1 _ _ rv => by
    obtain ⟨a, vs, rfl, ha, pa⟩ := R.tup_inv rv
    obtain ⟨v1, ws, rfl, r1, pa⟩ := pa.inv_cons
    obtain ⟨v2, ws, rfl, r2, pa⟩ := pa.inv_cons
    obtain ⟨v3, ws, rfl, r3, pa⟩ := pa.inv_cons
    have := pa.inv_nil; subst this
    exact ⟨a, [v1, v2, v3], rfl, SqT.of (S1.ex _ _ ha), rfl, v1, _, rfl, v2, _, rfl, v3, [], rfl, rfl, kk _ _ _ _ (((S1.set (r := .dat d1) r1).set (r := .dat d2) r2).set (r := .dat d3) r3)⟩
theorem q_tup3 {i j k : Nat} (S : Sta K B F As M σ E H) (h : EvD K te M E M' (.dat (.tup [d1, d2, d3]))) (kk : Nxt K B M' (((E.set i (some (.dat d1))).set j (some (.dat d2))).set k (some (.dat d3))) (uv De)) : tSeq (tAsg te (gTup K 3 (gCons (gName i) (gCons (gName j) (gCons (gName k) gNil))))) uv De σ H := s_tup3 (De := { De with nx := uv De }) S h kk
/-- a, b, c, d = e -/
theorem s_tup4 {i j k l : Nat} (S : Sta K B F As M σ E H) (h : EvD K te M E M' (.dat (.tup [d1, d2, d3, d4]))) (kk : Nxt K B M' ((((E.set i (some (.dat d1))).set j (some (.dat d2))).set k (some (.dat d3))).set l (some (.dat d4))) De.nx) : tAsg te (gTup K 4 (gCons (gName i) (gCons (gName j) (gCons (gName k) (gCons (gName l) gNil))))) De σ H :=
  h B F As σ H S _ fun v F1 As1 H1 S1 _ _ rv => by
    obtain ⟨a, vs, rfl, ha, pa⟩ := R.tup_inv rv
    obtain ⟨v1, ws, rfl, r1, pa⟩ := pa.inv_cons
    obtain ⟨v2, ws, rfl, r2, pa⟩ := pa.inv_cons
    obtain ⟨v3, ws, rfl, r3, pa⟩ := pa.inv_cons
    obtain ⟨v4, ws, rfl, r4, pa⟩ := pa.inv_cons
    have := pa.inv_nil; subst this
    exact ⟨a, [v1, v2, v3, v4], rfl, SqT.of (S1.ex _ _ ha), rfl, v1, _, rfl, v2, _, rfl, v3, _, rfl, v4, [], rfl, rfl, kk _ _ _ _ ((((S1.set (r := .dat d1) r1).set (r := .dat d2) r2).set (r := .dat d3) r3).set (r := .dat d4) r4)⟩
theorem q_tup4 {i j k l : Nat} (S : Sta K B F As M σ E H) (h : EvD K te M E M' (.dat (.tup [d1, d2, d3, d4]))) (kk : Nxt K B M' ((((E.set i (some (.dat d1))).set j (some (.dat d2))).set k (some (.dat d3))).set l (some (.dat d4))) (uv De)) : tSeq (tAsg te (gTup K 4 (gCons (gName i) (gCons (gName j) (gCons (gName k) (gCons (gName l) gNil)))))) uv De σ H := s_tup4 (De := { De with nx := uv De }) S h kk
end
end DL
set_option Elab.async false
set_option linter.all false
set_option maxRecDepth 100000
set_option maxHeartbeats 2000000
/-! DL: loops over enumerate, over rows of three, over a falling range; methods of a cell; pairs against no pairs. -/
namespace DL
open PySem L2
open Evl (Ex)
theorem pi_enumK {X : Cx} {K : PySem.W.Frag} (hK : X.K = K) {e : Expr} {ta : TA} {p pos tpos : Pos} {elts : List Expr} {kk : Nat} (hg : Gl X "enumerate") (hm : X.mg "enumerate" = none) (ha : PA X [e] ta) (hs : starEach [e] X.env = [(false, eval e X.env)] := by rfl) :
    PI X (.Tuple elts kk tpos) (.Call (.Name "enumerate" p) [e] [] pos) (iEnum K ta) := hK ▸ pi_enum hg hm ha hs
theorem for_enum {K : PySem.W.Frag} {a : Addr} {xs : List V} {g : TG} {tb : TS} {D : Ends} {σ : L2.St} {H : Hp} (Pv : Nat → L2.St → Hp → Prop) (h0 : Pv 0 σ H) (hq : ∀ i σ H, Pv i σ H → SqL K H a xs)
    (hs : ∀ (i : Nat) (x : V) (T : Addr) (σ : L2.St) (H : Hp), xs[i]? = some x → Pv i σ H → H T = none → g (.ref T) σ (upd H T (.tup [.int (i : Nat), x])) fun σ2 H2 => tb { D with nx := Pv (i + 1), ct := Pv (i + 1), bk := D.nx } σ2 H2) (hd : ∀ σ H, Pv xs.length σ H → D.nx σ H) :
    ∃ W : Nat → Nat → L2.St → Hp → Prop, (∃ m, W 0 m σ H) ∧ ∀ i m σ H, W i m σ H →
      ((Ite K a).stop i H ∧ D.nx σ H) ∨ ((Ite K a).go i H ∧ ∃ N : L2.St → Hp → Prop, (∀ σ' H', N σ' H' → ∃ m', m' < m ∧ W (i + 1) m' σ' H') ∧ ∀ v H', (Ite K a).yld i H v H' → g v σ H' fun σ2 H2 => tb { D with nx := N, ct := N, bk := D.nx } σ2 H2) := by
  refine ⟨fun i m σ H => m = xs.length - i ∧ i ≤ xs.length ∧ Pv i σ H, ⟨xs.length, rfl, Nat.zero_le _, h0⟩, ?_⟩
  rintro i m σ H ⟨rfl, hi, p⟩
  have qx := hq i σ H p
  by_cases hlt : i < xs.length
  · have hx : xs[i]? = some xs[i] := List.getElem?_eq_getElem hlt
    refine .inr ⟨⟨xs, _, qx, hx⟩, Pv (i + 1), fun σ' H' p' => ⟨xs.length - (i + 1), by omega, rfl, hlt, p'⟩, fun v H' y => ?_⟩
    obtain ⟨T, x', rfl, hT, rfl, f1⟩ := y
    exact hs i x' T σ H (f1 xs qx) p hT
  · have e : i = xs.length := by omega
    subst e
    exact .inl ⟨⟨xs, qx, Nat.le_refl _⟩, hd σ H p⟩
section
variable {K : PySem.W.Frag} {B : Base} {F F' F1 H H' H1 : Hp} {As As' As1 : List Addr} {M M0 M1 M2 M3 M' : List MC} {σ σ' : L2.St} {E E' : List (Option Rv)} {ta tb te tx : TE} {t : TA} {x y z r : Rv} {xs rs : List Rv} {b : Bool} {u : TS} {u' : TS} {De : Ends} {Φ : List MC → List Rv → List MC → Out → Prop} {XX : XK}
/-- for i, x in enumerate(xs): xs data; g stores the pair -/
theorem s_forEG {g : TG} {st : List (Option Rv) → Nat → D → List (Option Rv) → Prop} {ds : List D} (S : Sta K B F As M σ E H) (ha : EvA K t M E M1 [.dat (.lst ds)])
    (hg : ∀ {B F As M σ E H v} {Q : L2.St → Hp → Prop} (i : Nat) (d : D), d ∈ ds → Sta K B F As M σ E H → R K F (.tup [.int (i : Nat), d]) v → (∀ σ' E', st E i d E' → Sta K B F As M σ' E' H → Q σ' H) → g v σ H Q)
    (P : Nat → List MC → List (Option Rv) → Prop) (h0 : P 0 M1 E)
    (hb : ∀ (B' : Base), Cv K B' B → ∀ (i : Nat) (d : D) M E E', ds[i]? = some d → P i M E → st E i d E' → Nxt K B' M E' (u { De with nx := NxP K B' (P (i + 1)), ct := NxP K B' (P (i + 1)), bk := De.nx }))
    (hd : ∀ M E, P ds.length M E → Nxt K B M E De.nx) : tFor (iEnum K t) g u De σ H :=
  ha B F As σ H S _ fun vs F1 As1 H1 S1 _ _ r1 => by
    obtain ⟨w, rfl, hw⟩ := r1.one
    obtain ⟨a, ws, rfl, hA, pa⟩ := R.lst_inv hw
    refine ⟨a, ws, rfl, SqL.of (S1.ex _ _ hA), for_enum (K := K) (a := a) (xs := ws) (fun i => NxP K (B.up F1) (P i)) ⟨F1, As1, M1, E, S1.toUp, h0⟩ (fun i σ' H' ⟨F2, As2, M2, E2, S2, hP⟩ => SqL.of (S2.ex _ _ (S2.bF _ _ hA))) (fun i x T σ' H' hi ⟨F2, As2, M2, E2, S2, hP⟩ hT => ?_) (fun σ' H' ⟨F2, As2, M2, E2, S2, hP⟩ => hd M2 E2 (by rw [pa.1]; exact hP) _ _ _ _ (S1.ofUp S2))⟩
    obtain ⟨d, hd, rd⟩ := pa.flip.get hi
    obtain ⟨S3, e3⟩ := S2.newF (o := .tup [.int (i : Nat), x]) hT
    have rp : R K (upd F2 T (.tup [.int (i : Nat), x])) (.tup [.int (i : Nat), d]) (.ref T) := R.tup' upd_same (P2.cons (.int _) (P2.single ((R.mono rd S2.bF).mono e3)))
    exact hg i d (List.mem_of_getElem? hd) S3 rp fun σ3 E3 hst S4 => hb (B.up F1) (fun S => S1.ofUp S) i d M2 E2 E3 hd hP hst _ _ _ _ S4
/-- for i, x in enumerate(xs) -/
theorem s_forE {i j : Nat} {ds : List D} (S : Sta K B F As M σ E H) (ha : EvA K t M E M1 [.dat (.lst ds)]) (P : Nat → List MC → List (Option Rv) → Prop) (h0 : P 0 M1 E)
    (hb : ∀ (B' : Base), Cv K B' B → ∀ (n : Nat) (d : D) M E, ds[n]? = some d → P n M E → Nxt K B' M ((E.set i (some (rint (n : Int)))).set j (some (.dat d))) (u { De with nx := NxP K B' (P (n + 1)), ct := NxP K B' (P (n + 1)), bk := De.nx }))
    (hd : ∀ M E, P ds.length M E → Nxt K B M E De.nx) : tFor (iEnum K t) (gTup K 2 (gCons (gName i) (gCons (gName j) gNil))) u De σ H :=
  s_forEG (st := fun E n d E' => E' = (E.set i (some (rint (n : Int)))).set j (some (.dat d))) S ha (fun {B F As M σ E H v Q} n d hm S rd k => by
    obtain ⟨a, vs, rfl, hA, pa⟩ := R.tup_inv rd
    obtain ⟨v1, ws, rfl, r1, pa⟩ := pa.inv_cons
    obtain ⟨v2, ws, rfl, r2, pa⟩ := pa.inv_cons
    have := pa.inv_nil; subst this
    exact ⟨a, [v1, v2], rfl, SqT.of (S.ex _ _ hA), rfl, v1, _, rfl, v2, [], rfl, rfl, k _ _ rfl ((S.set (r := rint (n : Int)) r1).set (r := .dat d) r2)⟩)
    P h0 (fun B' cv n d M E E' h1 h2 h3 => h3 ▸ hb B' cv n d M E h1 h2) hd
theorem q_forE {i j : Nat} {ds : List D} (S : Sta K B F As M σ E H) (ha : EvA K t M E M1 [.dat (.lst ds)]) (P : Nat → List MC → List (Option Rv) → Prop) (h0 : P 0 M1 E)
    (hb : ∀ (B' : Base), Cv K B' B → ∀ (n : Nat) (d : D) M E, ds[n]? = some d → P n M E → Nxt K B' M ((E.set i (some (rint (n : Int)))).set j (some (.dat d))) (u { De with nx := NxP K B' (P (n + 1)), ct := NxP K B' (P (n + 1)), bk := u' De }))
    (hd : ∀ M E, P ds.length M E → Nxt K B M E (u' De)) : tSeq (tFor (iEnum K t) (gTup K 2 (gCons (gName i) (gCons (gName j) gNil))) u) u' De σ H := s_forE (De := { De with nx := u' De }) S ha P h0 hb hd
/-- for i, (a, b) in enumerate(pairs) -/
theorem s_forE2 {i j l : Nat} {cs : List (Int × Int)} (S : Sta K B F As M σ E H) (ha : EvA K t M E M1 [.dat (pairsD cs)]) (P : Nat → List MC → List (Option Rv) → Prop) (h0 : P 0 M1 E)
    (hb : ∀ (B' : Base), Cv K B' B → ∀ (n : Nat) (c : Int × Int) M E, cs[n]? = some c → P n M E → Nxt K B' M (((E.set i (some (rint (n : Int)))).set j (some (rint c.1))).set l (some (rint c.2))) (u { De with nx := NxP K B' (P (n + 1)), ct := NxP K B' (P (n + 1)), bk := De.nx }))
    (hd : ∀ M E, P cs.length M E → Nxt K B M E De.nx) : tFor (iEnum K t) (gTup K 2 (gCons (gName i) (gCons (gTup K 2 (gCons (gName j) (gCons (gName l) gNil))) gNil))) u De σ H :=
  s_forEG (ds := cs.map pairD) (st := fun E n d E' => ∃ c : Int × Int, d = pairD c ∧ E' = ((E.set i (some (rint (n : Int)))).set j (some (rint c.1))).set l (some (rint c.2))) S ha (fun {B F As M σ E H v Q} n d hm S rd k => by
    obtain ⟨c, _, rfl⟩ := List.mem_map.mp hm
    obtain ⟨a, vs, rfl, hA, pa⟩ := R.tup_inv rd
    obtain ⟨v1, ws, rfl, r1, pa⟩ := pa.inv_cons
    obtain ⟨v2, ws, rfl, r2, pa⟩ := pa.inv_cons
    have := pa.inv_nil; subst this
    obtain ⟨a2, vs2, rfl, hA2, pa2⟩ := R.tup_inv r2
    obtain ⟨v3, ws, rfl, r3, pa2⟩ := pa2.inv_cons
    obtain ⟨v4, ws, rfl, r4, pa2⟩ := pa2.inv_cons
    have := pa2.inv_nil; subst this
    exact ⟨a, [v1, .ref a2], rfl, SqT.of (S.ex _ _ hA), rfl, v1, _, rfl, .ref a2, [], rfl, a2, [v3, v4], rfl, SqT.of (S.ex _ _ hA2), rfl, v3, _, rfl, v4, [], rfl, rfl, rfl, k _ _ ⟨c, rfl, rfl⟩ (((S.set (r := rint (n : Int)) r1).set (r := rint c.1) r3).set (r := rint c.2) r4)⟩)
    P h0 (fun B' cv n d M E E' h1 h2 h3 => by
      obtain ⟨c, h4, rfl⟩ := h3
      rw [List.getElem?_map] at h1
      cases e : cs[n]? with
      | none => rw [e] at h1; cases h1
      | some q =>
        rw [e] at h1
        have h5 : pairD q = pairD c := (Option.some.inj h1).trans h4
        have : q = c := by
          obtain ⟨q1, q2⟩ := q
          obtain ⟨c1, c2⟩ := c
          simp only [pairD, D.tup.injEq, List.cons.injEq, D.int.injEq, and_true] at h5
          rw [h5.1, h5.2]
        subst this
        exact hb B' cv n q M E e h2) (fun M E h => hd M E (by rwa [List.length_map] at h))
theorem q_forE2 {i j l : Nat} {cs : List (Int × Int)} (S : Sta K B F As M σ E H) (ha : EvA K t M E M1 [.dat (pairsD cs)]) (P : Nat → List MC → List (Option Rv) → Prop) (h0 : P 0 M1 E)
    (hb : ∀ (B' : Base), Cv K B' B → ∀ (n : Nat) (c : Int × Int) M E, cs[n]? = some c → P n M E → Nxt K B' M (((E.set i (some (rint (n : Int)))).set j (some (rint c.1))).set l (some (rint c.2))) (u { De with nx := NxP K B' (P (n + 1)), ct := NxP K B' (P (n + 1)), bk := u' De }))
    (hd : ∀ M E, P cs.length M E → Nxt K B M E (u' De)) : tSeq (tFor (iEnum K t) (gTup K 2 (gCons (gName i) (gCons (gTup K 2 (gCons (gName j) (gCons (gName l) gNil))) gNil))) u) u' De σ H := s_forE2 (De := { De with nx := u' De }) S ha P h0 hb hd
/-- for a, b, c in rows of three -/
theorem s_forT3 {tl : TE} {i j l : Nat} {ds : List D} (S : Sta K B F As M σ E H) (ha : EvD K tl M E M1 (.dat (.lst ds))) (h3 : ∀ d ∈ ds, ∃ d1 d2 d3, d = .tup [d1, d2, d3]) (P : Nat → List MC → List (Option Rv) → Prop) (h0 : P 0 M1 E)
    (hb : ∀ (B' : Base), Cv K B' B → ∀ (n : Nat) (d1 d2 d3 : D) M E, ds[n]? = some (.tup [d1, d2, d3]) → P n M E → Nxt K B' M (((E.set i (some (.dat d1))).set j (some (.dat d2))).set l (some (.dat d3))) (u { De with nx := NxP K B' (P (n + 1)), ct := NxP K B' (P (n + 1)), bk := De.nx }))
    (hd : ∀ M E, P ds.length M E → Nxt K B M E De.nx) : tFor (iList K tl) (gTup K 3 (gCons (gName i) (gCons (gName j) (gCons (gName l) gNil)))) u De σ H :=
  s_forG (st := fun E d E' => ∃ d1 d2 d3, d = .tup [d1, d2, d3] ∧ E' = ((E.set i (some (.dat d1))).set j (some (.dat d2))).set l (some (.dat d3))) S ha (fun {B F As M σ E H d v Q} hm S rd kk => by
    obtain ⟨d1, d2, d3, rfl⟩ := h3 d hm
    obtain ⟨a, vs, rfl, hA, pa⟩ := R.tup_inv rd
    obtain ⟨v1, ws, rfl, r1, pa⟩ := pa.inv_cons
    obtain ⟨v2, ws, rfl, r2, pa⟩ := pa.inv_cons
    obtain ⟨v3, ws, rfl, r3, pa⟩ := pa.inv_cons
    have := pa.inv_nil; subst this
    exact ⟨a, [v1, v2, v3], rfl, SqT.of (S.ex _ _ hA), rfl, v1, _, rfl, v2, _, rfl, v3, [], rfl, rfl, kk _ _ ⟨d1, d2, d3, rfl, rfl⟩ (((S.set (r := .dat d1) r1).set (r := .dat d2) r2).set (r := .dat d3) r3)⟩)
    P h0 (fun B' cv n d M E E' h1 h2 h4 => by
      obtain ⟨d1, d2, d3, rfl, rfl⟩ := h4
      exact hb B' cv n d1 d2 d3 M E h1 h2) hd
theorem q_forT3 {tl : TE} {i j l : Nat} {ds : List D} (S : Sta K B F As M σ E H) (ha : EvD K tl M E M1 (.dat (.lst ds))) (h3 : ∀ d ∈ ds, ∃ d1 d2 d3, d = .tup [d1, d2, d3]) (P : Nat → List MC → List (Option Rv) → Prop) (h0 : P 0 M1 E)
    (hb : ∀ (B' : Base), Cv K B' B → ∀ (n : Nat) (d1 d2 d3 : D) M E, ds[n]? = some (.tup [d1, d2, d3]) → P n M E → Nxt K B' M (((E.set i (some (.dat d1))).set j (some (.dat d2))).set l (some (.dat d3))) (u { De with nx := NxP K B' (P (n + 1)), ct := NxP K B' (P (n + 1)), bk := u' De }))
    (hd : ∀ M E, P ds.length M E → Nxt K B M E (u' De)) : tSeq (tFor (iList K tl) (gTup K 3 (gCons (gName i) (gCons (gName j) (gCons (gName l) gNil)))) u) u' De σ H := s_forT3 (De := { De with nx := u' De }) S ha h3 P h0 hb hd
/-- for i in range(a, n, -1) -/
theorem s_forDn {j : Nat} {a n : Int} (S : Sta K B F As M σ E H) (ha : EvA K t M E M1 [rint a, rint n, rint (-1)]) (hn : -16777216 ≤ n ∧ n ≤ 16777216 ∧ -16777216 ≤ a ∧ a ≤ 16777216) (P : Nat → List MC → List (Option Rv) → Prop) (h0 : P 0 M1 E)
    (hb : ∀ (i : Nat) M E, n < a - (i : Int) → P i M E → Nxt K B M (E.set j (some (rint (a - (i : Int))))) (u { De with nx := NxP K B (P (i + 1)), ct := NxP K B (P (i + 1)), bk := De.nx }))
    (hd : ∀ M E, P (a - n).toNat M E → Nxt K B M E De.nx) : tFor (iRng3 t) (gName j) u De σ H :=
  ha B F As σ H S _ fun vs F1 As1 H1 S1 _ _ r1 => by
    obtain ⟨v1, ws, rfl, h1, r1⟩ := r1.inv_cons
    obtain ⟨v2, v3, rfl, h2, h3⟩ := r1.two
    cases R.int_inv h1; cases R.int_inv h2; cases R.int_inv h3
    refine ⟨a, n, -1, (a - n).toNat, rfl, RgC.neg (by omega) (by omega) (by omega) (by omega), for_rangeC (lo := a) (c := -1) (n := (a - n).toNat) (fun i => NxP K B (P i)) ⟨F1, As1, M1, E, S1, h0⟩ (fun i σ' H' hi ⟨F2, As2, M2, E2, S2, hP⟩ => ?_) (fun σ' H' ⟨F2, As2, M2, E2, S2, hP⟩ => hd M2 E2 hP _ _ _ _ S2)⟩
    have e0 : a + ((i : Nat) : Int) * -1 = a - (i : Int) := by omega
    rw [e0]
    exact hb i M2 E2 (by omega) hP _ _ _ _ (S2.set (r := rint (a - (i : Int))) (.int _))
theorem q_forDn {j : Nat} {a n : Int} (S : Sta K B F As M σ E H) (ha : EvA K t M E M1 [rint a, rint n, rint (-1)]) (hn : -16777216 ≤ n ∧ n ≤ 16777216 ∧ -16777216 ≤ a ∧ a ≤ 16777216) (P : Nat → List MC → List (Option Rv) → Prop) (h0 : P 0 M1 E)
    (hb : ∀ (i : Nat) M E, n < a - (i : Int) → P i M E → Nxt K B M (E.set j (some (rint (a - (i : Int))))) (u { De with nx := NxP K B (P (i + 1)), ct := NxP K B (P (i + 1)), bk := u' De }))
    (hd : ∀ M E, P (a - n).toNat M E → Nxt K B M E (u' De)) : tSeq (tFor (iRng3 t) (gName j) u) u' De σ H := s_forDn (De := { De with nx := u' De }) S ha hn P h0 hb hd
/-- a method of a cell -/
theorem ev_mtC {C : Addr} {k : Nat} {fs : List (Str × D)} {m : Str} (ho : EvD K ta M E M1 (.cel k)) (hk : M1[k]? = some (.ins C fs)) (hm : fs.lookup m = none) (ha : EvA K t M1 E M2 xs) (h : CD K Φ M2 (.cel k :: xs) M3 r) : EvD K (tMeth C m (FSp K Φ) [] XX ta t) M E M3 r := fun B F As σ H S Q q =>
  ho B F As σ H S _ fun v F1 As1 H1 S1 e1 p1 r1 => by
    obtain ⟨a, hA, rfl⟩ := r1
    obtain ⟨_, o, ho, dx, ws, rfl, pa⟩ := S1.cell k a _ hA hk (by intro z; cases z)
    refine ⟨a, dx, ws, rfl, ho, no_attr (C := C) pa hm, ha B F1 As1 σ H1 S1 _ fun vs F2 As2 H2 S2 e2 p2 r2 => ?_⟩
    rw [List.append_nil]
    exact h B F2 As2 σ E H2 _ S2 (P2.cons ⟨a, prefix_get p2 hA, rfl⟩ r2) Q XX fun v F3 As3 H3 S3 e3 p3 rv => q v F3 As3 H3 S3 ((e1.trans e2).trans e3) ((p1.trans p2).trans p3) rv
/-- pairs against no pairs -/
theorem od_neP0 {cs : List (Int × Int)} : OpD K (rNeD K) M (.dat (pairsD cs)) (.dat (pairsD [])) M (rbl (!cs.isEmpty)) := OpD.pure fun B F H As σ E v w S r1 r2 Q q =>
  ⟨_, _, (PyOf.pairs cs).dp S.ex r1, (PyOf.pairs []).dp S.ex r2, pairs_shaped cs, pairs_shaped [], by
    have e : PyData.eqv (.list (cs.map pairP)) (.list (([] : List (Int × Int)).map pairP)) = cs.isEmpty := by
      cases cs with
      | nil => simp [PyData.eqv, PyData.eqvAll]
      | cons c cs => simp [PyData.eqv, PyData.eqvAll]
    rw [e]; exact q _ (.bl _)⟩
end
end DL
set_option Elab.async false
set_option linter.all false
set_option maxRecDepth 100000
set_option maxHeartbeats 2000000
/-! DL: comparisons of four. -/
namespace DL
open PySem L2 PySem.Spec PyProof.Rows
/-- a op1 b op2 c op3 d -/
def tChain4 (r r' r2 : R2) (ta tb tc td : TE) : TE := fun σ H Q => ta σ H fun x H1 => tb σ H1 fun y H2 => r x y H2 fun z H3 => ∃ k, z = .bl k ∧
  (if k = true then tc σ H3 fun w H4 => r' y w H4 fun z2 H5 => ∃ k2, z2 = .bl k2 ∧ (if k2 = true then td σ H5 fun w2 H6 => r2 w w2 H6 Q else Q (.bl false) H5) else Q (.bl false) H3)
theorem pt_chain4 {X : Cx} {a b c d : Expr} {ta tb tc td : TE} {pos : Pos} {op op' op2 : CmpOp} {r r' r2 : R2} (ho : OpR X (compareOp op) r) (ho' : OpR X (compareOp op') r') (ho2 : OpR X (compareOp op2) r2) (ha : PE X a ta) (hb : PE X b tb) (hc : PE X c tc) (hd : PE X d td)
    (hm : lastMarks [op, op', op2] [b, c, d] = false := by with_unfolding_all rfl) : PT X (.Compare a [op, op', op2] [b, c, d] pos) (tTest (tChain4 r r' r2 ta tb tc td)) := by
  refine ⟨fun pins s σ H Q I h => ?_⟩
  refine isTrue_chain (thn (ha.run pins s σ H _ I h) fun v s1 ⟨x, H1, I1, r1, q1⟩ => test_link (thn (hb.run pins s1 σ H1 _ I1 q1) fun u s2 ⟨y, H2, I2, r2', q2⟩ =>
    thn (ho pins s2 σ H2 x y v u _ I2 r1 r2' q2) fun d' s3 ⟨z, H3, I3, r3, k, e, q3⟩ => ?_)) hm
  subst e
  cases r3
  refine wpAny_truthy_bool ?_
  cases k with
  | false =>
    obtain ⟨k', e', q'⟩ := q3
    cases e'
    exact ite_ff ⟨H3, I3, q'⟩
  | true =>
    refine ite_tt (test_link (thn (hc.run pins s3 σ H3 _ I3 q3) fun w' s4 ⟨z', H4, I4, r4, q4⟩ => thn (ho' pins s4 σ H4 y z' u w' _ I4 r2' r4 q4) fun d2 s5 ⟨z2, H5, I5, r5, k2, e2, q5⟩ => ?_))
    subst e2
    cases r5
    refine wpAny_truthy_bool ?_
    cases k2 with
    | false =>
      obtain ⟨k', e', q'⟩ := q5
      cases e'
      exact ite_ff ⟨H5, I5, q'⟩
    | true =>
      refine ite_tt (test_last (thn (hd.run pins s5 σ H5 _ I5 q5) fun w3 s6 ⟨z3, H6, I6, r6, q6⟩ => thn (ho2 pins s6 σ H6 z' z3 w' w3 _ I6 r4 r6 q6) fun d3 s7 ⟨z4, H7, I7, r7, k3, e3, q7⟩ => ?_))
      subst e3
      cases r7
      exact wpAny_truthy_bool ⟨H7, I7, q7⟩
section
variable {K : PySem.W.Frag} {M M1 M2 M3 : List MC} {E : List (Option Rv)} {ta tb tc td : TE} {x y z u : Rv}
theorem ev_chain4 {r r' r2 : R2} {b c d : Bool} (ha : EvD K ta M E M x) (hb : EvD K tb M E M y) (hr : OpD K r M x y M (rbl b)) (hc : b = true → EvD K tc M E M z) (hr' : b = true → OpD K r' M y z M (rbl c)) (hd : b = true → c = true → EvD K td M E M u) (hr2 : b = true → c = true → OpD K r2 M z u M (rbl d)) : EvD K (tChain4 r r' r2 ta tb tc td) M E M (rbl (b && (c && d))) := fun B F As σ H S Q q =>
  ha B F As σ H S _ fun v F1 As1 H1 S1 e1 p1 r1 => hb B F1 As1 σ H1 S1 _ fun w F2 As2 H2 S2 e2 p2 r2 =>
    hr B F2 As2 σ E H2 v w S2 (r1.m e2 p2) r2 _ fun u' F3 As3 H3 S3 e3 p3 r3 => ⟨b, R.bl_inv r3, by
      cases b with
      | false => exact q _ F3 As3 H3 S3 (e1.trans (e2.trans e3)) (p1.trans (p2.trans p3)) (.bl _)
      | true =>
        rw [if_pos rfl]
        exact hc rfl B F3 As3 σ H3 S3 _ fun u2 F4 As4 H4 S4 e4 p4 r4 => hr' rfl B F4 As4 σ E H4 w u2 S4 ((r2.m e3 p3).m e4 p4) r4 _ fun u5 F5 As5 H5 S5 e5 p5 r5 => ⟨c, R.bl_inv r5, by
          cases c with
          | false => exact q _ F5 As5 H5 S5 (e1.trans (e2.trans (e3.trans (e4.trans e5)))) (p1.trans (p2.trans (p3.trans (p4.trans p5)))) (.bl _)
          | true =>
            rw [if_pos rfl]
            exact hd rfl rfl B F5 As5 σ H5 S5 _ fun u6 F6 As6 H6 S6 e6 p6 r6 => hr2 rfl rfl B F6 As6 σ E H6 u2 u6 S6 ((r4.m e5 p5).m e6 p6) r6 _ fun u7 F7 As7 H7 S7 e7 p7 r7 => q u7 F7 As7 H7 S7 (e1.trans (e2.trans (e3.trans (e4.trans (e5.trans (e6.trans e7)))))) (p1.trans (p2.trans (p3.trans (p4.trans (p5.trans (p6.trans p7)))))) r7⟩⟩
end
end DL
set_option Elab.async false
set_option linter.all false
set_option maxRecDepth 100000
set_option maxHeartbeats 4000000
namespace K78
open PySem L2 DL
def topS (i : Nat) : Stmt := PySem.Challenge.pw_nextpair_k78_whole_stairs_peaks_and_play.main.body.getD i (.Pass ⟨0, 0, 0, 0⟩)
abbrev s_TooMany___init__ : Stmt := inClass (topS 2) 0
abbrev N_TooMany___init__ : List Str := ["self", "what"]
theorem sc_TooMany___init__ : FnScope N_TooMany___init__ ["self", "what"] (defScope s_TooMany___init__) := ⟨rfl, rfl, rfl, by decide +kernel, rfl, by decide +kernel, by decide +kernel⟩
abbrev s_BadSize___init__ : Stmt := inClass (topS 3) 0
abbrev N_BadSize___init__ : List Str := ["self", "what", "place"]
theorem sc_BadSize___init__ : FnScope N_BadSize___init__ ["self", "what", "place"] (defScope s_BadSize___init__) := ⟨rfl, rfl, rfl, by decide +kernel, rfl, by decide +kernel, by decide +kernel⟩
abbrev s_BadBeat___init__ : Stmt := inClass (topS 4) 0
abbrev N_BadBeat___init__ : List Str := ["self", "at"]
theorem sc_BadBeat___init__ : FnScope N_BadBeat___init__ ["self", "at"] (defScope s_BadBeat___init__) := ⟨rfl, rfl, rfl, by decide +kernel, rfl, by decide +kernel, by decide +kernel⟩
abbrev s_check : Stmt := topS 7
abbrev N_check : List Str := ["what", "number"]
theorem sc_check : FnScope N_check ["what", "number"] (defScope s_check) := ⟨rfl, rfl, rfl, by decide +kernel, rfl, by decide +kernel, by decide +kernel⟩
abbrev s_check_within : Stmt := topS 8
abbrev N_check_within : List Str := ["what", "number", "bound"]
theorem sc_check_within : FnScope N_check_within ["what", "number", "bound"] (defScope s_check_within) := ⟨rfl, rfl, rfl, by decide +kernel, rfl, by decide +kernel, by decide +kernel⟩
abbrev s_check_counter : Stmt := topS 12
abbrev N_check_counter : List Str := ["top", "play", "pins", "course", "at", "bore", "pin"]
theorem sc_check_counter : FnScope N_check_counter ["top", "play", "pins", "course"] (defScope s_check_counter) := ⟨rfl, rfl, rfl, by decide +kernel, rfl, by decide +kernel, by decide +kernel⟩
abbrev s_worth_of_beat : Stmt := topS 14
abbrev N_worth_of_beat : List Str := ["play", "beat", "level"]
theorem sc_worth_of_beat : FnScope N_worth_of_beat ["play", "beat", "level"] (defScope s_worth_of_beat) := ⟨rfl, rfl, rfl, by decide +kernel, rfl, by decide +kernel, by decide +kernel⟩
abbrev s_next_row : Stmt := topS 15
abbrev N_next_row : List Str := ["top", "play", "beat", "before", "row", "above", "above_level", "level", "best", "origin", "worth"]
theorem sc_next_row : FnScope N_next_row ["top", "play", "beat", "before"] (defScope s_next_row) := ⟨rfl, rfl, rfl, by decide +kernel, rfl, by decide +kernel, by decide +kernel⟩
abbrev s_rows_of : Stmt := topS 16
abbrev N_rows_of : List Str := ["top", "play", "course", "rows", "before", "beat"]
theorem sc_rows_of : FnScope N_rows_of ["top", "play", "course"] (defScope s_rows_of) := ⟨rfl, rfl, rfl, by decide +kernel, rfl, by decide +kernel, by decide +kernel⟩
abbrev s_best_end : Stmt := topS 17
abbrev N_best_end : List Str := ["top", "rows", "found", "at", "row", "level"]
theorem sc_best_end : FnScope N_best_end ["top", "rows"] (defScope s_best_end) := ⟨rfl, rfl, rfl, by decide +kernel, rfl, by decide +kernel, by decide +kernel⟩
abbrev s_stretches_to : Stmt := topS 18
abbrev N_stretches_to : List Str := ["rows", "at", "level", "found", "last", "origin"]
theorem sc_stretches_to : FnScope N_stretches_to ["rows", "at", "level"] (defScope s_stretches_to) := ⟨rfl, rfl, rfl, by decide +kernel, rfl, by decide +kernel, by decide +kernel⟩
abbrev s_stair : Stmt := topS 19
abbrev N_stair : List Str := ["top", "play", "course", "rows", "worth", "at", "level"]
theorem sc_stair : FnScope N_stair ["top", "play", "course"] (defScope s_stair) := ⟨rfl, rfl, rfl, by decide +kernel, rfl, by decide +kernel, by decide +kernel⟩
abbrev s_worth_of_stretch : Stmt := topS 20
abbrev N_worth_of_stretch : List Str := ["play", "course", "stretch", "level", "begin", "end", "at"]
theorem sc_worth_of_stretch : FnScope N_worth_of_stretch ["play", "course", "stretch"] (defScope s_worth_of_stretch) := ⟨rfl, rfl, rfl, by decide +kernel, rfl, by decide +kernel, by decide +kernel⟩
abbrev s_judge_stair : Stmt := topS 21
abbrev N_judge_stair : List Str := ["top", "play", "course", "claim", "worth", "stretches", "level", "begin", "end", "at", "stretch"]
theorem sc_judge_stair : FnScope N_judge_stair ["top", "play", "course", "claim"] (defScope s_judge_stair) := ⟨rfl, rfl, rfl, by decide +kernel, rfl, by decide +kernel, by decide +kernel⟩
abbrev s_against : Stmt := topS 24
abbrev N_against : List Str := ["top", "bore", "pin", "level"]
theorem sc_against : FnScope N_against ["top", "bore", "pin"] (defScope s_against) := ⟨rfl, rfl, rfl, by decide +kernel, rfl, by decide +kernel, by decide +kernel⟩
abbrev s_check_top : Stmt := topS 25
abbrev N_check_top : List Str := ["top"]
theorem sc_check_top : FnScope N_check_top ["top"] (defScope s_check_top) := ⟨rfl, rfl, rfl, by decide +kernel, rfl, by decide +kernel, by decide +kernel⟩
abbrev s_check_beat : Stmt := topS 26
abbrev N_check_beat : List Str := ["top", "bore", "pin", "number"]
theorem sc_check_beat : FnScope N_check_beat ["top", "bore", "pin", "number"] (defScope s_check_beat) := ⟨rfl, rfl, rfl, by decide +kernel, rfl, by decide +kernel, by decide +kernel⟩
abbrev s_check_course : Stmt := topS 27
abbrev N_check_course : List Str := ["top", "course", "place", "bore", "pin"]
theorem sc_check_course : FnScope N_check_course ["top", "course"] (defScope s_check_course) := ⟨rfl, rfl, rfl, by decide +kernel, rfl, by decide +kernel, by decide +kernel⟩
abbrev s_check_course_top : Stmt := topS 28
abbrev N_check_course_top : List Str := ["top"]
theorem sc_check_course_top : FnScope N_check_course_top ["top"] (defScope s_check_course_top) := ⟨rfl, rfl, rfl, by decide +kernel, rfl, by decide +kernel, by decide +kernel⟩
abbrev s_greatest_stretch : Stmt := topS 30
abbrev N_greatest_stretch : List Str := ["top", "course", "level", "best", "worth", "begin", "place", "bore", "pin"]
theorem sc_greatest_stretch : FnScope N_greatest_stretch ["top", "course", "level"] (defScope s_greatest_stretch) := ⟨rfl, rfl, rfl, by decide +kernel, rfl, by decide +kernel, by decide +kernel⟩
abbrev s_Excess___init__ : Stmt := inClass (topS 31) 0
abbrev N_Excess___init__ : List Str := ["self", "top"]
theorem sc_Excess___init__ : FnScope N_Excess___init__ ["self", "top"] (defScope s_Excess___init__) := ⟨rfl, rfl, rfl, by decide +kernel, rfl, by decide +kernel, by decide +kernel⟩
abbrev s_Excess_add_beat : Stmt := inClass (topS 31) 1
abbrev N_Excess_add_beat : List Str := ["self", "bore", "pin", "found", "k"]
theorem sc_Excess_add_beat : FnScope N_Excess_add_beat ["self", "bore", "pin"] (defScope s_Excess_add_beat) := ⟨rfl, rfl, rfl, by decide +kernel, rfl, by decide +kernel, by decide +kernel⟩
abbrev s_Excess_peaks : Stmt := inClass (topS 31) 3
abbrev N_Excess_peaks : List Str := ["self"]
theorem sc_Excess_peaks : FnScope N_Excess_peaks ["self"] (defScope s_Excess_peaks) := ⟨rfl, rfl, rfl, by decide +kernel, rfl, by decide +kernel, by decide +kernel⟩
abbrev s__law_f_busy : Stmt := topS 33
abbrev N__law_f_busy : List Str := ["purse", "top", "many", "course", "turn", "beat", "e"]
theorem sc__law_f_busy : FnScope N__law_f_busy ["purse", "top", "many"] (defScope s__law_f_busy) := ⟨rfl, rfl, rfl, by decide +kernel, rfl, by decide +kernel, by decide +kernel⟩
abbrev s__law_f_hit : Stmt := topS 34
abbrev N__law_f_hit : List Str := ["play", "beat", "e"]
theorem sc__law_f_hit : FnScope N__law_f_hit ["play", "beat", "e"] (defScope s__law_f_hit) := ⟨rfl, rfl, rfl, by decide +kernel, rfl, by decide +kernel, by decide +kernel⟩
abbrev s__law_f_worth : Stmt := topS 35
abbrev N__law_f_worth : List Str := ["play", "course", "stretch", "total", "at"]
theorem sc__law_f_worth : FnScope N__law_f_worth ["play", "course", "stretch"] (defScope s__law_f_worth) := ⟨rfl, rfl, rfl, by decide +kernel, rfl, by decide +kernel, by decide +kernel⟩
abbrev s__law_f_stair_word : Stmt := topS 36
abbrev N__law_f_stair_word : List Str := ["top", "play", "course", "greatest", "claim", "worth", "stretches", "e", "first", "last", "at", "one"]
theorem sc__law_f_stair_word : FnScope N__law_f_stair_word ["top", "play", "course", "greatest", "claim"] (defScope s__law_f_stair_word) := ⟨rfl, rfl, rfl, by decide +kernel, rfl, by decide +kernel, by decide +kernel⟩
abbrev s__law_purse : Stmt := topS 37
abbrev N__law_purse : List Str := ["script", "at", "cell", "one", "size"]
theorem sc__law_purse : FnScope N__law_purse ["script", "at"] (defScope s__law_purse) := ⟨rfl, rfl, rfl, by decide +kernel, rfl, by decide +kernel, by decide +kernel⟩
abbrev s__law_draw : Stmt := topS 38
abbrev N__law_draw : List Str := ["purse", "many", "found"]
theorem sc__law_draw : FnScope N__law_draw ["purse", "many"] (defScope s__law_draw) := ⟨rfl, rfl, rfl, by decide +kernel, rfl, by decide +kernel, by decide +kernel⟩
abbrev s__law_matches : Stmt := topS 39
abbrev N__law_matches : List Str := ["answer", "due", "at"]
theorem sc__law_matches : FnScope N__law_matches ["answer", "due"] (defScope s__law_matches) := ⟨rfl, rfl, rfl, by decide +kernel, rfl, by decide +kernel, by decide +kernel⟩
abbrev s__law_hits : Stmt := topS 40
abbrev N__law_hits : List Str := ["top", "beat", "e"]
theorem sc__law_hits : FnScope N__law_hits ["top", "beat"] (defScope s__law_hits) := ⟨rfl, rfl, rfl, by decide +kernel, rfl, by decide +kernel, by decide +kernel⟩
abbrev s__law_next_excess : Stmt := topS 41
abbrev N__law_next_excess : List Str := ["excess", "beat", "hits", "at"]
theorem sc__law_next_excess : FnScope N__law_next_excess ["excess", "beat"] (defScope s__law_next_excess) := ⟨rfl, rfl, rfl, by decide +kernel, rfl, by decide +kernel, by decide +kernel⟩
abbrev s__law_excesses : Stmt := topS 42
abbrev N__law_excesses : List Str := ["top", "course", "now", "rows", "beat"]
theorem sc__law_excesses : FnScope N__law_excesses ["top", "course"] (defScope s__law_excesses) := ⟨rfl, rfl, rfl, by decide +kernel, rfl, by decide +kernel, by decide +kernel⟩
abbrev s__law_peaks : Stmt := topS 43
abbrev N__law_peaks : List Str := ["top", "course", "rows", "row", "at"]
theorem sc__law_peaks : FnScope N__law_peaks ["top", "course"] (defScope s__law_peaks) := ⟨rfl, rfl, rfl, by decide +kernel, rfl, by decide +kernel, by decide +kernel⟩
abbrev s__law_drawn_beat : Stmt := topS 44
abbrev N__law_drawn_beat : List Str := ["purse", "top", "how", "e"]
theorem sc__law_drawn_beat : FnScope N__law_drawn_beat ["purse", "top"] (defScope s__law_drawn_beat) := ⟨rfl, rfl, rfl, by decide +kernel, rfl, by decide +kernel, by decide +kernel⟩
abbrev s__law_stair : Stmt := topS 45
abbrev N__law_stair : List Str := ["top", "play", "course", "values", "worth", "beat", "after", "e", "before", "one", "hit"]
theorem sc__law_stair : FnScope N__law_stair ["top", "play", "course"] (defScope s__law_stair) := ⟨rfl, rfl, rfl, by decide +kernel, rfl, by decide +kernel, by decide +kernel⟩
abbrev s__law_k78_worth : Stmt := topS 46
abbrev N__law_k78_worth : List Str := ["top", "play", "course", "told", "due"]
theorem sc__law_k78_worth : FnScope N__law_k78_worth ["top", "play", "course"] (defScope s__law_k78_worth) := ⟨rfl, rfl, rfl, by decide +kernel, rfl, by decide +kernel, by decide +kernel⟩
abbrev s__law_k78_peaks_hold : Stmt := topS 47
abbrev N__law_k78_peaks_hold : List Str := ["top", "course", "peaks", "count", "beat", "worth", "e", "told", "word"]
theorem sc__law_k78_peaks_hold : FnScope N__law_k78_peaks_hold ["top", "course"] (defScope s__law_k78_peaks_hold) := ⟨rfl, rfl, rfl, by decide +kernel, rfl, by decide +kernel, by decide +kernel⟩
abbrev s__law_k78_eased : Stmt := topS 48
abbrev N__law_k78_eased : List Str := ["purse", "course", "top", "longer", "beat", "turn", "size"]
theorem sc__law_k78_eased : FnScope N__law_k78_eased ["purse", "course", "top"] (defScope s__law_k78_eased) := ⟨rfl, rfl, rfl, by decide +kernel, rfl, by decide +kernel, by decide +kernel⟩
abbrev s_law : Stmt := topS 49
abbrev N_law : List Str := ["script", "purse", "top", "course", "before", "play", "worth", "other", "longer", "e", "single", "turn", "peaks"]
theorem sc_law : FnScope N_law ["script"] (defScope s_law) := ⟨rfl, rfl, rfl, by decide +kernel, rfl, by decide +kernel, by decide +kernel⟩
structure Ad where
  a_TooMany___init__ : Addr
  a_BadSize___init__ : Addr
  a_BadBeat___init__ : Addr
  a_check : Addr
  a_check_within : Addr
  a_check_counter : Addr
  a_worth_of_beat : Addr
  a_next_row : Addr
  a_rows_of : Addr
  a_best_end : Addr
  a_stretches_to : Addr
  a_stair : Addr
  a_worth_of_stretch : Addr
  a_judge_stair : Addr
  a_against : Addr
  a_check_top : Addr
  a_check_beat : Addr
  a_check_course : Addr
  a_check_course_top : Addr
  a_greatest_stretch : Addr
  a_Excess___init__ : Addr
  a_Excess_add_beat : Addr
  a_Excess_peaks : Addr
  a__law_f_busy : Addr
  a__law_f_hit : Addr
  a__law_f_worth : Addr
  a__law_f_stair_word : Addr
  a__law_purse : Addr
  a__law_draw : Addr
  a__law_matches : Addr
  a__law_hits : Addr
  a__law_next_excess : Addr
  a__law_excesses : Addr
  a__law_peaks : Addr
  a__law_drawn_beat : Addr
  a__law_stair : Addr
  a__law_k78_worth : Addr
  a__law_k78_peaks_hold : Addr
  a__law_k78_eased : Addr
  a_law : Addr
  C_BadBeat : Addr
  C_BadSize : Addr
  C_Excess : Addr
  C_PairError : Addr
  C_TooMany : Addr
  c_LIMITS : Addr
structure Fd where
  d_TooMany___init__ : FuncData
  d_BadSize___init__ : FuncData
  d_BadBeat___init__ : FuncData
  d_check : FuncData
  d_check_within : FuncData
  d_check_counter : FuncData
  d_worth_of_beat : FuncData
  d_next_row : FuncData
  d_rows_of : FuncData
  d_best_end : FuncData
  d_stretches_to : FuncData
  d_stair : FuncData
  d_worth_of_stretch : FuncData
  d_judge_stair : FuncData
  d_against : FuncData
  d_check_top : FuncData
  d_check_beat : FuncData
  d_check_course : FuncData
  d_check_course_top : FuncData
  d_greatest_stretch : FuncData
  d_Excess___init__ : FuncData
  d_Excess_add_beat : FuncData
  d_Excess_peaks : FuncData
  d__law_f_busy : FuncData
  d__law_f_hit : FuncData
  d__law_f_worth : FuncData
  d__law_f_stair_word : FuncData
  d__law_purse : FuncData
  d__law_draw : FuncData
  d__law_matches : FuncData
  d__law_hits : FuncData
  d__law_next_excess : FuncData
  d__law_excesses : FuncData
  d__law_peaks : FuncData
  d__law_drawn_beat : FuncData
  d__law_stair : FuncData
  d__law_k78_worth : FuncData
  d__law_k78_peaks_hold : FuncData
  d__law_k78_eased : FuncData
  d_law : FuncData
structure Txt (K : PySem.W.Frag) (mg : Str → Option Value) (w : World) (ad : Ad) (fd : Fd) : Prop where
  F_TooMany___init__ : Fun K "__init__" "TooMany.__init__" s_TooMany___init__ ad.a_TooMany___init__ fd.d_TooMany___init__
  F_BadSize___init__ : Fun K "__init__" "BadSize.__init__" s_BadSize___init__ ad.a_BadSize___init__ fd.d_BadSize___init__
  F_BadBeat___init__ : Fun K "__init__" "BadBeat.__init__" s_BadBeat___init__ ad.a_BadBeat___init__ fd.d_BadBeat___init__
  F_check : Fun K "check" "check" s_check ad.a_check fd.d_check
  F_check_within : Fun K "check_within" "check_within" s_check_within ad.a_check_within fd.d_check_within
  F_check_counter : Fun K "check_counter" "check_counter" s_check_counter ad.a_check_counter fd.d_check_counter
  F_worth_of_beat : Fun K "worth_of_beat" "worth_of_beat" s_worth_of_beat ad.a_worth_of_beat fd.d_worth_of_beat
  F_next_row : Fun K "next_row" "next_row" s_next_row ad.a_next_row fd.d_next_row
  F_rows_of : Fun K "rows_of" "rows_of" s_rows_of ad.a_rows_of fd.d_rows_of
  F_best_end : Fun K "best_end" "best_end" s_best_end ad.a_best_end fd.d_best_end
  F_stretches_to : Fun K "stretches_to" "stretches_to" s_stretches_to ad.a_stretches_to fd.d_stretches_to
  F_stair : Fun K "stair" "stair" s_stair ad.a_stair fd.d_stair
  F_worth_of_stretch : Fun K "worth_of_stretch" "worth_of_stretch" s_worth_of_stretch ad.a_worth_of_stretch fd.d_worth_of_stretch
  F_judge_stair : Fun K "judge_stair" "judge_stair" s_judge_stair ad.a_judge_stair fd.d_judge_stair
  F_against : Fun K "against" "against" s_against ad.a_against fd.d_against
  F_check_top : Fun K "check_top" "check_top" s_check_top ad.a_check_top fd.d_check_top
  F_check_beat : Fun K "check_beat" "check_beat" s_check_beat ad.a_check_beat fd.d_check_beat
  F_check_course : Fun K "check_course" "check_course" s_check_course ad.a_check_course fd.d_check_course
  F_check_course_top : Fun K "check_course_top" "check_course_top" s_check_course_top ad.a_check_course_top fd.d_check_course_top
  F_greatest_stretch : Fun K "greatest_stretch" "greatest_stretch" s_greatest_stretch ad.a_greatest_stretch fd.d_greatest_stretch
  F_Excess___init__ : Fun K "__init__" "Excess.__init__" s_Excess___init__ ad.a_Excess___init__ fd.d_Excess___init__
  F_Excess_add_beat : Fun K "add_beat" "Excess.add_beat" s_Excess_add_beat ad.a_Excess_add_beat fd.d_Excess_add_beat
  F_Excess_peaks : Fun K "peaks" "Excess.peaks" s_Excess_peaks ad.a_Excess_peaks fd.d_Excess_peaks
  F__law_f_busy : Fun K "_law_f_busy" "_law_f_busy" s__law_f_busy ad.a__law_f_busy fd.d__law_f_busy
  F__law_f_hit : Fun K "_law_f_hit" "_law_f_hit" s__law_f_hit ad.a__law_f_hit fd.d__law_f_hit
  F__law_f_worth : Fun K "_law_f_worth" "_law_f_worth" s__law_f_worth ad.a__law_f_worth fd.d__law_f_worth
  F__law_f_stair_word : Fun K "_law_f_stair_word" "_law_f_stair_word" s__law_f_stair_word ad.a__law_f_stair_word fd.d__law_f_stair_word
  F__law_purse : Fun K "_law_purse" "_law_purse" s__law_purse ad.a__law_purse fd.d__law_purse
  F__law_draw : Fun K "_law_draw" "_law_draw" s__law_draw ad.a__law_draw fd.d__law_draw
  F__law_matches : Fun K "_law_matches" "_law_matches" s__law_matches ad.a__law_matches fd.d__law_matches
  F__law_hits : Fun K "_law_hits" "_law_hits" s__law_hits ad.a__law_hits fd.d__law_hits
  F__law_next_excess : Fun K "_law_next_excess" "_law_next_excess" s__law_next_excess ad.a__law_next_excess fd.d__law_next_excess
  F__law_excesses : Fun K "_law_excesses" "_law_excesses" s__law_excesses ad.a__law_excesses fd.d__law_excesses
  F__law_peaks : Fun K "_law_peaks" "_law_peaks" s__law_peaks ad.a__law_peaks fd.d__law_peaks
  F__law_drawn_beat : Fun K "_law_drawn_beat" "_law_drawn_beat" s__law_drawn_beat ad.a__law_drawn_beat fd.d__law_drawn_beat
  F__law_stair : Fun K "_law_stair" "_law_stair" s__law_stair ad.a__law_stair fd.d__law_stair
  F__law_k78_worth : Fun K "_law_k78_worth" "_law_k78_worth" s__law_k78_worth ad.a__law_k78_worth fd.d__law_k78_worth
  F__law_k78_peaks_hold : Fun K "_law_k78_peaks_hold" "_law_k78_peaks_hold" s__law_k78_peaks_hold ad.a__law_k78_peaks_hold fd.d__law_k78_peaks_hold
  F__law_k78_eased : Fun K "_law_k78_eased" "_law_k78_eased" s__law_k78_eased ad.a__law_k78_eased fd.d__law_k78_eased
  F_law : Fun K "law" "law" s_law ad.a_law fd.d_law
  g_check : mg "check" = some (.ref ad.a_check)
  g_check_within : mg "check_within" = some (.ref ad.a_check_within)
  g_check_counter : mg "check_counter" = some (.ref ad.a_check_counter)
  g_worth_of_beat : mg "worth_of_beat" = some (.ref ad.a_worth_of_beat)
  g_next_row : mg "next_row" = some (.ref ad.a_next_row)
  g_rows_of : mg "rows_of" = some (.ref ad.a_rows_of)
  g_best_end : mg "best_end" = some (.ref ad.a_best_end)
  g_stretches_to : mg "stretches_to" = some (.ref ad.a_stretches_to)
  g_stair : mg "stair" = some (.ref ad.a_stair)
  g_worth_of_stretch : mg "worth_of_stretch" = some (.ref ad.a_worth_of_stretch)
  g_judge_stair : mg "judge_stair" = some (.ref ad.a_judge_stair)
  g_against : mg "against" = some (.ref ad.a_against)
  g_check_top : mg "check_top" = some (.ref ad.a_check_top)
  g_check_beat : mg "check_beat" = some (.ref ad.a_check_beat)
  g_check_course : mg "check_course" = some (.ref ad.a_check_course)
  g_check_course_top : mg "check_course_top" = some (.ref ad.a_check_course_top)
  g_greatest_stretch : mg "greatest_stretch" = some (.ref ad.a_greatest_stretch)
  g__law_f_busy : mg "_law_f_busy" = some (.ref ad.a__law_f_busy)
  g__law_f_hit : mg "_law_f_hit" = some (.ref ad.a__law_f_hit)
  g__law_f_worth : mg "_law_f_worth" = some (.ref ad.a__law_f_worth)
  g__law_f_stair_word : mg "_law_f_stair_word" = some (.ref ad.a__law_f_stair_word)
  g__law_purse : mg "_law_purse" = some (.ref ad.a__law_purse)
  g__law_draw : mg "_law_draw" = some (.ref ad.a__law_draw)
  g__law_matches : mg "_law_matches" = some (.ref ad.a__law_matches)
  g__law_hits : mg "_law_hits" = some (.ref ad.a__law_hits)
  g__law_next_excess : mg "_law_next_excess" = some (.ref ad.a__law_next_excess)
  g__law_excesses : mg "_law_excesses" = some (.ref ad.a__law_excesses)
  g__law_peaks : mg "_law_peaks" = some (.ref ad.a__law_peaks)
  g__law_drawn_beat : mg "_law_drawn_beat" = some (.ref ad.a__law_drawn_beat)
  g__law_stair : mg "_law_stair" = some (.ref ad.a__law_stair)
  g__law_k78_worth : mg "_law_k78_worth" = some (.ref ad.a__law_k78_worth)
  g__law_k78_peaks_hold : mg "_law_k78_peaks_hold" = some (.ref ad.a__law_k78_peaks_hold)
  g__law_k78_eased : mg "_law_k78_eased" = some (.ref ad.a__law_k78_eased)
  g_law : mg "law" = some (.ref ad.a_law)
  m_TooMany___init__ : Meth K ad.C_TooMany "__init__" ad.a_TooMany___init__
  m_BadSize___init__ : Meth K ad.C_BadSize "__init__" ad.a_BadSize___init__
  m_BadBeat___init__ : Meth K ad.C_BadBeat "__init__" ad.a_BadBeat___init__
  m_Excess___init__ : Meth K ad.C_Excess "__init__" ad.a_Excess___init__
  m_Excess_add_beat : Meth K ad.C_Excess "add_beat" ad.a_Excess_add_beat
  m_Excess_peaks : Meth K ad.C_Excess "peaks" ad.a_Excess_peaks
  g_BadBeat : mg "BadBeat" = some (.ref ad.C_BadBeat)
  g_BadSize : mg "BadSize" = some (.ref ad.C_BadSize)
  g_Excess : mg "Excess" = some (.ref ad.C_Excess)
  g_PairError : mg "PairError" = some (.ref ad.C_PairError)
  g_TooMany : mg "TooMany" = some (.ref ad.C_TooMany)
  n_ValueError : mg "ValueError" = none
  n_abs : mg "abs" = none
  n_bool : mg "bool" = none
  n_dict : mg "dict" = none
  n_enumerate : mg "enumerate" = none
  n_int : mg "int" = none
  n_isinstance : mg "isinstance" = none
  n_len : mg "len" = none
  n_list : mg "list" = none
  n_max : mg "max" = none
  n_min : mg "min" = none
  n_range : mg "range" = none
  n_sorted : mg "sorted" = none
  n_str : mg "str" = none
  n_sum : mg "sum" = none
  n_tuple : mg "tuple" = none
  g_COUNTER_PINS : ∃ t, mg "COUNTER_PINS" = some (.int 60 t)
  g_COUNTER_TOP : ∃ t, mg "COUNTER_TOP" = some (.int 12 t)
  g_COURSE_TOP : ∃ t, mg "COURSE_TOP" = some (.int 12 t)
  g_LIMITS : mg "LIMITS" = some (.ref ad.c_LIMITS)
  x_top : L2.KDct K w ad.c_LIMITS "top" (.int 60)
  x_beats : L2.KDct K w ad.c_LIMITS "beats" (.int 400)
  x_play : L2.KDct K w ad.c_LIMITS "play" (.int 60)
  be_PairError : DL.BaseE K ad.C_PairError
  oe_TooMany : L2.OexC K ad.C_TooMany
  ec_TooMany : L2.ExcC K ad.C_TooMany
  no_TooMany_what : PySem.W.findIn K (.ref ad.C_TooMany) "what" = some none
  ki_TooMany_TooMany : PySem.W.kitOne K (.ref ad.C_TooMany) (.ref ad.C_TooMany) = some true
  ki_TooMany_BadSize : PySem.W.kitOne K (.ref ad.C_TooMany) (.ref ad.C_BadSize) = some false
  ki_TooMany_BadBeat : PySem.W.kitOne K (.ref ad.C_TooMany) (.ref ad.C_BadBeat) = some false
  ki_TooMany_V : PySem.W.kitOne K (.ref ad.C_TooMany) (.type "ValueError") = some true
  ex_TooMany : PySem.W.exmOne K (.ref ad.C_TooMany) (.ref ad.C_PairError) = some true
  oe_BadSize : L2.OexC K ad.C_BadSize
  ec_BadSize : L2.ExcC K ad.C_BadSize
  no_BadSize_what : PySem.W.findIn K (.ref ad.C_BadSize) "what" = some none
  no_BadSize_place : PySem.W.findIn K (.ref ad.C_BadSize) "place" = some none
  ki_BadSize_TooMany : PySem.W.kitOne K (.ref ad.C_BadSize) (.ref ad.C_TooMany) = some false
  ki_BadSize_BadSize : PySem.W.kitOne K (.ref ad.C_BadSize) (.ref ad.C_BadSize) = some true
  ki_BadSize_BadBeat : PySem.W.kitOne K (.ref ad.C_BadSize) (.ref ad.C_BadBeat) = some false
  ki_BadSize_V : PySem.W.kitOne K (.ref ad.C_BadSize) (.type "ValueError") = some true
  ex_BadSize : PySem.W.exmOne K (.ref ad.C_BadSize) (.ref ad.C_PairError) = some true
  oe_BadBeat : L2.OexC K ad.C_BadBeat
  ec_BadBeat : L2.ExcC K ad.C_BadBeat
  no_BadBeat_at : PySem.W.findIn K (.ref ad.C_BadBeat) "at" = some none
  ki_BadBeat_TooMany : PySem.W.kitOne K (.ref ad.C_BadBeat) (.ref ad.C_TooMany) = some false
  ki_BadBeat_BadSize : PySem.W.kitOne K (.ref ad.C_BadBeat) (.ref ad.C_BadSize) = some false
  ki_BadBeat_BadBeat : PySem.W.kitOne K (.ref ad.C_BadBeat) (.ref ad.C_BadBeat) = some true
  ki_BadBeat_V : PySem.W.kitOne K (.ref ad.C_BadBeat) (.type "ValueError") = some true
  ex_BadBeat : PySem.W.exmOne K (.ref ad.C_BadBeat) (.ref ad.C_PairError) = some true
  cl_Excess : L2.Cls K ad.C_Excess
  mk_Excess : L2.Mk K ad.C_Excess ad.a_Excess___init__
  na_top_number : L2.NoAttr K ad.C_Excess "top_number"
  na_now_list : L2.NoAttr K ad.C_Excess "now_list"
  na_peak_list : L2.NoAttr K ad.C_Excess "peak_list"
end K78
set_option Elab.async false
set_option linter.all false
set_option maxRecDepth 100000
set_option maxHeartbeats 4000000
namespace K78
open PySem L2 DL
/-! ### the steps: one rule an expression, by its reading's head -/
local macro_rules | `(tactic| wtm_at "ev") => `(tactic| first
  | exact ev_var rfl
  | exact ev_int
  | exact ev_non
  | exact ev_bl
  | exact ev_str
  | exact ea_nil
  | with_reducible apply ea_cons
  | ((with_reducible refine' ev_isi ?a ?b ?c); (case' a => repeat' wtm_at "ev"); (case' b => exact rfl); (case' c => exact rfl))
  | with_reducible apply ev_cb
  | with_reducible apply ev_op
  | with_reducible apply ev_un
  | with_reducible apply et_test
  | with_reducible apply et_B
  | with_reducible apply et_not
  | with_reducible apply ev_isN
  | with_reducible apply ev_notN
  | with_reducible apply ev_notV
  | with_reducible apply et_and
  | with_reducible apply et_or
  | with_reducible apply ev_andV
  | with_reducible apply ev_orV
  | with_reducible apply ev_ifI
  | with_reducible apply ev_ifD
  | ((with_reducible refine' ev_dnotin ?a ?b ?c ?d); (case' a => repeat' wtm_at "ev"); (case' b => repeat' wtm_at "ev"); (case' c => exact rfl); (case' d => first | exact .inl rfl | exact .inr ⟨_, rfl, rfl⟩))
  | ((with_reducible refine' ev_din ?a ?b ?c ?d); (case' a => repeat' wtm_at "ev"); (case' b => repeat' wtm_at "ev"); (case' c => exact rfl); (case' d => first | exact .inl rfl | exact .inr ⟨_, rfl, rfl⟩))
  | with_reducible apply ev_lcLAI
  | with_reducible apply ev_lcLII
  | with_reducible apply ev_lcLA
  | with_reducible apply ev_lcLI
  | with_reducible apply ev_lcRAI
  | with_reducible apply ev_lcRI
  | with_reducible apply ev_lcRA
  | with_reducible apply ev_lcR
  | exact et_yes
  | with_reducible intro _
  | exact od_int
  | exact od_bool
  | exact od_eqI
  | exact od_neI
  | exact od_eqS
  | exact od_neS
  | exact ud_neg
  | exact cd_abs
  | exact cd_max2
  | exact cd_min2
  | exact cd_int
  | exact cd_intB
  | exact cd_lenScr
  | exact cd_lenT
  | exact cd_lenI (.inl rfl)
  | exact cd_lenI (.inr ⟨_, rfl, rfl⟩)
  | exact cd_len (.inl rfl)
  | exact cd_len (.inr ⟨_, rfl, rfl⟩)
  | exact cd_lenD (.inl rfl)
  | exact cd_lenD (.inr ⟨_, rfl, rfl⟩)
  | exact cd_sum (.inl rfl)
  | exact cd_sorted (.inl rfl)
  | exact cd_list (.inl rfl)
  | exact cd_listT
  | exact eo_none
  | with_reducible apply eo_some
  | with_reducible apply ev_sliceScr
  | refine' ev_sliceI ?_ ?_ ?_ (.inl rfl)
  | with_reducible apply od_intC
  | with_reducible apply od_ixScr
  | refine' od_ixI (.inl rfl) ?_ ?_
  | refine' od_ixI (.inr ⟨_, rfl, rfl⟩) ?_ ?_
  | exact od_ixT rfl
  | exact od_inI (.inl rfl)
  | exact od_notinI (.inl rfl)
  | refine' od_cat (.inl rfl) (.inl rfl) ?_
  | ((with_reducible refine' ev_tup ?h ?r ?l); (case' h => repeat' wtm_at "ev"); (case' r => exact rfl); (case' l => exact Nat.le_of_ble_eq_true rfl))
  | (refine (show CMul _ _ from .inl ⟨?_, ?_⟩) <;> decide)
  | (refine (show CMul _ _ from .inr ⟨?_, ?_⟩) <;> decide)
  | (refine (show (_ : Prop) from ?_); assumption)
  | (refine (show CDiv _ _ from ⟨?_, ?_⟩) <;> omega)
  | (refine (show CPow _ _ from ⟨?_, ?_, ?_⟩) <;> decide)
  | omega
  | (simp only [Pz.len]; done)
  | (simp only [Pz.len, List.length_map, List.length_append, List.length_range, List.length_set, List.length_reverse]; omega))
/-! a statement's step: its values are reckoned, what is left is the way on -/
local macro_rules | `(tactic| wtm_at "st") => `(tactic| first
  | (refine' q_set (by assumption) ?h ?k; (case' h => repeat' wtm_at "ev"); (case' k => (intro _ _ _ _ _; try dsimp only)))
  | (refine' s_set (by assumption) ?h ?k; (case' h => repeat' wtm_at "ev"); (case' k => (intro _ _ _ _ _; try dsimp only)))
  | (refine' q_augS (by assumption) ?h1 ?h2 ?h3 ?r1 ?r2 ?s1 ?s2 ?k; (case' h1 => repeat' wtm_at "ev"); (case' h2 => repeat' wtm_at "ev"); (case' h3 => repeat' wtm_at "ev"); (case' r1 => exact rfl); (case' r2 => exact rfl); (case' s1 => try wtm_at "ev"); (case' s2 => try wtm_at "ev"); (case' k => (intro _ _ _ _ _; try dsimp only)))
  | (refine' s_augS (by assumption) ?h1 ?h2 ?h3 ?r1 ?r2 ?s1 ?s2 ?k; (case' h1 => repeat' wtm_at "ev"); (case' h2 => repeat' wtm_at "ev"); (case' h3 => repeat' wtm_at "ev"); (case' r1 => exact rfl); (case' r2 => exact rfl); (case' s1 => try wtm_at "ev"); (case' s2 => try wtm_at "ev"); (case' k => (intro _ _ _ _ _; try dsimp only)))
  | (refine' q_setLI (by assumption) ?h ?h1 ?h2 ?r1 ?s1 ?s2 ?k; (case' h => repeat' wtm_at "ev"); (case' h1 => repeat' wtm_at "ev"); (case' h2 => repeat' wtm_at "ev"); (case' r1 => exact rfl); (case' s1 => try wtm_at "ev"); (case' s2 => try wtm_at "ev"); (case' k => (intro _ _ _ _ _; try dsimp only)))
  | (refine' q_setL (by assumption) ?h ?h1 ?h2 ?r1 ?s1 ?s2 ?k; (case' h => repeat' wtm_at "ev"); (case' h1 => repeat' wtm_at "ev"); (case' h2 => repeat' wtm_at "ev"); (case' r1 => exact rfl); (case' s1 => try wtm_at "ev"); (case' s2 => try wtm_at "ev"); (case' k => (intro _ _ _ _ _; try dsimp only)))
  | (refine' s_setLI (by assumption) ?h ?h1 ?h2 ?r1 ?s1 ?s2 ?k; (case' h => repeat' wtm_at "ev"); (case' h1 => repeat' wtm_at "ev"); (case' h2 => repeat' wtm_at "ev"); (case' r1 => exact rfl); (case' s1 => try wtm_at "ev"); (case' s2 => try wtm_at "ev"); (case' k => (intro _ _ _ _ _; try dsimp only)))
  | (refine' s_setL (by assumption) ?h ?h1 ?h2 ?r1 ?s1 ?s2 ?k; (case' h => repeat' wtm_at "ev"); (case' h1 => repeat' wtm_at "ev"); (case' h2 => repeat' wtm_at "ev"); (case' r1 => exact rfl); (case' s1 => try wtm_at "ev"); (case' s2 => try wtm_at "ev"); (case' k => (intro _ _ _ _ _; try dsimp only)))
  | (refine' q_appI (by assumption) ?h1 ?h ?r1 ?r2 ?s ?k; (case' h1 => repeat' wtm_at "ev"); (case' h => repeat' wtm_at "ev"); (case' r1 => exact rfl); (case' r2 => exact rfl); (case' s => try wtm_at "ev"); (case' k => (intro _ _ _ _ _; try dsimp only)))
  | (refine' q_app (by assumption) ?h1 ?h ?r1 ?r2 ?s ?k; (case' h1 => repeat' wtm_at "ev"); (case' h => repeat' wtm_at "ev"); (case' r1 => exact rfl); (case' r2 => exact rfl); (case' s => try wtm_at "ev"); (case' k => (intro _ _ _ _ _; try dsimp only)))
  | (refine' s_appI (by assumption) ?h1 ?h ?r1 ?r2 ?s ?k; (case' h1 => repeat' wtm_at "ev"); (case' h => repeat' wtm_at "ev"); (case' r1 => exact rfl); (case' r2 => exact rfl); (case' s => try wtm_at "ev"); (case' k => (intro _ _ _ _ _; try dsimp only)))
  | (refine' s_app (by assumption) ?h1 ?h ?r1 ?r2 ?s ?k; (case' h1 => repeat' wtm_at "ev"); (case' h => repeat' wtm_at "ev"); (case' r1 => exact rfl); (case' r2 => exact rfl); (case' s => try wtm_at "ev"); (case' k => (intro _ _ _ _ _; try dsimp only)))
  | (refine' q_dput (by assumption) ?h ?h1 ?h2 ?r1 ?r2 ?s ?k; (case' h => repeat' wtm_at "ev"); (case' h1 => repeat' wtm_at "ev"); (case' h2 => repeat' wtm_at "ev"); (case' r1 => exact rfl); (case' r2 => exact rfl); (case' s => try wtm_at "ev"); (case' k => (intro _ _ _ _ _; try dsimp only)))
  | (refine' s_dput (by assumption) ?h ?h1 ?h2 ?r1 ?r2 ?s ?k; (case' h => repeat' wtm_at "ev"); (case' h1 => repeat' wtm_at "ev"); (case' h2 => repeat' wtm_at "ev"); (case' r1 => exact rfl); (case' r2 => exact rfl); (case' s => try wtm_at "ev"); (case' k => (intro _ _ _ _ _; try dsimp only)))
  | (refine' q_tup2 (by assumption) ?h ?k; (case' h => repeat' wtm_at "ev"); (case' k => (intro _ _ _ _ _; try dsimp only)))
  | (refine' q_drop (by assumption) ?h ?k; (case' h => repeat' wtm_at "ev"); (case' k => (intro _ _ _ _ _; try dsimp only)))
  | (refine' q_if (by assumption) ?h ?k1 ?k2; (case' h => repeat' wtm_at "ev"))
  | (refine' s_if (by assumption) ?h ?k1 ?k2; (case' h => repeat' wtm_at "ev"))
  | (refine' s_ret (by assumption) ?h ?k; (case' h => repeat' wtm_at "ev"); (case' k => (intro _ _ _ _ _ _ _; try dsimp only)))
  | (refine' q_ret (by assumption) ?h ?k; (case' h => repeat' wtm_at "ev"); (case' k => (intro _ _ _ _ _ _ _; try dsimp only)))
  | ((with_reducible refine' s_next (by assumption) ?k); (case' k => (intro _ _ _ _ _; try dsimp only)))
  | (with_reducible refine q_next ?_))

abbrev sp_TooMany___init__ (K : PySem.W.Frag) : Sp := spI1 K "what"
theorem ok_TooMany___init__ {P : Program} {w : World} {K : PySem.W.Frag} {mg : Str → Option Value} {base : Heap} {ad : Ad} {fd : Fd} (T : Txt K mg w ad fd) : FnOk P w K mg base CX0 1 ad.a_TooMany___init__ fd.d_TooMany___init__ ["self", "what"] (sp_TooMany___init__ K) := by
  refine L2.Fun.ok (k := 0) T.F_TooMany___init__ sc_TooMany___init__ (fun vs H Q E h => ?_) (fun cdv A outer s H vs Q E hr h => ?_)
  · obtain ⟨_, _, _, rfl, _⟩ := h; rfl
  · have hu := hu_of hr
    exact ⟨_, (pss_cons (ps_expr (pe_baseInit rfl T.g_PairError T.be_PairError (pa_cons (pv 0) (pa_cons (pe_str) pa_nil))))
  (pss_one (ps_ost (pv 0) (pv 1)))), init1_reads rfl h⟩
abbrev sp_BadBeat___init__ (K : PySem.W.Frag) : Sp := spI1 K "at"
theorem ok_BadBeat___init__ {P : Program} {w : World} {K : PySem.W.Frag} {mg : Str → Option Value} {base : Heap} {ad : Ad} {fd : Fd} (T : Txt K mg w ad fd) : FnOk P w K mg base CX0 1 ad.a_BadBeat___init__ fd.d_BadBeat___init__ ["self", "at"] (sp_BadBeat___init__ K) := by
  refine L2.Fun.ok (k := 0) T.F_BadBeat___init__ sc_BadBeat___init__ (fun vs H Q E h => ?_) (fun cdv A outer s H vs Q E hr h => ?_)
  · obtain ⟨_, _, _, rfl, _⟩ := h; rfl
  · have hu := hu_of hr
    exact ⟨_, (pss_cons (ps_expr (pe_baseInit rfl T.g_PairError T.be_PairError (pa_cons (pv 0) (pa_cons (pe_str) pa_nil))))
  (pss_one (ps_ost (pv 0) (pv 1)))), init1_reads rfl h⟩
abbrev sp_BadSize___init__ (K : PySem.W.Frag) : Sp := spI2 K "what" "place"
theorem ok_BadSize___init__ {P : Program} {w : World} {K : PySem.W.Frag} {mg : Str → Option Value} {base : Heap} {ad : Ad} {fd : Fd} (T : Txt K mg w ad fd) : FnOk P w K mg base CX0 1 ad.a_BadSize___init__ fd.d_BadSize___init__ ["self", "what", "place"] (sp_BadSize___init__ K) := by
  refine L2.Fun.ok (k := 0) T.F_BadSize___init__ sc_BadSize___init__ (fun vs H Q E h => ?_) (fun cdv A outer s H vs Q E hr h => ?_)
  · obtain ⟨_, _, _, _, rfl, _⟩ := h; rfl
  · have hu := hu_of hr
    exact ⟨_, (pss_cons (ps_expr (pe_baseInit rfl T.g_PairError T.be_PairError (pa_cons (pv 0) (pa_cons (pe_str) pa_nil))))
  (pss_cons (ps_ost (pv 0) (pv 1))
  (pss_one (ps_ost (pv 0) (pv 2))))), init2_reads rfl h⟩
/-- the bounds that are asked -/
def Bnd (s : Str) (b : Int) : Prop := (s = "top" ∧ b = 60) ∨ (s = "beats" ∧ b = 400) ∨ (s = "play" ∧ b = 60)
def ph_check (ad : Ad) : List MC → List Rv → List MC → Out → Prop := fun M rs M' o => ∃ s b m, M = [] ∧ rs = [rstr s, rint m] ∧ Bnd s b ∧ m ≤ b ∧ M' = [] ∧ o = .ret .non
abbrev sp_check (K : PySem.W.Frag) (ad : Ad) : Sp := FSp K (ph_check ad)
theorem ok_check {P : Program} {w : World} {K : PySem.W.Frag} {mg : Str → Option Value} {base : Heap} {ad : Ad} {fd : Fd} (T : Txt K mg w ad fd) : FnOk P w K mg base (L2N.CX P w) 3 ad.a_check fd.d_check ["what", "number"] (sp_check K ad) := by
  have G_TooMany___init__ := ok_TooMany___init__ (P := P) (base := base) T
  have b_TooMany___init__ := T.F_TooMany___init__.binds (ps := ["self", "what"]) fun _ _ _ _ _ _ us hl => match us, hl with | [_, _], _ => rfl
  refine DL.Fun.okN (k := 2) T.F_check sc_check (fun vs H Q E h => ?_) (fun cdv A outer s H vs Q E hr h => ?_)
  · exact h.len fun M rs M' o ⟨_, _, _, _, e, _⟩ => by rw [e]; rfl
  · have hu := hu_of hr
    refine ⟨_, (pss_one (ps_if (pt_cmpR op_gt (pv 1) (pe_ix (ix_kdictK (K := K) (w := w) rfl rfl) (pe_glob (v := .ref ad.c_LIMITS) rfl T.g_LIMITS rfl) (pv 0) (fun _ _ => rfl)) (nomark _)) (pss_one (L2N.ps_raise rfl (L2N.takes_of rfl rfl rfl rfl) (pmk_ini T.oe_TooMany T.m_TooMany___init__.at_ (beq_iff_eq.mp T.m_TooMany___init__.fn) G_TooMany___init__ (hr.mono (by first | decide | omega)) b_TooMany___init__ rfl T.g_TooMany (pa_cons (pv 0) pa_nil)))) pss_nil)), ?_⟩
    try dsimp only [cxOf, Cx.nox, Cx.wish, List.map]
    refine h.reading fun F As M rs M' o hΦ hL B S hB hA post => ?_
    obtain ⟨s, b, m, rfl, rfl, hb, hm, rfl, rfl⟩ := hΦ
    have kd : L2.KDct K w ad.c_LIMITS s (.int b) := by
      rcases hb with ⟨rfl, rfl⟩ | ⟨rfl, rfl⟩ | ⟨rfl, rfl⟩
      · exact T.x_top
      · exact T.x_beats
      · exact T.x_play
    refine s_if S (b := decide (b < m)) (et_test (ev_op (ev_var (r := rint m) rfl) (ev_kdict (ev_var (r := rstr s) rfl) kd) od_bool)) (fun hc => absurd (of_decide_eq_true hc) (by omega)) ?_
    intro _ F As σ H S
    exact post _ _ _ _ _ _ _ S rfl .non
def ph_chw (ad : Ad) : List MC → List Rv → List MC → Out → Prop := fun M rs M' o => ∃ s m b, M = [] ∧ rs = [rstr s, rint m, rint b] ∧ m ≤ b ∧ M' = [] ∧ o = .ret .non
abbrev sp_check_within (K : PySem.W.Frag) (ad : Ad) : Sp := FSp K (ph_chw ad)
theorem ok_check_within {P : Program} {w : World} {K : PySem.W.Frag} {mg : Str → Option Value} {base : Heap} {ad : Ad} {fd : Fd} (T : Txt K mg w ad fd) : FnOk P w K mg base (L2N.CX P w) 3 ad.a_check_within fd.d_check_within ["what", "number", "bound"] (sp_check_within K ad) := by
  have G_TooMany___init__ := ok_TooMany___init__ (P := P) (base := base) T
  have b_TooMany___init__ := T.F_TooMany___init__.binds (ps := ["self", "what"]) fun _ _ _ _ _ _ us hl => match us, hl with | [_, _], _ => rfl
  refine DL.Fun.okN (k := 2) T.F_check_within sc_check_within (fun vs H Q E h => ?_) (fun cdv A outer s H vs Q E hr h => ?_)
  · exact h.len fun M rs M' o ⟨_, _, _, _, e, _⟩ => by rw [e]; rfl
  · have hu := hu_of hr
    refine ⟨_, (pss_one (ps_if (pt_cmpR op_gt (pv 1) (pv 2) (nomark _)) (pss_one (L2N.ps_raise rfl (L2N.takes_of rfl rfl rfl rfl) (pmk_ini T.oe_TooMany T.m_TooMany___init__.at_ (beq_iff_eq.mp T.m_TooMany___init__.fn) G_TooMany___init__ (hr.mono (by first | decide | omega)) b_TooMany___init__ rfl T.g_TooMany (pa_cons (pv 0) pa_nil)))) pss_nil)), ?_⟩
    try dsimp only [cxOf, Cx.nox, Cx.wish, List.map]
    refine h.reading fun F As M rs M' o hΦ hL B S hB hA post => ?_
    obtain ⟨s, m, b, rfl, rfl, hm, rfl, rfl⟩ := hΦ
    refine s_if S (b := decide (b < m)) (et_test (ev_op (ev_var (r := rint m) rfl) (ev_var (r := rint b) rfl) od_bool)) (fun hc => absurd (of_decide_eq_true hc) (by omega)) ?_
    intro _ F As σ H S
    exact post _ _ _ _ _ _ _ S rfl .non
def ph_ckt (ad : Ad) : List MC → List Rv → List MC → Out → Prop := fun M rs M' o => ∃ t, M = [] ∧ rs = [rint t] ∧ 1 ≤ t ∧ M' = [] ∧ o = .ret .non
abbrev sp_check_top (K : PySem.W.Frag) (ad : Ad) : Sp := FSp K (ph_ckt ad)
theorem ok_check_top {P : Program} {w : World} {K : PySem.W.Frag} {mg : Str → Option Value} {base : Heap} {ad : Ad} {fd : Fd} (T : Txt K mg w ad fd) : FnOk P w K mg base (L2N.CX P w) 3 ad.a_check_top fd.d_check_top ["top"] (sp_check_top K ad) := by
  have G_BadSize___init__ := ok_BadSize___init__ (P := P) (base := base) T
  have b_BadSize___init__ := T.F_BadSize___init__.binds (ps := ["self", "what", "place"]) fun _ _ _ _ _ _ us hl => match us, hl with | [_, _, _], _ => rfl
  refine DL.Fun.okN (k := 2) T.F_check_top sc_check_top (fun vs H Q E h => ?_) (fun cdv A outer s H vs Q E hr h => ?_)
  · exact h.len fun M rs M' o ⟨_, _, e, _⟩ => by rw [e]; rfl
  · have hu := hu_of hr
    refine ⟨_, (pss_one (ps_if (pt_cmpR op_lt (pv 0) (pe_int) (nomark _)) (pss_one (L2N.ps_raise rfl (L2N.takes_of rfl rfl rfl rfl) (pmk_ini T.oe_BadSize T.m_BadSize___init__.at_ (beq_iff_eq.mp T.m_BadSize___init__.fn) G_BadSize___init__ (hr.mono (by first | decide | omega)) b_BadSize___init__ rfl T.g_BadSize (pa_cons (pe_str) (pa_cons (pe_int) pa_nil))))) pss_nil)), ?_⟩
    try dsimp only [cxOf, Cx.nox, Cx.wish, List.map]
    refine h.reading fun F As M rs M' o hΦ hL B S hB hA post => ?_
    obtain ⟨t, rfl, rfl, ht, rfl, rfl⟩ := hΦ
    refine s_if S (b := decide (t < 1)) (et_test (ev_op (ev_var (r := rint t) rfl) ev_int od_bool)) (fun hc => absurd (of_decide_eq_true hc) (by omega)) ?_
    intro _ F As σ H S
    exact post _ _ _ _ _ _ _ S rfl .non
/-! ### beats -/
abbrev Beat := Int × Int
/-- a beat that is allowed; a course of such -/
def BeatOk (t : Int) (c : Beat) : Prop := (0 ≤ c.1 ∧ c.1 ≤ t) ∧ 0 ≤ c.2 ∧ c.2 ≤ t
def Crs (t : Int) (cs : List Beat) : Prop := ∀ c ∈ cs, BeatOk t c
def ph_ckb (ad : Ad) : List MC → List Rv → List MC → Out → Prop := fun M rs M' o => ∃ t c n, M = [] ∧ rs = [rint t, rint c.1, rint c.2, rint n] ∧ BeatOk t c ∧ M' = [] ∧ o = .ret .non
abbrev sp_check_beat (K : PySem.W.Frag) (ad : Ad) : Sp := FSp K (ph_ckb ad)
theorem ok_check_beat {P : Program} {w : World} {K : PySem.W.Frag} {mg : Str → Option Value} {base : Heap} {ad : Ad} {fd : Fd} (T : Txt K mg w ad fd) : FnOk P w K mg base (L2N.CX P w) 3 ad.a_check_beat fd.d_check_beat ["top", "bore", "pin", "number"] (sp_check_beat K ad) := by
  have G_BadBeat___init__ := ok_BadBeat___init__ (P := P) (base := base) T
  have b_BadBeat___init__ := T.F_BadBeat___init__.binds (ps := ["self", "at"]) fun _ _ _ _ _ _ us hl => match us, hl with | [_, _], _ => rfl
  refine DL.Fun.okN (k := 2) T.F_check_beat sc_check_beat (fun vs H Q E h => ?_) (fun cdv A outer s H vs Q E hr h => ?_)
  · exact h.len fun M rs M' o ⟨_, _, _, _, e, _⟩ => by rw [e]; rfl
  · have hu := hu_of hr
    refine ⟨_, (pss_one (ps_if (PW.pt (pw_or (pt_not (pt_chain op_le op_le (pe_int) (pv 1) (pv 0))) (pw_or1 (pt_not (pt_chain op_le op_le (pe_int) (pv 2) (pv 0)))))) (pss_one (L2N.ps_raise rfl (L2N.takes_of rfl rfl rfl rfl) (pmk_ini T.oe_BadBeat T.m_BadBeat___init__.at_ (beq_iff_eq.mp T.m_BadBeat___init__.fn) G_BadBeat___init__ (hr.mono (by first | decide | omega)) b_BadBeat___init__ rfl T.g_BadBeat (pa_cons (pv 3) pa_nil)))) pss_nil)), ?_⟩
    try dsimp only [cxOf, Cx.nox, Cx.wish, List.map]
    refine h.reading fun F As M rs M' o hΦ hL B S hB hA post => ?_
    obtain ⟨t, c, n, rfl, rfl, hc, rfl, rfl⟩ := hΦ
    refine s_if S (b := false) (et_is (et_or (b := false) (c := false) (et_not (b := true) (et_test (ev_is (ev_chain3 ev_int (ev_var (r := rint c.1) rfl) od_bool (fun _ => ev_var (r := rint t) rfl) (fun _ => od_bool)) (by rw [decide_eq_true hc.1.1, decide_eq_true hc.1.2]; rfl)))) (fun _ => et_not (b := true) (et_test (ev_is (ev_chain3 ev_int (ev_var (r := rint c.2) rfl) od_bool (fun _ => ev_var (r := rint t) rfl) (fun _ => od_bool)) (by rw [decide_eq_true hc.2.1, decide_eq_true hc.2.2]; rfl))))) rfl) (fun hc => by cases hc) ?_
    intro _ F As σ H S
    exact post _ _ _ _ _ _ _ S rfl .non
end K78
set_option Elab.async false
set_option linter.all false
set_option maxRecDepth 100000
set_option maxHeartbeats 4000000
namespace K78
open PySem L2 DL
/-! ### the purse and its draws -/
structure Pz where
  a : Int
  b : Int
  c : Int
def Pz.ns (p : Pz) : List Int := [p.a, p.b, p.c]
theorem Pz.len (p : Pz) : (Pz.ns p).length = 3 := rfl
abbrev pmc (p : Pz) : MC := .lst ((Pz.ns p).map D.int)
def draw (p : Pz) (m : Int) : Int × Pz :=
  if 0 < p.a then (p.a % m, ⟨p.a / m, p.b, p.c⟩)
  else ((((p.b * 48271 + (p.c + 1) * 69621) % 2147483647 * 16807 + (p.c + 1) * 7919) % 2147483629) / 8 % m, ⟨p.a, (p.b * 48271 + (p.c + 1) * 69621) % 2147483647, p.c + 1⟩)
theorem draw_pos {p : Pz} {m : Int} (h : 0 < p.a) : draw p m = (p.a % m, ⟨p.a / m, p.b, p.c⟩) := if_pos h
theorem draw_neg {p : Pz} {m : Int} (h : ¬ 0 < p.a) : draw p m = ((((p.b * 48271 + (p.c + 1) * 69621) % 2147483647 * 16807 + (p.c + 1) * 7919) % 2147483629) / 8 % m, ⟨p.a, (p.b * 48271 + (p.c + 1) * 69621) % 2147483647, p.c + 1⟩) := if_neg h
theorem draw_rng {p : Pz} {m : Int} (h : 0 < m) : 0 ≤ (draw p m).1 ∧ (draw p m).1 < m := by
  unfold draw
  split
  · exact ⟨Int.emod_nonneg _ (by omega), Int.emod_lt_of_pos _ h⟩
  · exact ⟨Int.emod_nonneg _ (by omega), Int.emod_lt_of_pos _ h⟩
/-- the purse behind i draws, and the i-th draw -/
def pAft (p : Pz) (m : Int) : Nat → Pz
  | 0 => p
  | i + 1 => (draw (pAft p m i) m).2
def dAt (p : Pz) (m : Int) (i : Nat) : Int := (draw (pAft p m i) m).1
theorem dAt_rng {p : Pz} {m : Int} (h : 0 < m) (i : Nat) : 0 ≤ dAt p m i ∧ dAt p m i < m := draw_rng h
def cellOf (ns : List Int) (k : Int) : Int := if k < ns.length then gI ns k else 31 * (cutD ns none (some 4)).sum
def sizeOf' (c : Int) : Int := 2 * (if c < 0 then -c else c) + (if c < 0 then 1 else 0)
def purseOf (ns : List Int) (k : Int) : Pz :=
  ⟨if 1000000000000000000 ≤ sizeOf' (cellOf ns k) then sizeOf' (cellOf ns k) else 0, (sizeOf' (cellOf ns k) + k * 104729 + 12345) % 2147483629, k⟩
def ph_draw : List MC → List Rv → List MC → Out → Prop := fun M rs M' o => ∃ p m, M = [pmc p] ∧ rs = [.cel 0, rint m] ∧ 0 < m ∧ m < 1073741824 ∧ M' = [pmc (draw p m).2] ∧ o = .ret (.int (draw p m).1)
def ph_purse : List MC → List Rv → List MC → Out → Prop := fun M rs M' o => ∃ ns k, M = [] ∧ rs = [.dat (.scr ns), rint k] ∧ 0 ≤ k ∧ ns.length ≤ 63 ∧ M' = [] ∧ o = .new (pmc (purseOf ns k))
abbrev sp__law_draw (K : PySem.W.Frag) : Sp := FSp K ph_draw
abbrev sp__law_purse (K : PySem.W.Frag) : Sp := FSp K ph_purse
/-- a draw, from the cell k -/
theorem ev_draw {K : PySem.W.Frag} {t : TA} {M M1 : List MC} {E : List (Option Rv)} {k : Nat} {m : Int} {p : Pz} (ha : EvA K t M E M1 [.cel k, rint m]) (hk : M1[k]? = some (pmc p)) (h0 : 0 < m) (h1 : m < 1073741824) :
    EvD K (tCall (FSp K ph_draw) [] E0 t) M E (M1.set k (pmc (draw p m).2)) (rint (draw p m).1) :=
  ev_call1 ha (by intro z; cases z) hk (by intro z; cases z) ⟨p, m, rfl, rfl, h0, h1, rfl, rfl⟩
/-- a draw, the purse the first cell -/
theorem ev_drawC {K : PySem.W.Frag} {t : TA} {Ms : List MC} {E : List (Option Rv)} {m : Int} {p : Pz} (ha : EvA K t (pmc p :: Ms) E (pmc p :: Ms) [.cel 0, rint m]) (h0 : 0 < m) (h1 : m < 1073741824) :
    EvD K (tCall (FSp K ph_draw) [] E0 t) (pmc p :: Ms) E (pmc (draw p m).2 :: Ms) (rint (draw p m).1) := ev_draw ha rfl h0 h1
/-- the i-th draw of a row -/
theorem ev_drawS {K : PySem.W.Frag} {t : TA} {Ms : List MC} {E : List (Option Rv)} {m : Int} {p : Pz} {i : Nat} (ha : EvA K t (pmc (pAft p m i) :: Ms) E (pmc (pAft p m i) :: Ms) [.cel 0, rint m]) (h0 : 0 < m) (h1 : m < 1073741824) :
    EvD K (tCall (FSp K ph_draw) [] E0 t) (pmc (pAft p m i) :: Ms) E (pmc (pAft p m (i + 1)) :: Ms) (rint (dAt p m i)) := ev_draw ha rfl h0 h1

/-! ### the steps: one rule an expression, by its reading's head -/
local macro_rules | `(tactic| wtm_at "ev") => `(tactic| first
  | exact ev_var rfl
  | exact ev_int
  | exact ev_non
  | exact ev_bl
  | exact ev_str
  | exact ea_nil
  | with_reducible apply ea_cons
  | ((with_reducible refine' ev_isi ?a ?b ?c); (case' a => repeat' wtm_at "ev"); (case' b => exact rfl); (case' c => exact rfl))
  | with_reducible apply ev_cb
  | with_reducible apply ev_op
  | with_reducible apply ev_un
  | with_reducible apply et_test
  | with_reducible apply et_B
  | with_reducible apply et_not
  | with_reducible apply ev_isN
  | with_reducible apply ev_notN
  | with_reducible apply ev_notV
  | with_reducible apply et_and
  | with_reducible apply et_or
  | with_reducible apply ev_andV
  | with_reducible apply ev_orV
  | with_reducible apply ev_ifI
  | with_reducible apply ev_ifD
  | ((with_reducible refine' ev_dnotin ?a ?b ?c ?d); (case' a => repeat' wtm_at "ev"); (case' b => repeat' wtm_at "ev"); (case' c => exact rfl); (case' d => first | exact .inl rfl | exact .inr ⟨_, rfl, rfl⟩))
  | ((with_reducible refine' ev_din ?a ?b ?c ?d); (case' a => repeat' wtm_at "ev"); (case' b => repeat' wtm_at "ev"); (case' c => exact rfl); (case' d => first | exact .inl rfl | exact .inr ⟨_, rfl, rfl⟩))
  | with_reducible apply ev_lcLAI
  | with_reducible apply ev_lcLII
  | with_reducible apply ev_lcLA
  | with_reducible apply ev_lcLI
  | with_reducible apply ev_lcRAI
  | with_reducible apply ev_lcRI
  | with_reducible apply ev_lcRA
  | with_reducible apply ev_lcR
  | exact et_yes
  | with_reducible intro _
  | exact od_int
  | exact od_bool
  | exact od_eqI
  | exact od_neI
  | exact od_eqS
  | exact od_neS
  | exact ud_neg
  | exact cd_abs
  | exact cd_max2
  | exact cd_min2
  | exact cd_int
  | exact cd_intB
  | exact cd_lenScr
  | exact cd_lenT
  | exact cd_lenI (.inl rfl)
  | exact cd_lenI (.inr ⟨_, rfl, rfl⟩)
  | exact cd_len (.inl rfl)
  | exact cd_len (.inr ⟨_, rfl, rfl⟩)
  | exact cd_lenD (.inl rfl)
  | exact cd_lenD (.inr ⟨_, rfl, rfl⟩)
  | exact cd_sum (.inl rfl)
  | exact cd_sorted (.inl rfl)
  | exact cd_list (.inl rfl)
  | exact cd_listT
  | exact eo_none
  | with_reducible apply eo_some
  | with_reducible apply ev_sliceScr
  | refine' ev_sliceI ?_ ?_ ?_ (.inl rfl)
  | with_reducible apply od_intC
  | with_reducible apply od_ixScr
  | refine' od_ixI (.inl rfl) ?_ ?_
  | refine' od_ixI (.inr ⟨_, rfl, rfl⟩) ?_ ?_
  | exact od_ixT rfl
  | exact od_inI (.inl rfl)
  | exact od_notinI (.inl rfl)
  | refine' od_cat (.inl rfl) (.inl rfl) ?_
  | ((with_reducible refine' ev_tup ?h ?r ?l); (case' h => repeat' wtm_at "ev"); (case' r => exact rfl); (case' l => exact Nat.le_of_ble_eq_true rfl))
  | (refine (show CMul _ _ from .inl ⟨?_, ?_⟩) <;> decide)
  | (refine (show CMul _ _ from .inr ⟨?_, ?_⟩) <;> decide)
  | (refine (show (_ : Prop) from ?_); assumption)
  | (refine (show CDiv _ _ from ⟨?_, ?_⟩) <;> omega)
  | (refine (show CPow _ _ from ⟨?_, ?_, ?_⟩) <;> decide)
  | omega
  | (simp only [Pz.len]; done)
  | (simp only [Pz.len, List.length_map, List.length_append, List.length_range, List.length_set, List.length_reverse]; omega))
/-! a statement's step: its values are reckoned, what is left is the way on -/
local macro_rules | `(tactic| wtm_at "st") => `(tactic| first
  | (refine' q_set (by assumption) ?h ?k; (case' h => repeat' wtm_at "ev"); (case' k => (intro _ _ _ _ _; try dsimp only)))
  | (refine' s_set (by assumption) ?h ?k; (case' h => repeat' wtm_at "ev"); (case' k => (intro _ _ _ _ _; try dsimp only)))
  | (refine' q_augS (by assumption) ?h1 ?h2 ?h3 ?r1 ?r2 ?s1 ?s2 ?k; (case' h1 => repeat' wtm_at "ev"); (case' h2 => repeat' wtm_at "ev"); (case' h3 => repeat' wtm_at "ev"); (case' r1 => exact rfl); (case' r2 => exact rfl); (case' s1 => try wtm_at "ev"); (case' s2 => try wtm_at "ev"); (case' k => (intro _ _ _ _ _; try dsimp only)))
  | (refine' s_augS (by assumption) ?h1 ?h2 ?h3 ?r1 ?r2 ?s1 ?s2 ?k; (case' h1 => repeat' wtm_at "ev"); (case' h2 => repeat' wtm_at "ev"); (case' h3 => repeat' wtm_at "ev"); (case' r1 => exact rfl); (case' r2 => exact rfl); (case' s1 => try wtm_at "ev"); (case' s2 => try wtm_at "ev"); (case' k => (intro _ _ _ _ _; try dsimp only)))
  | (refine' q_setLI (by assumption) ?h ?h1 ?h2 ?r1 ?s1 ?s2 ?k; (case' h => repeat' wtm_at "ev"); (case' h1 => repeat' wtm_at "ev"); (case' h2 => repeat' wtm_at "ev"); (case' r1 => exact rfl); (case' s1 => try wtm_at "ev"); (case' s2 => try wtm_at "ev"); (case' k => (intro _ _ _ _ _; try dsimp only)))
  | (refine' q_setL (by assumption) ?h ?h1 ?h2 ?r1 ?s1 ?s2 ?k; (case' h => repeat' wtm_at "ev"); (case' h1 => repeat' wtm_at "ev"); (case' h2 => repeat' wtm_at "ev"); (case' r1 => exact rfl); (case' s1 => try wtm_at "ev"); (case' s2 => try wtm_at "ev"); (case' k => (intro _ _ _ _ _; try dsimp only)))
  | (refine' s_setLI (by assumption) ?h ?h1 ?h2 ?r1 ?s1 ?s2 ?k; (case' h => repeat' wtm_at "ev"); (case' h1 => repeat' wtm_at "ev"); (case' h2 => repeat' wtm_at "ev"); (case' r1 => exact rfl); (case' s1 => try wtm_at "ev"); (case' s2 => try wtm_at "ev"); (case' k => (intro _ _ _ _ _; try dsimp only)))
  | (refine' s_setL (by assumption) ?h ?h1 ?h2 ?r1 ?s1 ?s2 ?k; (case' h => repeat' wtm_at "ev"); (case' h1 => repeat' wtm_at "ev"); (case' h2 => repeat' wtm_at "ev"); (case' r1 => exact rfl); (case' s1 => try wtm_at "ev"); (case' s2 => try wtm_at "ev"); (case' k => (intro _ _ _ _ _; try dsimp only)))
  | (refine' q_appI (by assumption) ?h1 ?h ?r1 ?r2 ?s ?k; (case' h1 => repeat' wtm_at "ev"); (case' h => repeat' wtm_at "ev"); (case' r1 => exact rfl); (case' r2 => exact rfl); (case' s => try wtm_at "ev"); (case' k => (intro _ _ _ _ _; try dsimp only)))
  | (refine' q_app (by assumption) ?h1 ?h ?r1 ?r2 ?s ?k; (case' h1 => repeat' wtm_at "ev"); (case' h => repeat' wtm_at "ev"); (case' r1 => exact rfl); (case' r2 => exact rfl); (case' s => try wtm_at "ev"); (case' k => (intro _ _ _ _ _; try dsimp only)))
  | (refine' s_appI (by assumption) ?h1 ?h ?r1 ?r2 ?s ?k; (case' h1 => repeat' wtm_at "ev"); (case' h => repeat' wtm_at "ev"); (case' r1 => exact rfl); (case' r2 => exact rfl); (case' s => try wtm_at "ev"); (case' k => (intro _ _ _ _ _; try dsimp only)))
  | (refine' s_app (by assumption) ?h1 ?h ?r1 ?r2 ?s ?k; (case' h1 => repeat' wtm_at "ev"); (case' h => repeat' wtm_at "ev"); (case' r1 => exact rfl); (case' r2 => exact rfl); (case' s => try wtm_at "ev"); (case' k => (intro _ _ _ _ _; try dsimp only)))
  | (refine' q_dput (by assumption) ?h ?h1 ?h2 ?r1 ?r2 ?s ?k; (case' h => repeat' wtm_at "ev"); (case' h1 => repeat' wtm_at "ev"); (case' h2 => repeat' wtm_at "ev"); (case' r1 => exact rfl); (case' r2 => exact rfl); (case' s => try wtm_at "ev"); (case' k => (intro _ _ _ _ _; try dsimp only)))
  | (refine' s_dput (by assumption) ?h ?h1 ?h2 ?r1 ?r2 ?s ?k; (case' h => repeat' wtm_at "ev"); (case' h1 => repeat' wtm_at "ev"); (case' h2 => repeat' wtm_at "ev"); (case' r1 => exact rfl); (case' r2 => exact rfl); (case' s => try wtm_at "ev"); (case' k => (intro _ _ _ _ _; try dsimp only)))
  | (refine' q_tup2 (by assumption) ?h ?k; (case' h => repeat' wtm_at "ev"); (case' k => (intro _ _ _ _ _; try dsimp only)))
  | (refine' q_drop (by assumption) ?h ?k; (case' h => repeat' wtm_at "ev"); (case' k => (intro _ _ _ _ _; try dsimp only)))
  | (refine' q_if (by assumption) ?h ?k1 ?k2; (case' h => repeat' wtm_at "ev"))
  | (refine' s_if (by assumption) ?h ?k1 ?k2; (case' h => repeat' wtm_at "ev"))
  | (refine' s_ret (by assumption) ?h ?k; (case' h => repeat' wtm_at "ev"); (case' k => (intro _ _ _ _ _ _ _; try dsimp only)))
  | (refine' q_ret (by assumption) ?h ?k; (case' h => repeat' wtm_at "ev"); (case' k => (intro _ _ _ _ _ _ _; try dsimp only)))
  | ((with_reducible refine' s_next (by assumption) ?k); (case' k => (intro _ _ _ _ _; try dsimp only)))
  | (with_reducible refine q_next ?_))

theorem ok__law_draw {P : Program} {w : World} {K : PySem.W.Frag} {mg : Str → Option Value} {base : Heap} {ad : Ad} {fd : Fd} (T : Txt K mg w ad fd) : FnOk P w K mg base CX0 1 ad.a__law_draw fd.d__law_draw ["purse", "many"] (sp__law_draw K) := by
  refine L2.Fun.ok (k := 0) T.F__law_draw sc__law_draw (fun vs H Q E h => ?_) (fun cdv A outer s H vs Q E hr h => ?_)
  · exact h.len fun M rs M' o ⟨p, m, _, e, _⟩ => by rw [e]; rfl
  · refine ⟨_, (pss_cons (ps_if (pt_cmpR op_gt (pe_ix (ix_listK (K := K) rfl) (pv 0) (pe_int) (fun _ _ => rfl)) (pe_int) (nomark _)) (pss_cons (ps_set (i := 2) sc__law_draw.nd rfl (by first | exact Or.inl rfl | exact Or.inr rfl) (pe_op op_mod (pe_callTy call_int1 (by rfl) T.n_int (by decide +kernel) (pa_cons (pe_ix (ix_listK (K := K) rfl) (pv 0) (pe_int) (fun _ _ => rfl)) pa_nil)) (pv 1)))
  (pss_cons (ps_asg (pe_op op_fdiv (pe_ix (ix_listK (K := K) rfl) (pv 0) (pe_int) (fun _ _ => rfl)) (pv 1)) (pg_sub (pv 0) (pe_int) set_list))
  (pss_one (ps_ret (pv 2))))) pss_nil)
  (pss_cons (ps_augS (pv 0) (pe_int) (pget_listK (K := K) rfl) (pe_int) ip_add set_list)
  (pss_cons (ps_asg (pe_op op_mod (pe_callTy call_int1 (by rfl) T.n_int (by decide +kernel) (pa_cons (pe_op op_add (pe_op op_mul (pe_ix (ix_listK (K := K) rfl) (pv 0) (pe_int) (fun _ _ => rfl)) (pe_int)) (pe_op op_mul (pe_ix (ix_listK (K := K) rfl) (pv 0) (pe_int) (fun _ _ => rfl)) (pe_int))) pa_nil)) (pe_int)) (pg_sub (pv 0) (pe_int) set_list))
  (pss_one (ps_ret (pe_op op_mod (pe_op op_fdiv (pe_op op_mod (pe_callTy call_int1 (by rfl) T.n_int (by decide +kernel) (pa_cons (pe_op op_add (pe_op op_mul (pe_ix (ix_listK (K := K) rfl) (pv 0) (pe_int) (fun _ _ => rfl)) (pe_int)) (pe_op op_mul (pe_ix (ix_listK (K := K) rfl) (pv 0) (pe_int) (fun _ _ => rfl)) (pe_int))) pa_nil)) (pe_int)) (pe_int)) (pv 1))))))), ?_⟩
    try dsimp only [cxOf, Cx.nox, Cx.wish, List.map]
    refine h.reading fun F As M rs M' o hΦ hL B S hB hA post => ?_
    obtain ⟨p, m, rfl, rfl, h1, h2, rfl, rfl⟩ := hΦ
    dsimp only at post
    wtm_at "st"
    · intro hc F As σ H S
      have hc : 0 < p.a := of_decide_eq_true hc
      rw [draw_pos hc] at post
      wtm_at "st"
      wtm_at "st"
      wtm_at "st"
      exact post _ _ _ _ _ _ _ (by assumption) rfl (by assumption)
    · intro hc F As σ H S
      have hc : ¬ 0 < p.a := of_decide_eq_false hc
      rw [draw_neg hc] at post
      wtm_at "st"
      wtm_at "st"
      wtm_at "st"
      wtm_at "st"
      exact post _ _ _ _ _ _ _ (by assumption) rfl (by assumption)
theorem ok__law_purse {P : Program} {w : World} {K : PySem.W.Frag} {mg : Str → Option Value} {base : Heap} {ad : Ad} {fd : Fd} (T : Txt K mg w ad fd) : FnOk P w K mg base CX0 1 ad.a__law_purse fd.d__law_purse ["script", "at"] (sp__law_purse K) := by
  refine L2.Fun.ok (k := 0) T.F__law_purse sc__law_purse (fun vs H Q E h => ?_) (fun cdv A outer s H vs Q E hr h => ?_)
  · exact h.len fun M rs M' o ⟨ns, k, _, e, _⟩ => by rw [e]; rfl
  · refine ⟨_, (pss_cons (ps_set (i := 2) sc__law_purse.nd rfl (by first | exact Or.inl rfl | exact Or.inr rfl) (pe_ifExp (pt_cmpR op_lt (pv 1) (pe_callB (call_lenK (K := K) rfl) (by rfl) T.n_len (by decide +kernel) (pa_cons (pv 0) pa_nil)) (nomark _)) (pe_callTy call_int1 (by rfl) T.n_int (by decide +kernel) (pa_cons (pe_ix (ix_listK (K := K) rfl) (pv 0) (pv 1) (fun _ _ => rfl)) pa_nil)) (pe_op op_mul (pe_int) (pe_callB (cr_sumK (K := K) rfl rfl) (by rfl) T.n_sum (by decide +kernel) (pa_cons (pe_lc rfl sc__law_purse.nd (pi_listK (K := K) rfl (pe_slice (sl_listK (K := K) rfl) (pv 0) po_none (po_some (pe_int)))) (blkOk_by (own := [("one", 3)]) (N := N__law_purse) (sc := defScope s__law_purse) (by decide +kernel)) (fun _ _ _ _ _ => (pg_name (i := 3) sc__law_purse.nd rfl (by first | exact Or.inl rfl | exact Or.inr rfl))) (fun _ _ _ _ _ => pts_nil) (fun _ _ _ _ _ => (pe_callTy call_int1 (by rfl) T.n_int (by decide +kernel) (pa_cons (pv 3) pa_nil)))) pa_nil)))))
  (pss_cons (ps_set (i := 4) sc__law_purse.nd rfl (by first | exact Or.inl rfl | exact Or.inr rfl) (pe_op op_add (pe_op op_mul (pe_int) (pe_callB call_abs (by rfl) T.n_abs (by decide +kernel) (pa_cons (pv 2) pa_nil))) (pe_ifExp (pt_cmpR op_lt (pv 2) (pe_int) (nomark _)) (pe_int) (pe_int))))
  (pss_one (ps_ret (pe_lst (pa_cons (pe_ifExp (pt_cmpR op_ge (pv 4) (pe_op op_pow (pe_int) (pe_int)) (nomark _)) (pv 4) (pe_int)) (pa_cons (pe_op op_mod (pe_callTy call_int1 (by rfl) T.n_int (by decide +kernel) (pa_cons (pe_op op_add (pe_op op_add (pv 4) (pe_op op_mul (pv 1) (pe_int))) (pe_int)) pa_nil)) (pe_int)) (pa_cons (pv 1) pa_nil)))))))), ?_⟩
    try dsimp only [cxOf, Cx.nox, Cx.wish, List.map]
    refine h.reading fun F As M rs M' o hΦ hL B S hB hA post => ?_
    obtain ⟨ns, k, rfl, rfl, h1, h2, rfl, rfl⟩ := hΦ
    dsimp only at post
    refine q_set S (r := rint (cellOf ns k)) (M' := []) ?_ ?_
    · refine ev_if (b := decide (k < ns.length)) (M1 := []) ?_ ?_ ?_
      · repeat' wtm_at "ev"
      · intro hc
        have hc : k < ns.length := of_decide_eq_true hc
        rw [show cellOf ns k = gI ns k from if_pos hc]
        repeat' wtm_at "ev"
      · intro hc
        have hc : ¬ k < ns.length := of_decide_eq_false hc
        rw [show cellOf ns k = 31 * (cutD ns none (some 4)).sum from if_neg hc]
        refine' ev_is ?h ?e
        case' h =>
          repeat' wtm_at "ev"
        · have := cutD_len ns none (some 4)
          omega
        case e => rw [List.map_id']
    · intro F As σ H S
      wtm_at "st"
      refine' s_ret (by assumption) (ev_lstM ?h ?r ?l) ?k
      case' h => repeat' wtm_at "ev"
      case' r => exact rfl
      case' l => exact Nat.le_of_ble_eq_true rfl
      intro v F As σ H S rv
      refine post _ _ _ _ _ _ _ _ S rfl (Nat.le_refl _) ?_ (by intro z; cases z) rv
      show some (MC.lst _) = some (MC.lst _)
      simp only [Pz.ns, purseOf, sizeOf', decide_eq_true_eq, List.map_cons, List.map_nil]
      rfl
def ph_match : Nat → List MC → List Rv → List MC → Out → Prop
  | 0, _, _, _, _ => False
  | n + 1, M, rs, M', o => ∃ d, M = [] ∧ rs = [.dat d, .dat d] ∧ Plain (n + 1) d ∧ M' = [] ∧ o = .ret (.bl true)
abbrev sp__law_matches (n : Nat) (K : PySem.W.Frag) : Sp := FSp K (ph_match n)
theorem no__law_matches {M : List MC} {rs : List Rv} {M' : List MC} {o : Out} (h : ph_match 0 M rs M' o) : False := h
theorem FSp.any {K : PySem.W.Frag} {Φ : List MC → List Rv → List MC → Out → Prop} {vs : List V} {H : Hp} {Q : VK} {X : XK} (h : FSp K Φ vs H Q X) : Φ h.choose_spec.choose_spec.choose h.choose_spec.choose_spec.choose_spec.choose h.choose_spec.choose_spec.choose_spec.choose_spec.choose h.choose_spec.choose_spec.choose_spec.choose_spec.choose_spec.choose := h.choose_spec.choose_spec.choose_spec.choose_spec.choose_spec.choose_spec.2.2.1
theorem ok__law_matches {P : Program} {w : World} {K : PySem.W.Frag} {mg : Str → Option Value} {base : Heap} {ad : Ad} {fd : Fd} (T : Txt K mg w ad fd) : ∀ n : Nat, FnOk P w K mg base CX0 (n + 1) ad.a__law_matches fd.d__law_matches ["answer", "due"] (sp__law_matches n K)
  | 0 => L2.Fun.ok (k := 0) T.F__law_matches sc__law_matches (fun vs H Q E h => h.len fun M rs M' o z => (no__law_matches z).elim) (fun cdv A outer s H vs Q E hr h => (no__law_matches (FSp.any h)).elim)
  | n + 1 => by
    have G__law_matches := ok__law_matches (P := P) (base := base) T n
    have b__law_matches := T.F__law_matches.binds (ps := ["answer", "due"]) fun _ _ _ _ _ _ us hl => match us, hl with | [_, _], _ => rfl
    refine L2.Fun.ok (k := n + 1) T.F__law_matches sc__law_matches (fun vs H Q E h => ?_) (fun cdv A outer s H vs Q E hr h => ?_)
    · exact h.len fun M rs M' o ⟨d, _, e, _⟩ => by rw [e]; rfl
    · have hu := hu_of hr
      refine ⟨_, (pss_cons (ps_if (PW.pt (pw_or (pt_cmp (pc_isN (pv 1))) (pw_or1 (pt_cmp (pc_isN (pv 0)))))) (pss_one (ps_ret ((pe_and (pe_cmp (pc_isN (pv 1))) (pe_one (pe_cmp (pc_isN (pv 0)))))))) pss_nil)
  (pss_cons (ps_if (PW.pt (pw_or (pt_val (pe_callB (call_isiK' (K := K) rfl) (by rfl) T.n_isinstance (by decide +kernel) (pa_cons (pv 1) (pa_cons (pe_bltn (v := .ty "bool") rfl T.n_bool (by decide +kernel) rfl) pa_nil)))) (pw_or1 (pt_val (pe_callB (call_isiK' (K := K) rfl) (by rfl) T.n_isinstance (by decide +kernel) (pa_cons (pv 0) (pa_cons (pe_bltn (v := .ty "bool") rfl T.n_bool (by decide +kernel) rfl) pa_nil))))))) (pss_one (ps_ret ((pe_and (pe_callB (call_isiK' (K := K) rfl) (by rfl) T.n_isinstance (by decide +kernel) (pa_cons (pv 1) (pa_cons (pe_bltn (v := .ty "bool") rfl T.n_bool (by decide +kernel) rfl) pa_nil))) (pe_and (pe_callB (call_isiK' (K := K) rfl) (by rfl) T.n_isinstance (by decide +kernel) (pa_cons (pv 0) (pa_cons (pe_bltn (v := .ty "bool") rfl T.n_bool (by decide +kernel) rfl) pa_nil))) (pe_one (pe_cmpR (op_eqDK (K := K) hr.units rfl) (pv 0) (pv 1) (nomark _)))))))) pss_nil)
  (pss_cons (ps_if (pt_val (pe_callB (call_isiK' (K := K) rfl) (by rfl) T.n_isinstance (by decide +kernel) (pa_cons (pv 1) (pa_cons (pe_bltn (v := .ty "int") rfl T.n_int (by decide +kernel) rfl) pa_nil)))) (pss_one (ps_ret ((pe_and (pe_callB (call_isiK' (K := K) rfl) (by rfl) T.n_isinstance (by decide +kernel) (pa_cons (pv 0) (pa_cons (pe_bltn (v := .ty "int") rfl T.n_int (by decide +kernel) rfl) pa_nil))) (pe_one (pe_cmpR (op_eqDK (K := K) hr.units rfl) (pv 0) (pv 1) (nomark _))))))) pss_nil)
  (pss_cons (ps_if (pt_val (pe_callB (call_isiK' (K := K) rfl) (by rfl) T.n_isinstance (by decide +kernel) (pa_cons (pv 1) (pa_cons (pe_bltn (v := .ty "str") rfl T.n_str (by decide +kernel) rfl) pa_nil)))) (pss_one (ps_ret ((pe_and (pe_callB (call_isiK' (K := K) rfl) (by rfl) T.n_isinstance (by decide +kernel) (pa_cons (pv 0) (pa_cons (pe_bltn (v := .ty "str") rfl T.n_str (by decide +kernel) rfl) pa_nil))) (pe_one (pe_cmpR (op_eqDK (K := K) hr.units rfl) (pv 0) (pv 1) (nomark _))))))) pss_nil)
  (pss_cons (ps_if (PW.pt (pw_and (pt_val (pe_callB (call_isiK' (K := K) rfl) (by rfl) T.n_isinstance (by decide +kernel) (pa_cons (pv 1) (pa_cons (pe_bltn (v := .ty "tuple") rfl T.n_tuple (by decide +kernel) rfl) pa_nil)))) (pw_and1 (pt_not (pt_val (pe_callB (call_isiK' (K := K) rfl) (by rfl) T.n_isinstance (by decide +kernel) (pa_cons (pv 0) (pa_cons (pe_bltn (v := .ty "tuple") rfl T.n_tuple (by decide +kernel) rfl) pa_nil)))))))) (pss_one (ps_ret (pe_bl))) pss_nil)
  (pss_cons (ps_if (PW.pt (pw_and (pt_val (pe_callB (call_isiK' (K := K) rfl) (by rfl) T.n_isinstance (by decide +kernel) (pa_cons (pv 1) (pa_cons (pe_bltn (v := .ty "list") rfl T.n_list (by decide +kernel) rfl) pa_nil)))) (pw_and1 (pt_not (pt_val (pe_callB (call_isiK' (K := K) rfl) (by rfl) T.n_isinstance (by decide +kernel) (pa_cons (pv 0) (pa_cons (pe_bltn (v := .ty "list") rfl T.n_list (by decide +kernel) rfl) pa_nil)))))))) (pss_one (ps_ret (pe_bl))) pss_nil)
  (pss_cons (ps_if (pt_cmpR op_ne (pe_callB (call_lenK (K := K) rfl) (by rfl) T.n_len (by decide +kernel) (pa_cons (pv 0) pa_nil)) (pe_callB (call_lenK (K := K) rfl) (by rfl) T.n_len (by decide +kernel) (pa_cons (pv 1) pa_nil)) (nomark _)) (pss_one (ps_ret (pe_bl))) pss_nil)
  (pss_cons (ps_for PassesOwn.never rfl (pi_range1 (by rfl) T.n_range (pa_cons (pe_callB (call_lenK (K := K) rfl) (by rfl) T.n_len (by decide +kernel) (pa_cons (pv 1) pa_nil)) pa_nil)) (pg_name (i := 2) sc__law_matches.nd rfl (by first | exact Or.inl rfl | exact Or.inr rfl))
  (pss_one (ps_if (pt_not (pt_val (pe_call G__law_matches (hr.mono (by first | decide | omega)) rfl T.g__law_matches T.F__law_matches.kp b__law_matches .nil pass0 (pa_cons (pe_ix (ix_seqK (K := K) rfl) (pv 0) (pv 2) (fun _ _ => rfl)) (pa_cons (pe_ix (ix_seqK (K := K) rfl) (pv 1) (pv 2) (fun _ _ => rfl)) pa_nil))))) (pss_one (ps_ret (pe_bl))) pss_nil)))
  (pss_one (ps_ret (pe_bl))))))))))), ?_⟩
      try dsimp only [cxOf, Cx.nox, Cx.wish, List.map]
      refine h.reading fun F As M rs M' o hΦ hL B S hB hA post => ?_
      obtain ⟨d, rfl, rfl, hp, rfl, rfl⟩ := hΦ
      dsimp only at post
      cases d with
      | non =>
        wtm_at "st"
        case k2 => intro hc; cases hc
        case k1 =>
        intro hc F As σ H S
        try dsimp only
        wtm_at "st"
        exact post _ _ _ _ _ _ _ (by assumption) rfl (by assumption)
      | bl b =>
        wtm_at "st"
        case k1 => intro hc; cases hc
        case k2 =>
        intro hc F As σ H S
        try dsimp only
        wtm_at "st"
        wtm_at "st"
        case k2 => intro hc; cases hc
        case k1 =>
        intro hc F As σ H S
        try dsimp only
        refine s_ret S (r := rbl (true && (true && true))) (M' := []) ?_ fun v F As σ H S r => post _ _ _ _ _ _ _ S rfl r
        repeat' first | exact od_eqS1 (.bl _) rfl | wtm_at "ev"
      | int b =>
        wtm_at "st"
        case k1 => intro hc; cases hc
        case k2 =>
        intro hc F As σ H S
        try dsimp only
        wtm_at "st"
        wtm_at "st"
        case k1 => intro hc; cases hc
        case k2 =>
        intro hc F As σ H S
        try dsimp only
        wtm_at "st"
        wtm_at "st"
        case k2 => intro hc; cases hc
        case k1 =>
        intro hc F As σ H S
        try dsimp only
        refine s_ret S (r := rbl (true && true)) (M' := []) ?_ fun v F As σ H S r => post _ _ _ _ _ _ _ S rfl r
        repeat' first | exact od_eqS1 (.int _) rfl | wtm_at "ev"
      | str b =>
        wtm_at "st"
        case k1 => intro hc; cases hc
        case k2 =>
        intro hc F As σ H S
        try dsimp only
        wtm_at "st"
        wtm_at "st"
        case k1 => intro hc; cases hc
        case k2 =>
        intro hc F As σ H S
        try dsimp only
        wtm_at "st"
        wtm_at "st"
        case k1 => intro hc; cases hc
        case k2 =>
        intro hc F As σ H S
        try dsimp only
        wtm_at "st"
        wtm_at "st"
        case k2 => intro hc; cases hc
        case k1 =>
        intro hc F As σ H S
        try dsimp only
        refine s_ret S (r := rbl (true && true)) (M' := []) ?_ fun v F As σ H S r => post _ _ _ _ _ _ _ S rfl r
        repeat' first | exact od_eqS1 (.str _) (by simp [SeqAt.shaped, PyData.canLay0, PyData.depth]; exact hp) | wtm_at "ev"
      | lst ds =>
        obtain ⟨hl, hp⟩ := hp
        wtm_at "st"
        case k1 => intro hc; cases hc
        case k2 =>
        intro hc F As σ H S
        try dsimp only
        wtm_at "st"
        wtm_at "st"
        case k1 => intro hc; cases hc
        case k2 =>
        intro hc F As σ H S
        try dsimp only
        wtm_at "st"
        wtm_at "st"
        case k1 => intro hc; cases hc
        case k2 =>
        intro hc F As σ H S
        try dsimp only
        wtm_at "st"
        wtm_at "st"
        case k1 => intro hc; cases hc
        case k2 =>
        intro hc F As σ H S
        try dsimp only
        wtm_at "st"
        wtm_at "st"
        case k1 => intro hc; cases hc
        case k2 =>
        intro hc F As σ H S
        try dsimp only
        wtm_at "st"
        wtm_at "st"
        case k1 => intro hc; cases hc
        case k2 =>
        intro hc F As σ H S
        try dsimp only
        wtm_at "st"
        wtm_at "st"
        case k1 => intro hc; simp at hc
        case k2 =>
        intro hc F As σ H S
        try dsimp only
        wtm_at "st"
        refine' q_forR1 (by assumption) (n := ds.length) ?h ?hn (fun i M E => M = [] ∧ ∃ x, E = [some (.dat (.lst ds)), some (.dat (.lst ds)), x]) ?h0 ?hb ?hd
        case h => repeat' wtm_at "ev"
        case hn => omega
        case h0 => exact ⟨rfl, _, rfl⟩
        case hd =>
          rintro M E ⟨rfl, x, rfl⟩ F As σ H S
          wtm_at "st"
          exact post _ _ _ _ _ _ _ (by assumption) rfl (by assumption)
        case hb =>
          rintro i M E hi ⟨rfl, x, rfl⟩ F As σ H S
          try dsimp only
          have hi : i < ds.length := by omega
          have hg : atI ds (i : Nat) = some ds[i] := atI_of (by omega) (by rw [Int.toNat_natCast]; exact List.getElem?_eq_getElem hi)
          refine' s_if S (b := false) (et_not (b := true) (et_B (ev_call0 (d := .bl true) (ea_cons (ev_op (ev_var rfl) (ev_var rfl) ?g1) (ea_cons (ev_op (ev_var rfl) (ev_var rfl) ?g2) ea_nil)) ?g3 ?g4))) ?g5 ?g6
          case g1 => exact od_ixD (.inl rfl) hg
          case g2 => exact od_ixD (.inl rfl) hg
          case g3 => intro z; cases z
          case g4 =>
            cases n with
            | zero => exact (hp _ (List.getElem_mem hi)).elim
            | succ n => exact ⟨_, rfl, rfl, hp _ (List.getElem_mem hi), rfl, rfl⟩
          case g5 => intro hc; cases hc
          case g6 =>
            intro hc F As σ H S
            exact s_end S ⟨rfl, _, rfl⟩ (Ele.refl _)
      | tup ds =>
        obtain ⟨hl, hp⟩ := hp
        wtm_at "st"
        case k1 => intro hc; cases hc
        case k2 =>
        intro hc F As σ H S
        try dsimp only
        wtm_at "st"
        wtm_at "st"
        case k1 => intro hc; cases hc
        case k2 =>
        intro hc F As σ H S
        try dsimp only
        wtm_at "st"
        wtm_at "st"
        case k1 => intro hc; cases hc
        case k2 =>
        intro hc F As σ H S
        try dsimp only
        wtm_at "st"
        wtm_at "st"
        case k1 => intro hc; cases hc
        case k2 =>
        intro hc F As σ H S
        try dsimp only
        wtm_at "st"
        wtm_at "st"
        case k1 => intro hc; cases hc
        case k2 =>
        intro hc F As σ H S
        try dsimp only
        wtm_at "st"
        wtm_at "st"
        case k1 => intro hc; cases hc
        case k2 =>
        intro hc F As σ H S
        try dsimp only
        wtm_at "st"
        wtm_at "st"
        case k1 => intro hc; simp at hc
        case k2 =>
        intro hc F As σ H S
        try dsimp only
        wtm_at "st"
        refine' q_forR1 (by assumption) (n := ds.length) ?h ?hn (fun i M E => M = [] ∧ ∃ x, E = [some (.dat (.tup ds)), some (.dat (.tup ds)), x]) ?h0 ?hb ?hd
        case h => repeat' wtm_at "ev"
        case hn => omega
        case h0 => exact ⟨rfl, _, rfl⟩
        case hd =>
          rintro M E ⟨rfl, x, rfl⟩ F As σ H S
          wtm_at "st"
          exact post _ _ _ _ _ _ _ (by assumption) rfl (by assumption)
        case hb =>
          rintro i M E hi ⟨rfl, x, rfl⟩ F As σ H S
          try dsimp only
          have hi : i < ds.length := by omega
          have hg : atI ds (i : Nat) = some ds[i] := atI_of (by omega) (by rw [Int.toNat_natCast]; exact List.getElem?_eq_getElem hi)
          refine' s_if S (b := false) (et_not (b := true) (et_B (ev_call0 (d := .bl true) (ea_cons (ev_op (ev_var rfl) (ev_var rfl) ?g1) (ea_cons (ev_op (ev_var rfl) (ev_var rfl) ?g2) ea_nil)) ?g3 ?g4))) ?g5 ?g6
          case g1 => exact od_ixDT hg
          case g2 => exact od_ixDT hg
          case g3 => intro z; cases z
          case g4 =>
            cases n with
            | zero => exact (hp _ (List.getElem_mem hi)).elim
            | succ n => exact ⟨_, rfl, rfl, hp _ (List.getElem_mem hi), rfl, rfl⟩
          case g5 => intro hc; cases hc
          case g6 =>
            intro hc F As σ H S
            exact s_end S ⟨rfl, _, rfl⟩ (Ele.refl _)
      | dct _ => exact hp.elim
      | ins _ _ => exact hp.elim
      | err _ _ _ _ => exact hp.elim
      | scr _ => exact hp.elim
end K78
set_option Elab.async false
set_option linter.all false
set_option maxRecDepth 100000
set_option maxHeartbeats 4000000
namespace K78
open PySem L2 DL
/-! ### greatest from a level on -/
theorem arr_mem {n : Nat} {f : Nat → Int} {v : Int} : v ∈ arr n f ↔ ∃ k, k < n ∧ f k = v := by
  unfold arr
  rw [List.mem_map]
  exact ⟨fun ⟨k, a, b⟩ => ⟨k, List.mem_range.mp a, b⟩, fun ⟨k, a, b⟩ => ⟨k, List.mem_range.mpr a, b⟩⟩
def mxU (f : Int → Int) (t e : Int) : Int := mxI ([0] ++ arr (t + 1 - e).toNat fun k => f (e + (k : Int)))
theorem mxU_le {f : Int → Int} {t e v : Int} : mxU f t e ≤ v ↔ 0 ≤ v ∧ ∀ e', e ≤ e' → e' ≤ t → f e' ≤ v := by
  have ne : ([0] ++ arr (t + 1 - e).toNat fun k => f (e + (k : Int))) ≠ [] := by simp
  constructor
  · intro h
    refine ⟨Int.le_trans (mxI_ge (List.mem_append_left _ (List.mem_singleton_self _))) h, fun e' h1 h2 => Int.le_trans (mxI_ge (List.mem_append_right _ (arr_mem.mpr ⟨(e' - e).toNat, by omega, ?_⟩))) h⟩
    rw [show e + (((e' - e).toNat : Nat) : Int) = e' by omega]
  · rintro ⟨h0, h⟩
    rcases List.mem_append.mp (mxI_mem ne) with q | q
    · have q := List.mem_singleton.mp q
      unfold mxU
      omega
    · obtain ⟨k, hk, e1⟩ := arr_mem.mp q
      unfold mxU
      rw [← e1]
      exact h _ (by omega) (by omega)
theorem mxU_nn {f : Int → Int} {t e : Int} : 0 ≤ mxU f t e := (mxU_le.mp (Int.le_refl _)).1
theorem mxU_ge {f : Int → Int} {t e e' : Int} (h1 : e ≤ e') (h2 : e' ≤ t) : f e' ≤ mxU f t e := (mxU_le.mp (Int.le_refl _)).2 e' h1 h2
theorem mxU_ext {f g : Int → Int} {t e : Int} (h : ∀ e', e ≤ e' → e' ≤ t → f e' = g e') : mxU f t e = mxU g t e :=
  Int.le_antisymm (mxU_le.mpr ⟨mxU_nn, fun e' h1 h2 => by rw [h e' h1 h2]; exact mxU_ge h1 h2⟩) (mxU_le.mpr ⟨mxU_nn, fun e' h1 h2 => by rw [← h e' h1 h2]; exact mxU_ge h1 h2⟩)
theorem mxU_mono {f g : Int → Int} {t e : Int} (h : ∀ e', e ≤ e' → e' ≤ t → f e' ≤ g e') : mxU f t e ≤ mxU g t e := mxU_le.mpr ⟨mxU_nn, fun e' h1 h2 => Int.le_trans (h e' h1 h2) (mxU_ge h1 h2)⟩
theorem mxU_anti {f : Int → Int} {t e d : Int} (h : e ≤ d) : mxU f t d ≤ mxU f t e := mxU_le.mpr ⟨mxU_nn, fun e' h1 h2 => mxU_ge (by omega) h2⟩
theorem mxU_idem {f : Int → Int} {t e : Int} : mxU (mxU f t) t e = mxU f t e := Int.le_antisymm (mxU_le.mpr ⟨mxU_nn, fun e' h1 h2 => mxU_anti h1⟩) (mxU_le.mpr ⟨mxU_nn, fun e' h1 h2 => Int.le_trans (mxU_ge (f := f) (Int.le_refl e') h2) (mxU_ge (f := mxU f t) h1 h2)⟩)
theorem mxU_step {f : Int → Int} {t e : Int} (h : e ≤ t) : mxU f t e = if mxU f t (e + 1) ≤ f e then f e else mxU f t (e + 1) := by
  have a := mxU_anti (f := f) (t := t) (e := e) (d := e + 1) (by omega)
  have b := mxU_ge (f := f) (Int.le_refl e) h
  refine Int.le_antisymm (mxU_le.mpr ?_) ?_
  · split
    · rename_i c
      refine ⟨Int.le_trans mxU_nn c, fun e' h1 h2 => ?_⟩
      by_cases d : e' = e
      · subst d; exact Int.le_refl _
      · exact Int.le_trans (mxU_ge (by omega) h2) c
    · rename_i c
      refine ⟨mxU_nn, fun e' h1 h2 => ?_⟩
      by_cases d : e' = e
      · subst d; omega
      · exact mxU_ge (by omega) h2
  · split <;> omega
theorem mxU_end {f : Int → Int} {t : Int} : mxU f t (t + 1) = 0 := Int.le_antisymm (mxU_le.mpr ⟨Int.le_refl _, fun e' h1 h2 => by omega⟩) mxU_nn
/-! ### what a stretch is worth -/
def hit (play : Int) (c : Beat) (e : Int) : Int := (if c.1 + play < e then 1 else 0) + (if e ≤ c.2 then 1 else 0) - 1
theorem hit_play {play q : Int} {c : Beat} {e : Int} (h : play ≤ q) : hit q c e ≤ hit play c e := by
  unfold hit
  split <;> split <;> split <;> omega
def stp (t play : Int) (s : (Int → Int) × Int) (c : Beat) : (Int → Int) × Int := (fun e => mxU s.1 t e + hit play c e, if s.2 < mxU (fun e => mxU s.1 t e + hit play c e) t 1 then mxU (fun e => mxU s.1 t e + hit play c e) t 1 else s.2)
/-- behind the course: the best at each level, the best of all -/
def fol (t play : Int) (cs : List Beat) : (Int → Int) × Int := cs.foldl (stp t play) (fun _ => -1, 0)
def VV (t play : Int) (cs : List Beat) (i : Nat) : Int → Int := (fol t play (cs.take i)).1
def WW (t play : Int) (cs : List Beat) (i : Nat) : Int := (fol t play (cs.take i)).2
def worthV (t play : Int) (cs : List Beat) : Int := (fol t play cs).2
theorem fol_snoc {t play : Int} {cs : List Beat} {c : Beat} : fol t play (cs ++ [c]) = stp t play (fol t play cs) c := by
  unfold fol
  rw [List.foldl_append]; rfl
theorem take_bt {cs : List Beat} {i : Nat} {c : Beat} (h : cs[i]? = some c) : cs.take (i + 1) = cs.take i ++ [c] := by
  rw [List.take_succ, h]; rfl
theorem VV_zero {t play : Int} {cs : List Beat} : VV t play cs 0 = fun _ => -1 := rfl
theorem VV_succ {t play : Int} {cs : List Beat} {i : Nat} {c : Beat} (h : cs[i]? = some c) (e : Int) : VV t play cs (i + 1) e = mxU (VV t play cs i) t e + hit play c e := by
  unfold VV
  rw [take_bt h, fol_snoc]; rfl
theorem WW_succ {t play : Int} {cs : List Beat} {i : Nat} {c : Beat} (h : cs[i]? = some c) : WW t play cs (i + 1) = if WW t play cs i < mxU (VV t play cs (i + 1)) t 1 then mxU (VV t play cs (i + 1)) t 1 else WW t play cs i := by
  have e : VV t play cs (i + 1) = fun e => mxU (VV t play cs i) t e + hit play c e := funext fun e => VV_succ h e
  rw [e]
  unfold WW VV
  rw [take_bt h, fol_snoc]; rfl
theorem WW_all {t play : Int} {cs : List Beat} : WW t play cs cs.length = worthV t play cs := by
  unfold WW worthV
  rw [List.take_length]
theorem fol_ok {t play : Int} : ∀ cs : List Beat, 0 ≤ (fol t play cs).2 ∧ mxU (fol t play cs).1 t 1 ≤ (fol t play cs).2 := fun cs => by
  have h : ∀ n : Nat, ∀ cs : List Beat, cs.length = n → 0 ≤ (fol t play cs).2 ∧ mxU (fol t play cs).1 t 1 ≤ (fol t play cs).2 := by
    intro n
    induction n with
    | zero =>
      intro cs hc
      have : cs = [] := List.eq_nil_of_length_eq_zero hc
      subst this
      exact ⟨Int.le_refl _, mxU_le.mpr ⟨Int.le_refl _, fun e' _ _ => by show (-1 : Int) ≤ 0; omega⟩⟩
    | succ n ih =>
      intro cs hc
      have hne : cs ≠ [] := by rintro rfl; cases hc
      rw [← List.dropLast_concat_getLast hne, fol_snoc]
      obtain ⟨a, b⟩ := ih cs.dropLast (by rw [List.length_dropLast]; omega)
      unfold stp
      dsimp only
      split <;> exact ⟨by omega, by omega⟩
  exact h _ cs rfl
theorem worth_nn {t play : Int} {cs : List Beat} : 0 ≤ worthV t play cs := (fol_ok cs).1
theorem WW_nn {t play : Int} {cs : List Beat} {i : Nat} : 0 ≤ WW t play cs i := (fol_ok _).1
theorem WW_ge {t play : Int} {cs : List Beat} : ∀ {i : Nat} (j : Nat), j ≤ i → i ≤ cs.length → ∀ e, 1 ≤ e → e ≤ t → VV t play cs j e ≤ WW t play cs i
  | 0, j, h, _, e, h1, h2 => by
    have : j = 0 := by omega
    subst this
    show (-1 : Int) ≤ 0
    omega
  | i + 1, j, h, hl, e, h1, h2 => by
    have hc : cs[i]? = some cs[i] := List.getElem?_eq_getElem (by omega)
    rw [WW_succ hc]
    by_cases c : j = i + 1
    · subst c
      have := mxU_ge (f := VV t play cs (i + 1)) (t := t) h1 h2
      split <;> omega
    · have := WW_ge (t := t) (play := play) (cs := cs) (i := i) j (by omega) (by omega) e h1 h2
      split <;> omega
/-! ### play -/
theorem fol_play {t play q : Int} (h : play ≤ q) : ∀ cs : List Beat, (∀ e, e ≤ t → (fol t q cs).1 e ≤ (fol t play cs).1 e) ∧ (fol t q cs).2 ≤ (fol t play cs).2 := fun cs => by
  have go : ∀ (cs : List Beat) (s s' : (Int → Int) × Int), (∀ e, e ≤ t → s.1 e ≤ s'.1 e) → s.2 ≤ s'.2 → (∀ e, e ≤ t → (cs.foldl (stp t q) s).1 e ≤ (cs.foldl (stp t play) s').1 e) ∧ (cs.foldl (stp t q) s).2 ≤ (cs.foldl (stp t play) s').2 := by
    intro cs
    induction cs with
    | nil => exact fun s s' a b => ⟨a, b⟩
    | cons c cs ih =>
      intro s s' a b
      have a' : ∀ e, e ≤ t → mxU s.1 t e + hit q c e ≤ mxU s'.1 t e + hit play c e := fun e he => by
        have h1 := mxU_mono (t := t) (e := e) fun e' _ h2 => a e' h2
        have h2 := hit_play (c := c) (e := e) h
        omega
      refine ih _ _ a' ?_
      have h3 := mxU_mono (t := t) (e := 1) (f := fun e => mxU s.1 t e + hit q c e) (g := fun e => mxU s'.1 t e + hit play c e) fun e' _ h2 => a' e' h2
      show (if _ then _ else _) ≤ (if _ then _ else _)
      split <;> split <;> omega
  exact go cs _ _ (fun e _ => Int.le_refl _) (Int.le_refl _)
theorem worth_play {t play q : Int} {cs : List Beat} (h : play ≤ q) : worthV t q cs ≤ worthV t play cs := (fol_play h cs).2
theorem worth_top {t play : Int} (h : t ≤ play) : ∀ cs : List Beat, (∀ c ∈ cs, 0 ≤ c.1) → worthV t play cs = 0 := fun cs hc => by
  have go : ∀ (cs : List Beat) (s : (Int → Int) × Int), (∀ c ∈ cs, 0 ≤ c.1) → (∀ e, e ≤ t → s.1 e ≤ 0) → s.2 = 0 → (cs.foldl (stp t play) s).2 = 0 := by
    intro cs
    induction cs with
    | nil => exact fun s _ _ b => b
    | cons c cs ih =>
      intro s hc a b
      have h0 := hc c (List.mem_cons_self ..)
      have a' : ∀ e, e ≤ t → mxU s.1 t e + hit play c e ≤ 0 := fun e he => by
        have h1 : mxU s.1 t e ≤ 0 := mxU_le.mpr ⟨Int.le_refl _, fun e' _ h2 => a e' h2⟩
        have h2 : hit play c e ≤ 0 := by
          unfold hit
          rw [if_neg (by omega)]
          split <;> omega
        omega
      refine ih _ (fun c hc' => hc c (List.mem_cons_of_mem _ hc')) a' ?_
      have h3 : mxU (fun e => mxU s.1 t e + hit play c e) t 1 ≤ 0 := mxU_le.mpr ⟨Int.le_refl _, fun e' _ h2 => a' e' h2⟩
      show (if _ then _ else _) = (0 : Int)
      rw [if_neg (by omega)]
      exact b
  exact go cs _ hc (fun e _ => by show (-1 : Int) ≤ 0; omega) rfl
/-! ### even beats -/
inductive Eas : List Beat → List Beat → Prop where
  | nil : Eas [] []
  | even {cs ds : List Beat} (s : Int) (h : Eas cs ds) : Eas cs (ds ++ [(s, s)])
  | beat {cs ds : List Beat} (c : Beat) (h : Eas cs ds) : Eas (cs ++ [c]) (ds ++ [c])
theorem hit_even {s e : Int} : hit 0 (s, s) e = 0 := by
  unfold hit
  dsimp only
  split <;> split <;> omega
theorem eas_same {t : Int} {cs ds : List Beat} (h : Eas cs ds) : (∀ e, 1 ≤ e → mxU (fol t 0 cs).1 t e = mxU (fol t 0 ds).1 t e) ∧ (fol t 0 cs).2 = (fol t 0 ds).2 := by
  induction h with
  | nil => exact ⟨fun _ _ => rfl, rfl⟩
  | @even cs ds s h ih =>
    obtain ⟨a, b⟩ := ih
    obtain ⟨k1, k2⟩ := fol_ok (t := t) (play := 0) ds
    have ex : ∀ e, mxU (fun e => mxU (fol t 0 ds).1 t e + hit 0 (s, s) e) t e = mxU (fol t 0 ds).1 t e := fun e => by
      rw [mxU_ext (g := mxU (fol t 0 ds).1 t) fun e' _ _ => by rw [hit_even]; omega, mxU_idem]
    rw [fol_snoc]
    refine ⟨fun e he => ?_, ?_⟩
    · rw [a e he]
      exact (ex e).symm
    · rw [b]
      show _ = (if _ then _ else _)
      rw [ex 1, if_neg (by omega)]
  | @beat cs ds c h ih =>
    obtain ⟨a, b⟩ := ih
    have e1 : ∀ e, 1 ≤ e → mxU (fun e => mxU (fol t 0 cs).1 t e + hit 0 c e) t e = mxU (fun e => mxU (fol t 0 ds).1 t e + hit 0 c e) t e := fun e he => mxU_ext fun e' h1 _ => by rw [a e' (by omega)]
    rw [fol_snoc, fol_snoc]
    refine ⟨e1, ?_⟩
    show (if _ then _ else _) = (if _ then _ else _)
    rw [e1 1 (Int.le_refl _), b]
theorem worth_eas {t : Int} {cs ds : List Beat} (h : Eas cs ds) : worthV t 0 ds = worthV t 0 cs := (eas_same h).2.symm
/-! ### single levels -/
def X0 (cs : List Beat) : Nat → Int → Int
  | 0, _ => 0
  | i + 1, e => if 0 ≤ X0 cs i e + hit 0 (cs.getD i (0, 0)) e then X0 cs i e + hit 0 (cs.getD i (0, 0)) e else 0
def PK (cs : List Beat) : Nat → Int → Int
  | 0, _ => 0
  | i + 1, e => if PK cs i e < X0 cs (i + 1) e then X0 cs (i + 1) e else PK cs i e
theorem X0_succ {cs : List Beat} {i : Nat} {e : Int} : X0 cs (i + 1) e = if 0 ≤ X0 cs i e + hit 0 (cs.getD i (0, 0)) e then X0 cs i e + hit 0 (cs.getD i (0, 0)) e else 0 := rfl
theorem PK_succ {cs : List Beat} {i : Nat} {e : Int} : PK cs (i + 1) e = if PK cs i e < X0 cs (i + 1) e then X0 cs (i + 1) e else PK cs i e := rfl
theorem X0_nn {cs : List Beat} {e : Int} : ∀ i : Nat, 0 ≤ X0 cs i e
  | 0 => Int.le_refl _
  | i + 1 => by
    rw [X0_succ]
    split <;> omega
theorem PK_nn {cs : List Beat} {e : Int} : ∀ i : Nat, 0 ≤ PK cs i e
  | 0 => Int.le_refl _
  | i + 1 => by
    have := PK_nn (cs := cs) (e := e) i
    rw [PK_succ]
    split <;> omega
theorem PK_up {cs : List Beat} {e : Int} {i : Nat} : PK cs i e ≤ PK cs (i + 1) e ∧ X0 cs (i + 1) e ≤ PK cs (i + 1) e := by
  rw [PK_succ]
  split <;> constructor <;> omega
theorem PK_ge {cs : List Beat} {e : Int} : ∀ {i : Nat} (j : Nat), j ≤ i → X0 cs j e ≤ PK cs i e
  | 0, j, h => by
    have : j = 0 := by omega
    subst this
    exact Int.le_refl _
  | i + 1, j, h => by
    by_cases c : j = i + 1
    · subst c; exact PK_up.2
    · exact Int.le_trans (PK_ge (i := i) j (by omega)) PK_up.1
theorem getD_bt {cs : List Beat} {i : Nat} {c : Beat} (h : cs[i]? = some c) : cs.getD i (0, 0) = c := by rw [List.getD_eq_getElem?_getD, h]; rfl
theorem V_low {t : Int} {cs : List Beat} : ∀ {i : Nat}, i ≤ cs.length → ∀ e, 1 ≤ e → e ≤ t → X0 cs i e ≤ mxU (VV t 0 cs i) t e
  | 0, _, e, _, _ => mxU_nn
  | i + 1, hl, e, h1, h2 => by
    have hc : cs[i]? = some cs[i] := List.getElem?_eq_getElem (by omega)
    have ih := V_low (t := t) (cs := cs) (i := i) (by omega) e h1 h2
    have a := mxU_ge (f := VV t 0 cs (i + 1)) (Int.le_refl e) h2
    have n := mxU_nn (f := VV t 0 cs (i + 1)) (t := t) (e := e)
    rw [VV_succ hc] at a
    rw [X0_succ, getD_bt hc]
    split <;> omega
theorem peak_le {t : Int} {cs : List Beat} : ∀ {i : Nat}, i ≤ cs.length → ∀ e, 1 ≤ e → e ≤ t → PK cs i e ≤ WW t 0 cs i
  | 0, _, e, _, _ => WW_nn
  | i + 1, hl, e, h1, h2 => by
    have hc : cs[i]? = some cs[i] := List.getElem?_eq_getElem (by omega)
    have ih := peak_le (t := t) (cs := cs) (i := i) (by omega) e h1 h2
    have a := V_low (t := t) (cs := cs) (i := i + 1) hl e h1 h2
    have b := mxU_anti (f := VV t 0 cs (i + 1)) (t := t) h1
    have c : WW t 0 cs i ≤ WW t 0 cs (i + 1) ∧ mxU (VV t 0 cs (i + 1)) t 1 ≤ WW t 0 cs (i + 1) := by
      rw [WW_succ hc]
      split <;> constructor <;> omega
    rw [PK_succ]
    split <;> omega
/-- the peaks of the k levels below the top, added up -/
def sumP (cs : List Beat) (i : Nat) (t : Int) : Nat → Int
  | 0 => 0
  | k + 1 => sumP cs i t k + PK cs i (t - (k : Int))
theorem sumP_nn {cs : List Beat} {i : Nat} {t : Int} : ∀ k, 0 ≤ sumP cs i t k
  | 0 => Int.le_refl _
  | k + 1 => by
    have := sumP_nn (cs := cs) (i := i) (t := t) k
    have := PK_nn (cs := cs) (e := t - (k : Int)) i
    show 0 ≤ sumP cs i t k + _
    omega
theorem sumP_up {cs : List Beat} {i : Nat} {t : Int} : ∀ {k l : Nat}, k ≤ l → sumP cs i t k ≤ sumP cs i t l
  | k, 0, h => by
    have : k = 0 := by omega
    subst this; exact Int.le_refl _
  | k, l + 1, h => by
    by_cases c : k = l + 1
    · subst c; exact Int.le_refl _
    · have := sumP_up (cs := cs) (i := i) (t := t) (k := k) (l := l) (by omega)
      have := PK_nn (cs := cs) (e := t - (l : Int)) i
      show _ ≤ sumP cs i t l + _
      omega
theorem sumP_mono {cs : List Beat} {i : Nat} {t : Int} : ∀ k, sumP cs i t k ≤ sumP cs (i + 1) t k
  | 0 => Int.le_refl _
  | k + 1 => by
    have := sumP_mono (cs := cs) (i := i) (t := t) k
    have := (PK_up (cs := cs) (e := t - (k : Int)) (i := i)).1
    show sumP cs i t k + _ ≤ sumP cs (i + 1) t k + _
    omega
theorem V_high {t : Int} {cs : List Beat} : ∀ {i : Nat}, i ≤ cs.length → ∀ k : Nat, VV t 0 cs i (t - (k : Int)) ≤ X0 cs i (t - (k : Int)) + sumP cs i t k
  | 0, _, k => by
    have := sumP_nn (cs := cs) (i := 0) (t := t) k
    show (-1 : Int) ≤ 0 + _
    omega
  | i + 1, hl, k => by
    have hc : cs[i]? = some cs[i] := List.getElem?_eq_getElem (by omega)
    have ih := V_high (t := t) (cs := cs) (i := i) (by omega)
    have m : mxU (VV t 0 cs i) t (t - (k : Int)) ≤ X0 cs i (t - (k : Int)) + sumP cs i t k := mxU_le.mpr ⟨by
      have := sumP_nn (cs := cs) (i := i) (t := t) k
      have := X0_nn (cs := cs) (e := t - (k : Int)) i
      omega, fun e' h1 h2 => by
      by_cases c : e' = t - (k : Int)
      · rw [c]; exact ih k
      · have h3 := ih (t - e').toNat
        rw [show t - (((t - e').toNat : Nat) : Int) = e' by omega] at h3
        have h4 := PK_ge (cs := cs) (e := e') (i := i) i (Nat.le_refl _)
        have h5 := sumP_up (cs := cs) (i := i) (t := t) (k := (t - e').toNat + 1) (l := k) (by omega)
        have h6 : sumP cs i t ((t - e').toNat + 1) = sumP cs i t (t - e').toNat + PK cs i e' := by
          show sumP cs i t _ + PK cs i (t - (((t - e').toNat : Nat) : Int)) = _
          rw [show t - (((t - e').toNat : Nat) : Int) = e' by omega]
        have h7 := X0_nn (cs := cs) (e := t - (k : Int)) i
        omega⟩
    have s := sumP_mono (cs := cs) (i := i) (t := t) k
    rw [VV_succ hc, X0_succ, getD_bt hc]
    split <;> omega
theorem worth_sum {t : Int} {cs : List Beat} (ht : 1 ≤ t) : ∀ {i : Nat}, i ≤ cs.length → WW t 0 cs i ≤ sumP cs i t t.toNat
  | 0, _ => by
    show (0 : Int) ≤ _
    exact sumP_nn _
  | i + 1, hl => by
    have hc : cs[i]? = some cs[i] := List.getElem?_eq_getElem (by omega)
    have ih := worth_sum (cs := cs) ht (i := i) (by omega)
    have s := sumP_mono (cs := cs) (i := i) (t := t) t.toNat
    have m : mxU (VV t 0 cs (i + 1)) t 1 ≤ sumP cs (i + 1) t t.toNat := mxU_le.mpr ⟨sumP_nn _, fun e' h1 h2 => by
      have h3 := V_high (t := t) (i := i + 1) hl (t - e').toNat
      rw [show t - (((t - e').toNat : Nat) : Int) = e' by omega] at h3
      have h4 := PK_ge (cs := cs) (e := e') (i := i + 1) (i + 1) (Nat.le_refl _)
      have h5 := sumP_up (cs := cs) (i := i + 1) (t := t) (k := (t - e').toNat + 1) (l := t.toNat) (by omega)
      have h6 : sumP cs (i + 1) t ((t - e').toNat + 1) = sumP cs (i + 1) t (t - e').toNat + PK cs (i + 1) e' := by
        show sumP cs (i + 1) t _ + PK cs (i + 1) (t - (((t - e').toNat : Nat) : Int)) = _
        rw [show t - (((t - e').toNat : Nat) : Int) = e' by omega]
      omega⟩
    rw [WW_succ hc]
    split <;> omega
end K78
set_option Elab.async false
set_option linter.all false
set_option maxRecDepth 100000
set_option maxHeartbeats 4000000
namespace K78
open PySem L2 DL
/-! ### the steps: one rule an expression, by its reading's head -/
local macro_rules | `(tactic| wtm_at "ev") => `(tactic| first
  | exact ev_var rfl
  | exact ev_int
  | exact ev_non
  | exact ev_bl
  | exact ev_str
  | exact ea_nil
  | with_reducible apply ea_cons
  | ((with_reducible refine' ev_isi ?a ?b ?c); (case' a => repeat' wtm_at "ev"); (case' b => exact rfl); (case' c => exact rfl))
  | with_reducible apply ev_cb
  | with_reducible apply ev_op
  | with_reducible apply ev_un
  | with_reducible apply et_test
  | with_reducible apply et_B
  | with_reducible apply et_not
  | with_reducible apply ev_isN
  | with_reducible apply ev_notN
  | with_reducible apply ev_notV
  | with_reducible apply et_and
  | with_reducible apply et_or
  | with_reducible apply ev_andV
  | with_reducible apply ev_orV
  | with_reducible apply ev_ifI
  | with_reducible apply ev_ifD
  | ((with_reducible refine' ev_dnotin ?a ?b ?c ?d); (case' a => repeat' wtm_at "ev"); (case' b => repeat' wtm_at "ev"); (case' c => exact rfl); (case' d => first | exact .inl rfl | exact .inr ⟨_, rfl, rfl⟩))
  | ((with_reducible refine' ev_din ?a ?b ?c ?d); (case' a => repeat' wtm_at "ev"); (case' b => repeat' wtm_at "ev"); (case' c => exact rfl); (case' d => first | exact .inl rfl | exact .inr ⟨_, rfl, rfl⟩))
  | with_reducible apply ev_lcLAI
  | with_reducible apply ev_lcLII
  | with_reducible apply ev_lcLA
  | with_reducible apply ev_lcLI
  | with_reducible apply ev_lcRAI
  | with_reducible apply ev_lcRI
  | with_reducible apply ev_lcRA
  | with_reducible apply ev_lcR
  | exact et_yes
  | with_reducible intro _
  | exact od_int
  | exact od_bool
  | exact od_eqI
  | exact od_neI
  | exact od_eqS
  | exact od_neS
  | exact ud_neg
  | exact cd_abs
  | exact cd_max2
  | exact cd_min2
  | exact cd_int
  | exact cd_intB
  | exact cd_lenScr
  | exact cd_lenT
  | exact cd_lenI (.inl rfl)
  | exact cd_lenI (.inr ⟨_, rfl, rfl⟩)
  | exact cd_len (.inl rfl)
  | exact cd_len (.inr ⟨_, rfl, rfl⟩)
  | exact cd_lenD (.inl rfl)
  | exact cd_lenD (.inr ⟨_, rfl, rfl⟩)
  | exact cd_sum (.inl rfl)
  | exact cd_sorted (.inl rfl)
  | exact cd_list (.inl rfl)
  | exact cd_listT
  | exact eo_none
  | with_reducible apply eo_some
  | with_reducible apply ev_sliceScr
  | refine' ev_sliceI ?_ ?_ ?_ (.inl rfl)
  | with_reducible apply od_intC
  | with_reducible apply od_ixScr
  | refine' od_ixI (.inl rfl) ?_ ?_
  | refine' od_ixI (.inr ⟨_, rfl, rfl⟩) ?_ ?_
  | exact od_ixT rfl
  | exact od_inI (.inl rfl)
  | exact od_notinI (.inl rfl)
  | refine' od_cat (.inl rfl) (.inl rfl) ?_
  | ((with_reducible refine' ev_tup ?h ?r ?l); (case' h => repeat' wtm_at "ev"); (case' r => exact rfl); (case' l => exact Nat.le_of_ble_eq_true rfl))
  | (refine (show CMul _ _ from .inl ⟨?_, ?_⟩) <;> decide)
  | (refine (show CMul _ _ from .inr ⟨?_, ?_⟩) <;> decide)
  | (refine (show (_ : Prop) from ?_); assumption)
  | (refine (show CDiv _ _ from ⟨?_, ?_⟩) <;> omega)
  | (refine (show CPow _ _ from ⟨?_, ?_, ?_⟩) <;> decide)
  | omega
  | (simp only [Pz.len]; done)
  | (simp only [Pz.len, List.length_map, List.length_append, List.length_range, List.length_set, List.length_reverse]; omega))
/-! a statement's step: its values are reckoned, what is left is the way on -/
local macro_rules | `(tactic| wtm_at "st") => `(tactic| first
  | (refine' q_set (by assumption) ?h ?k; (case' h => repeat' wtm_at "ev"); (case' k => (intro _ _ _ _ _; try dsimp only)))
  | (refine' s_set (by assumption) ?h ?k; (case' h => repeat' wtm_at "ev"); (case' k => (intro _ _ _ _ _; try dsimp only)))
  | (refine' q_augS (by assumption) ?h1 ?h2 ?h3 ?r1 ?r2 ?s1 ?s2 ?k; (case' h1 => repeat' wtm_at "ev"); (case' h2 => repeat' wtm_at "ev"); (case' h3 => repeat' wtm_at "ev"); (case' r1 => exact rfl); (case' r2 => exact rfl); (case' s1 => try wtm_at "ev"); (case' s2 => try wtm_at "ev"); (case' k => (intro _ _ _ _ _; try dsimp only)))
  | (refine' s_augS (by assumption) ?h1 ?h2 ?h3 ?r1 ?r2 ?s1 ?s2 ?k; (case' h1 => repeat' wtm_at "ev"); (case' h2 => repeat' wtm_at "ev"); (case' h3 => repeat' wtm_at "ev"); (case' r1 => exact rfl); (case' r2 => exact rfl); (case' s1 => try wtm_at "ev"); (case' s2 => try wtm_at "ev"); (case' k => (intro _ _ _ _ _; try dsimp only)))
  | (refine' q_setLI (by assumption) ?h ?h1 ?h2 ?r1 ?s1 ?s2 ?k; (case' h => repeat' wtm_at "ev"); (case' h1 => repeat' wtm_at "ev"); (case' h2 => repeat' wtm_at "ev"); (case' r1 => exact rfl); (case' s1 => try wtm_at "ev"); (case' s2 => try wtm_at "ev"); (case' k => (intro _ _ _ _ _; try dsimp only)))
  | (refine' q_setL (by assumption) ?h ?h1 ?h2 ?r1 ?s1 ?s2 ?k; (case' h => repeat' wtm_at "ev"); (case' h1 => repeat' wtm_at "ev"); (case' h2 => repeat' wtm_at "ev"); (case' r1 => exact rfl); (case' s1 => try wtm_at "ev"); (case' s2 => try wtm_at "ev"); (case' k => (intro _ _ _ _ _; try dsimp only)))
  | (refine' s_setLI (by assumption) ?h ?h1 ?h2 ?r1 ?s1 ?s2 ?k; (case' h => repeat' wtm_at "ev"); (case' h1 => repeat' wtm_at "ev"); (case' h2 => repeat' wtm_at "ev"); (case' r1 => exact rfl); (case' s1 => try wtm_at "ev"); (case' s2 => try wtm_at "ev"); (case' k => (intro _ _ _ _ _; try dsimp only)))
  | (refine' s_setL (by assumption) ?h ?h1 ?h2 ?r1 ?s1 ?s2 ?k; (case' h => repeat' wtm_at "ev"); (case' h1 => repeat' wtm_at "ev"); (case' h2 => repeat' wtm_at "ev"); (case' r1 => exact rfl); (case' s1 => try wtm_at "ev"); (case' s2 => try wtm_at "ev"); (case' k => (intro _ _ _ _ _; try dsimp only)))
  | (refine' q_appI (by assumption) ?h1 ?h ?r1 ?r2 ?s ?k; (case' h1 => repeat' wtm_at "ev"); (case' h => repeat' wtm_at "ev"); (case' r1 => exact rfl); (case' r2 => exact rfl); (case' s => try wtm_at "ev"); (case' k => (intro _ _ _ _ _; try dsimp only)))
  | (refine' q_app (by assumption) ?h1 ?h ?r1 ?r2 ?s ?k; (case' h1 => repeat' wtm_at "ev"); (case' h => repeat' wtm_at "ev"); (case' r1 => exact rfl); (case' r2 => exact rfl); (case' s => try wtm_at "ev"); (case' k => (intro _ _ _ _ _; try dsimp only)))
  | (refine' s_appI (by assumption) ?h1 ?h ?r1 ?r2 ?s ?k; (case' h1 => repeat' wtm_at "ev"); (case' h => repeat' wtm_at "ev"); (case' r1 => exact rfl); (case' r2 => exact rfl); (case' s => try wtm_at "ev"); (case' k => (intro _ _ _ _ _; try dsimp only)))
  | (refine' s_app (by assumption) ?h1 ?h ?r1 ?r2 ?s ?k; (case' h1 => repeat' wtm_at "ev"); (case' h => repeat' wtm_at "ev"); (case' r1 => exact rfl); (case' r2 => exact rfl); (case' s => try wtm_at "ev"); (case' k => (intro _ _ _ _ _; try dsimp only)))
  | (refine' q_dput (by assumption) ?h ?h1 ?h2 ?r1 ?r2 ?s ?k; (case' h => repeat' wtm_at "ev"); (case' h1 => repeat' wtm_at "ev"); (case' h2 => repeat' wtm_at "ev"); (case' r1 => exact rfl); (case' r2 => exact rfl); (case' s => try wtm_at "ev"); (case' k => (intro _ _ _ _ _; try dsimp only)))
  | (refine' s_dput (by assumption) ?h ?h1 ?h2 ?r1 ?r2 ?s ?k; (case' h => repeat' wtm_at "ev"); (case' h1 => repeat' wtm_at "ev"); (case' h2 => repeat' wtm_at "ev"); (case' r1 => exact rfl); (case' r2 => exact rfl); (case' s => try wtm_at "ev"); (case' k => (intro _ _ _ _ _; try dsimp only)))
  | (refine' q_tup2 (by assumption) ?h ?k; (case' h => repeat' wtm_at "ev"); (case' k => (intro _ _ _ _ _; try dsimp only)))
  | (refine' q_drop (by assumption) ?h ?k; (case' h => repeat' wtm_at "ev"); (case' k => (intro _ _ _ _ _; try dsimp only)))
  | (refine' q_if (by assumption) ?h ?k1 ?k2; (case' h => repeat' wtm_at "ev"))
  | (refine' s_if (by assumption) ?h ?k1 ?k2; (case' h => repeat' wtm_at "ev"))
  | (refine' s_ret (by assumption) ?h ?k; (case' h => repeat' wtm_at "ev"); (case' k => (intro _ _ _ _ _ _ _; try dsimp only)))
  | (refine' q_ret (by assumption) ?h ?k; (case' h => repeat' wtm_at "ev"); (case' k => (intro _ _ _ _ _ _ _; try dsimp only)))
  | ((with_reducible refine' s_next (by assumption) ?k); (case' k => (intro _ _ _ _ _; try dsimp only)))
  | (with_reducible refine q_next ?_))

/-! ### rows -/
def bsS (f : Int → Int) (t : Int) : Nat → Int × Int
  | 0 => (0, 0)
  | k + 1 => if (bsS f t k).1 ≤ f (t - (k : Int)) then (f (t - (k : Int)), t - (k : Int)) else bsS f t k
theorem bsS_mx {f : Int → Int} {t : Int} : ∀ k : Nat, (bsS f t k).1 = mxU f t (t + 1 - (k : Int))
  | 0 => by rw [show t + 1 - ((0 : Nat) : Int) = t + 1 by omega, mxU_end]; rfl
  | k + 1 => by
    have ih := bsS_mx (f := f) (t := t) k
    rw [mxU_step (by omega), show t + 1 - ((k + 1 : Nat) : Int) + 1 = t + 1 - (k : Int) by omega, show t + 1 - ((k + 1 : Nat) : Int) = t - (k : Int) by omega, ← ih]
    show (if _ then _ else _ : Int × Int).1 = _
    split <;> rfl
theorem bsS_org {f : Int → Int} {t : Int} : ∀ k : Nat, ((bsS f t k).2 = 0 ∧ (bsS f t k).1 = 0) ∨ (t + 1 - (k : Int) ≤ (bsS f t k).2 ∧ (bsS f t k).2 ≤ t ∧ (bsS f t k).1 = f (bsS f t k).2)
  | 0 => .inl ⟨rfl, rfl⟩
  | k + 1 => by
    have ih := bsS_org (f := f) (t := t) k
    show ((if _ then _ else _ : Int × Int).2 = 0 ∧ (if _ then _ else _ : Int × Int).1 = 0) ∨ (_ ≤ (if _ then _ else _ : Int × Int).2 ∧ (if _ then _ else _ : Int × Int).2 ≤ t ∧ (if _ then _ else _ : Int × Int).1 = f (if _ then _ else _ : Int × Int).2)
    split
    · exact .inr ⟨by show _ ≤ t - (k : Int); omega, by show t - (k : Int) ≤ t; omega, rfl⟩
    · rcases ih with h | ⟨h1, h2, h3⟩
      · exact .inl h
      · exact .inr ⟨by omega, h2, h3⟩
theorem bsS_no {t : Int} : ∀ k : Nat, bsS (fun _ => -1) t k = (0, 0)
  | 0 => rfl
  | k + 1 => by
    show (if (bsS (fun _ => -1) t k).1 ≤ -1 then _ else _) = _
    rw [bsS_no k]
    rfl
def prF (f : Int → Int) (t play : Int) (c : Beat) (e : Int) : Int × Int := ((bsS f t (t + 1 - e).toNat).1 + hit play c e, (bsS f t (t + 1 - e).toNat).2)
def rowP (f : Int → Int) (t play : Int) (c : Beat) (i : Nat) : List (Int × Int) := (List.range (t + 1).toNat).map fun (e : Nat) => if t - (i : Int) < (e : Int) then prF f t play c (e : Int) else (0, 0)
def gP (G : List (Int × Int)) (i : Int) : Int × Int := G.getD i.toNat (0, 0)
def fOf (B : List (Int × Int)) : Int → Int := if B = [] then fun _ => -1 else fun e => (gP B e).1
def rowF (f : Int → Int) (t play : Int) (c : Beat) : List (Int × Int) := rowP f t play c t.toNat
def rwN (t play : Int) (cs : List Beat) : Nat → List (Int × Int)
  | 0 => []
  | i + 1 => rowF (fOf (rwN t play cs i)) t play (cs.getD i (0, 0))
theorem rowP_len {f : Int → Int} {t play : Int} {c : Beat} {i : Nat} : (rowP f t play c i).length = (t + 1).toNat := by unfold rowP; rw [List.length_map, List.length_range]
theorem rowF_at {f : Int → Int} {t play : Int} {c : Beat} {e : Int} (h1 : 1 ≤ e) (h2 : e ≤ t) : gP (rowF f t play c) e = prF f t play c e := by
  obtain ⟨k, rfl⟩ := Int.eq_ofNat_of_zero_le (show 0 ≤ e by omega)
  unfold gP rowF rowP
  rw [Int.toNat_natCast, List.getD_eq_getElem?_getD, List.getElem?_map, List.getElem?_range (by omega)]
  show (if _ then _ else _) = _
  rw [if_pos (by omega)]
theorem rowP_set {f : Int → Int} {t play : Int} {c : Beat} {i : Nat} (ht : 0 ≤ t) (h : 0 < t - (i : Int)) : (rowP f t play c i).set (t - (i : Int)).toNat (prF f t play c (t - (i : Int))) = rowP f t play c (i + 1) := by
  unfold rowP
  refine List.ext_getElem? fun k => ?_
  rw [List.getElem?_set, List.length_map, List.length_range, List.getElem?_map, List.getElem?_map]
  by_cases hk : k < (t + 1).toNat
  · rw [List.getElem?_range hk]
    by_cases e : (t - (i : Int)).toNat = k
    · rw [if_pos e, if_pos (by omega)]
      show some _ = some (if _ then _ else _)
      rw [if_pos (by omega), show ((k : Nat) : Int) = t - (i : Int) by omega]
    · rw [if_neg e]
      show some (if _ then _ else _) = some (if _ then _ else _)
      by_cases d : t - (i : Int) < (k : Int)
      · rw [if_pos d, if_pos (by omega)]
      · rw [if_neg d, if_neg (by omega)]
  · rw [List.getElem?_eq_none (by rw [List.length_range]; omega), if_neg (by omega)]
    rfl
theorem fOf_VV {t play : Int} {cs : List Beat} : ∀ {i : Nat}, i ≤ cs.length → ∀ e, 1 ≤ e → e ≤ t → fOf (rwN t play cs i) e = VV t play cs i e
  | 0, _, e, _, _ => rfl
  | i + 1, hl, e, h1, h2 => by
    have hc : cs[i]? = some cs[i] := List.getElem?_eq_getElem (by omega)
    have ih := fOf_VV (t := t) (play := play) (cs := cs) (i := i) (by omega)
    have ne : rwN t play cs (i + 1) ≠ [] := by
      intro z
      have := congrArg List.length z
      have l : (rwN t play cs (i + 1)).length = (t + 1).toNat := rowP_len
      rw [l] at this
      have : (t + 1).toNat = 0 := this
      omega
    unfold fOf
    rw [if_neg ne]
    show (gP (rowF (fOf (rwN t play cs i)) t play (cs.getD i (0, 0))) e).1 = _
    rw [rowF_at h1 h2, VV_succ hc, getD_bt hc]
    unfold prF
    dsimp only
    rw [bsS_mx, show t + 1 - (((t + 1 - e).toNat : Nat) : Int) = e by omega, mxU_ext fun e' a b => ih e' (by omega) b]
theorem rw_at {t play : Int} {cs : List Beat} {i : Nat} (hi : i < cs.length) {e : Int} (h1 : 1 ≤ e) (h2 : e ≤ t) : (gP (rwN t play cs (i + 1)) e).1 = VV t play cs (i + 1) e := by
  have h := fOf_VV (t := t) (play := play) (cs := cs) (i := i + 1) (by omega) e h1 h2
  have ne : rwN t play cs (i + 1) ≠ [] := by
    intro z
    have := congrArg List.length z
    have l : (rwN t play cs (i + 1)).length = (t + 1).toNat := rowP_len
    rw [l] at this
    have : (t + 1).toNat = 0 := this
    omega
  unfold fOf at h
  rwa [if_neg ne] at h
def org (t play : Int) (cs : List Beat) (i : Nat) (e : Int) : Int := (gP (rwN t play cs (i + 1)) e).2
theorem org_zero {t play : Int} {cs : List Beat} {e : Int} (h1 : 1 ≤ e) (h2 : e ≤ t) : org t play cs 0 e = 0 := by
  show (gP (rowF (fun _ => -1) t play (cs.getD 0 (0, 0))) e).2 = 0
  rw [rowF_at h1 h2]
  unfold prF
  rw [bsS_no]
theorem V_one {t play : Int} {cs : List Beat} (hl : 0 < cs.length) {e : Int} : VV t play cs 1 e = hit play (cs.getD 0 (0, 0)) e := by
  have hc : cs[0]? = some cs[0] := List.getElem?_eq_getElem hl
  have := VV_succ (t := t) (play := play) hc e
  rw [this, getD_bt hc]
  have : mxU (VV t play cs 0) t e = 0 := Int.le_antisymm (mxU_le.mpr ⟨Int.le_refl _, fun e' _ _ => by show (-1 : Int) ≤ 0; omega⟩) mxU_nn
  omega
theorem org_ok {t play : Int} {cs : List Beat} {i : Nat} (hi : i + 1 < cs.length) {e : Int} (h1 : 1 ≤ e) (h2 : e ≤ t) : (org t play cs (i + 1) e = 0 ∧ VV t play cs (i + 2) e = hit play (cs.getD (i + 1) (0, 0)) e) ∨ (e ≤ org t play cs (i + 1) e ∧ org t play cs (i + 1) e ≤ t ∧ VV t play cs (i + 2) e = VV t play cs (i + 1) (org t play cs (i + 1) e) + hit play (cs.getD (i + 1) (0, 0)) e) := by
  have hc : cs[i + 1]? = some cs[i + 1] := List.getElem?_eq_getElem hi
  have hv := VV_succ (t := t) (play := play) hc e
  have ex := fOf_VV (t := t) (play := play) (cs := cs) (i := i + 1) (by omega)
  have ho : org t play cs (i + 1) e = (bsS (fOf (rwN t play cs (i + 1))) t (t + 1 - e).toNat).2 := by
    show (gP (rowF (fOf (rwN t play cs (i + 1))) t play (cs.getD (i + 1) (0, 0))) e).2 = _
    rw [rowF_at h1 h2]; rfl
  have hm := bsS_mx (f := fOf (rwN t play cs (i + 1))) (t := t) (t + 1 - e).toNat
  rw [show t + 1 - (((t + 1 - e).toNat : Nat) : Int) = e by omega, mxU_ext fun e' a b => ex e' (by omega) b] at hm
  rw [ho, hv, getD_bt hc, ← hm]
  rcases bsS_org (f := fOf (rwN t play cs (i + 1))) (t := t) (t + 1 - e).toNat with ⟨a, b⟩ | ⟨a, b, c⟩
  · exact .inl ⟨a, by rw [b]; omega⟩
  · refine .inr ⟨by omega, b, ?_⟩
    rw [c, ex _ (by omega) b]
/-! ### the best end -/
abbrev T3 := Int × Int × Int
def t3D (s : T3) : D := .tup [.int s.1, .int s.2.1, .int s.2.2]
def inS (g : Int → Int) (at_ : Int) (f : T3) : Nat → T3
  | 0 => f
  | k + 1 => if (inS g at_ f k).1 < g ((k : Int) + 1) then (g ((k : Int) + 1), at_, (k : Int) + 1) else inS g at_ f k
def beN (t play : Int) (cs : List Beat) : Nat → T3
  | 0 => (0, 0, 0)
  | j + 1 => inS (fun e => (gP (rwN t play cs (j + 1)) e).1) (j : Int) (beN t play cs j) t.toNat
theorem inS_succ {g : Int → Int} {a : Int} {f : T3} {k : Nat} : inS g a f (k + 1) = if (inS g a f k).1 < g ((k : Int) + 1) then (g ((k : Int) + 1), a, (k : Int) + 1) else inS g a f k := rfl
theorem inS_ok {g : Int → Int} {a : Int} {f : T3} : ∀ k : Nat, f.1 ≤ (inS g a f k).1 ∧ (∀ e, 1 ≤ e → e ≤ (k : Int) → g e ≤ (inS g a f k).1) ∧ (inS g a f k = f ∨ ∃ e, 1 ≤ e ∧ e ≤ (k : Int) ∧ inS g a f k = (g e, a, e) ∧ f.1 < g e)
  | 0 => ⟨Int.le_refl _, fun e h1 h2 => by omega, .inl rfl⟩
  | k + 1 => by
    obtain ⟨h1, h2, h3⟩ := inS_ok (g := g) (a := a) (f := f) k
    rw [inS_succ]
    split
    · rename_i c
      refine ⟨by show f.1 ≤ g _; omega, fun e a1 a2 => ?_, .inr ⟨(k : Int) + 1, by omega, by omega, rfl, by omega⟩⟩
      show g e ≤ g ((k : Int) + 1)
      by_cases d : e = (k : Int) + 1
      · subst d; exact Int.le_refl _
      · have := h2 e a1 (by omega); omega
    · rename_i c
      refine ⟨h1, fun e a1 a2 => ?_, ?_⟩
      · by_cases d : e = (k : Int) + 1
        · subst d; omega
        · exact h2 e a1 (by omega)
      · rcases h3 with h | ⟨e, a1, a2, a3, a4⟩
        · exact .inl h
        · exact .inr ⟨e, a1, by omega, a3, a4⟩
theorem beN_ok {t play : Int} (ht : 0 ≤ t) {cs : List Beat} : ∀ {j : Nat}, j ≤ cs.length → (beN t play cs j).1 = WW t play cs j ∧ (beN t play cs j = (0, 0, 0) ∨ ∃ i e, i < j ∧ 1 ≤ e ∧ e ≤ t ∧ beN t play cs j = (VV t play cs (i + 1) e, (i : Int), e))
  | 0, _ => ⟨rfl, .inl rfl⟩
  | j + 1, hl => by
    obtain ⟨h1, h2⟩ := beN_ok (t := t) (play := play) ht (cs := cs) (j := j) (by omega)
    have hc : cs[j]? = some cs[j] := List.getElem?_eq_getElem (by omega)
    obtain ⟨a1, a2, a3⟩ := inS_ok (g := fun e => (gP (rwN t play cs (j + 1)) e).1) (a := (j : Int)) (f := beN t play cs j) t.toNat
    have hv : ∀ e, 1 ≤ e → e ≤ t → (gP (rwN t play cs (j + 1)) e).1 = VV t play cs (j + 1) e := fun e b1 b2 => rw_at (by omega) b1 b2
    show (inS _ _ _ _).1 = _ ∧ (inS _ _ _ _ = _ ∨ ∃ i e, _ ∧ _ ∧ _ ∧ inS _ _ _ _ = _)
    refine ⟨?_, ?_⟩
    · rw [WW_succ hc, ← h1]
      have w0 : 0 ≤ (beN t play cs j).1 := by rw [h1]; exact WW_nn
      have u : mxU (VV t play cs (j + 1)) t 1 ≤ (inS (fun e => (gP (rwN t play cs (j + 1)) e).1) (j : Int) (beN t play cs j) t.toNat).1 := mxU_le.mpr ⟨by omega, fun e' b1 b2 => by rw [← hv e' b1 b2]; exact a2 e' b1 (by omega)⟩
      rcases a3 with a3 | ⟨e, b1, b2, b3, b4⟩
      · rw [a3] at u ⊢
        rw [if_neg (by omega)]
      · try dsimp only at b3 b4
        have l := mxU_ge (f := VV t play cs (j + 1)) (t := t) b1 (show e ≤ t by omega)
        rw [b3] at u ⊢
        rw [hv e b1 (by omega)] at u b4 ⊢
        rw [if_pos (by omega)]
        show VV t play cs (j + 1) e = _
        have u : mxU (VV t play cs (j + 1)) t 1 ≤ VV t play cs (j + 1) e := u
        omega
    · rcases a3 with a3 | ⟨e, b1, b2, b3, b4⟩
      · rw [a3]
        rcases h2 with h2 | ⟨i, e, c1, c2, c3, c4⟩
        · exact .inl h2
        · exact .inr ⟨i, e, by omega, c2, c3, c4⟩
      · rw [b3]
        exact .inr ⟨j, e, by omega, b1, by omega, by rw [hv e b1 (by omega)]⟩
/-! ### the stretches -/
def stF (og : Nat → Int → Int) : Nat → Int → Int → List T3 → List T3
  | 0, lv, last, fd => if og 0 lv = lv then fd else (lv, 1, last + 1) :: fd
  | k + 1, lv, last, fd =>
    if og (k + 1) lv = lv then stF og k lv last fd
    else if 0 < og (k + 1) lv then stF og k (og (k + 1) lv) (k : Int) ((lv, (k : Int) + 2, last + 1) :: fd) else (lv, (k : Int) + 2, last + 1) :: fd
/-- what the beats a+1 .. a+m bring at the level e -/
def opn (play : Int) (cs : List Beat) (e : Int) (a : Nat) (m : Nat) : Int := (arr m fun k => hit play (cs.getD (a + k) (0, 0)) e).sum
def wsum (play : Int) (cs : List Beat) (s : T3) : Int := opn play cs s.1 (s.2.1 - 1).toNat (s.2.2 - s.2.1 + 1).toNat
def wall (play : Int) (cs : List Beat) (L : List T3) : Int := (L.map (wsum play cs)).sum
def Link : List T3 → Prop
  | a :: b :: r => b.1 < a.1 ∧ b.2.1 = a.2.2 + 1 ∧ Link (b :: r)
  | _ => True
def Form (t : Int) (n : Nat) (s : T3) : Prop := (1 ≤ s.1 ∧ s.1 ≤ t) ∧ 1 ≤ s.2.1 ∧ s.2.1 ≤ s.2.2 ∧ s.2.2 ≤ (n : Int)
structure Stw (t : Int) (n : Nat) (L : List T3) : Prop where
  form : ∀ s ∈ L, Form t n s
  link : Link L
theorem arr_cons {m : Nat} {f : Nat → Int} : arr (m + 1) f = f 0 :: arr m fun k => f (k + 1) := by
  unfold arr
  rw [List.range_succ_eq_map, List.map_cons, List.map_map]; rfl
theorem opn_cons {play : Int} {cs : List Beat} {e : Int} {a m : Nat} : opn play cs e a (m + 1) = hit play (cs.getD a (0, 0)) e + opn play cs e (a + 1) m := by
  unfold opn
  rw [arr_cons, List.sum_cons]
  congr 2
  exact arr_ext fun k _ => by rw [show a + (k + 1) = a + 1 + k by omega]
theorem stF_ok {t play : Int} {cs : List Beat} : ∀ (k : Nat) (lv : Int) (m : Nat) (fd : List T3), 1 ≤ lv → lv ≤ t → k + m < cs.length → Stw t cs.length fd → (∀ h r, fd = h :: r → h.1 < lv ∧ h.2.1 = ((k + m : Nat) : Int) + 2) →
    Stw t cs.length (stF (org t play cs) k lv ((k + m : Nat) : Int) fd) ∧ wall play cs (stF (org t play cs) k lv ((k + m : Nat) : Int) fd) = VV t play cs (k + 1) lv + opn play cs lv (k + 1) m + wall play cs fd := by
  have close : ∀ (k : Nat) (lv : Int) (m : Nat) (fd : List T3), 1 ≤ lv → lv ≤ t → k + m < cs.length → Stw t cs.length fd → (∀ h r, fd = h :: r → h.1 < lv ∧ h.2.1 = ((k + m : Nat) : Int) + 2) → Stw t cs.length ((lv, (k : Int) + 1, ((k + m : Nat) : Int) + 1) :: fd) ∧ wall play cs ((lv, (k : Int) + 1, ((k + m : Nat) : Int) + 1) :: fd) = hit play (cs.getD k (0, 0)) lv + opn play cs lv (k + 1) m + wall play cs fd := by
    intro k lv m fd h1 h2 hl hs hh
    refine ⟨⟨fun s hsm => ?_, ?_⟩, ?_⟩
    · rcases List.mem_cons.mp hsm with rfl | q
      · exact ⟨⟨h1, h2⟩, by show (1 : Int) ≤ (k : Int) + 1; omega, by show (k : Int) + 1 ≤ ((k + m : Nat) : Int) + 1; omega, by show ((k + m : Nat) : Int) + 1 ≤ _; omega⟩
      · exact hs.form s q
    · cases fd with
      | nil => trivial
      | cons h r =>
        obtain ⟨a, b⟩ := hh h r rfl
        exact ⟨a, by rw [b]; show _ = ((k + m : Nat) : Int) + 1 + 1; omega, hs.link⟩
    · unfold wall
      rw [List.map_cons, List.sum_cons]
      congr 1
      show opn play cs lv ((k : Int) + 1 - 1).toNat (((k + m : Nat) : Int) + 1 - ((k : Int) + 1) + 1).toNat = _
      rw [show ((k : Int) + 1 - 1).toNat = k by omega, show (((k + m : Nat) : Int) + 1 - ((k : Int) + 1) + 1).toNat = m + 1 by omega, opn_cons]
  intro k
  induction k with
  | zero =>
    intro lv m fd h1 h2 hl hs hh
    obtain ⟨c1, c2⟩ := close 0 lv m fd h1 h2 hl hs hh
    unfold stF
    rw [org_zero h1 h2, if_neg (by omega), V_one (by omega)]
    exact ⟨c1, c2⟩
  | succ k ih =>
    intro lv m fd h1 h2 hl hs hh
    unfold stF
    rcases org_ok (t := t) (play := play) (cs := cs) (i := k) (by omega) h1 h2 with ⟨a, b⟩ | ⟨a, b, c⟩
    · rw [a, if_neg (by omega), if_neg (by omega), b]
      obtain ⟨c1, c2⟩ := close (k + 1) lv m fd h1 h2 hl hs hh
      rw [show ((k + 1 : Nat) : Int) + 1 = (k : Int) + 2 by omega] at c1 c2
      exact ⟨c1, c2⟩
    · by_cases e : org t play cs (k + 1) lv = lv
      · rw [if_pos e]
        have r := ih lv (m + 1) fd h1 h2 (by omega) hs (fun h r q => by
          obtain ⟨x, y⟩ := hh h r q
          exact ⟨x, by rw [y]; omega⟩)
        rw [show ((k + (m + 1) : Nat) : Int) = ((k + 1 + m : Nat) : Int) by omega, opn_cons] at r
        rw [e] at c
        refine ⟨r.1, ?_⟩
        rw [r.2, c]
        show VV t play cs (k + 1) lv + (hit play (cs.getD (k + 1) (0, 0)) lv + opn play cs lv (k + 1 + 1) m) + _ = _
        omega
      · rw [if_neg e, if_pos (by omega)]
        obtain ⟨c1, c2⟩ := close (k + 1) lv m fd h1 h2 hl hs hh
        rw [show ((k + 1 : Nat) : Int) + 1 = (k : Int) + 2 by omega] at c1 c2
        have r := ih (org t play cs (k + 1) lv) 0 ((lv, (k : Int) + 2, ((k + 1 + m : Nat) : Int) + 1) :: fd) (by omega) b (by omega) c1 (fun h r q => by
          cases q
          exact ⟨by show lv < _; omega, by show (k : Int) + 2 = ((k + 0 : Nat) : Int) + 2; omega⟩)
        rw [show ((k + 0 : Nat) : Int) = (k : Int) by omega] at r
        refine ⟨r.1, ?_⟩
        rw [r.2, c2, c]
        have z : opn play cs (org t play cs (k + 1) lv) (k + 1) 0 = 0 := rfl
        omega
def stS (t play : Int) (cs : List Beat) : List T3 :=
  if (beN t play cs cs.length).2.2 ≤ 0 then [] else stF (org t play cs) (beN t play cs cs.length).2.1.toNat (beN t play cs cs.length).2.2 (beN t play cs cs.length).2.1 []
theorem stS_ok {t play : Int} (ht : 0 ≤ t) {cs : List Beat} : Stw t cs.length (stS t play cs) ∧ wall play cs (stS t play cs) = worthV t play cs := by
  obtain ⟨h1, h2⟩ := beN_ok (t := t) (play := play) ht (cs := cs) (Nat.le_refl _)
  rw [WW_all] at h1
  unfold stS
  have em : Stw t cs.length [] := ⟨(fun s h => nomatch h), trivial⟩
  rcases h2 with h2 | ⟨i, e, a, b, c, d⟩
  · rw [h2] at h1 ⊢
    rw [if_pos (Int.le_refl _), ← h1]
    exact ⟨em, rfl⟩
  · rw [d] at h1 ⊢
    dsimp only at h1 ⊢
    rw [if_neg (by omega), Int.toNat_natCast]
    have r := stF_ok (t := t) (play := play) (cs := cs) i e 0 [] b c (by omega) em (fun h r q => by cases q)
    rw [show ((i + 0 : Nat) : Int) = (i : Int) by omega] at r
    refine ⟨r.1, ?_⟩
    rw [r.2, ← h1]
    show _ + 0 + 0 = _
    omega
theorem link_at : ∀ {L : List T3} {i : Nat}, Link L → i + 1 < L.length → (L.getD (i + 1) (0, 0, 0)).1 < (L.getD i (0, 0, 0)).1 ∧ (L.getD (i + 1) (0, 0, 0)).2.1 = (L.getD i (0, 0, 0)).2.2 + 1
  | [], i, _, h => by simp at h
  | [a], i, _, h => by simp at h
  | a :: b :: r, 0, l, _ => ⟨l.1, l.2.1⟩
  | a :: b :: r, i + 1, l, h => link_at (L := b :: r) (i := i) l.2.2 (by simpa using h)
end K78
set_option Elab.async false
set_option linter.all false
set_option maxRecDepth 100000
set_option maxHeartbeats 4000000
namespace K78
open PySem L2 DL
/-! ### the steps: one rule an expression, by its reading's head -/
local macro_rules | `(tactic| wtm_at "ev") => `(tactic| first
  | exact ev_var rfl
  | exact ev_int
  | exact ev_non
  | exact ev_bl
  | exact ev_str
  | exact ea_nil
  | with_reducible apply ea_cons
  | ((with_reducible refine' ev_isi ?a ?b ?c); (case' a => repeat' wtm_at "ev"); (case' b => exact rfl); (case' c => exact rfl))
  | with_reducible apply ev_cb
  | with_reducible apply ev_op
  | with_reducible apply ev_un
  | with_reducible apply et_test
  | with_reducible apply et_B
  | with_reducible apply et_not
  | with_reducible apply ev_isN
  | with_reducible apply ev_notN
  | with_reducible apply ev_notV
  | with_reducible apply et_and
  | with_reducible apply et_or
  | with_reducible apply ev_andV
  | with_reducible apply ev_orV
  | with_reducible apply ev_ifI
  | with_reducible apply ev_ifD
  | ((with_reducible refine' ev_dnotin ?a ?b ?c ?d); (case' a => repeat' wtm_at "ev"); (case' b => repeat' wtm_at "ev"); (case' c => exact rfl); (case' d => first | exact .inl rfl | exact .inr ⟨_, rfl, rfl⟩))
  | ((with_reducible refine' ev_din ?a ?b ?c ?d); (case' a => repeat' wtm_at "ev"); (case' b => repeat' wtm_at "ev"); (case' c => exact rfl); (case' d => first | exact .inl rfl | exact .inr ⟨_, rfl, rfl⟩))
  | with_reducible apply ev_lcLAI
  | with_reducible apply ev_lcLII
  | with_reducible apply ev_lcLA
  | with_reducible apply ev_lcLI
  | with_reducible apply ev_lcRAI
  | with_reducible apply ev_lcRI
  | with_reducible apply ev_lcRA
  | with_reducible apply ev_lcR
  | exact et_yes
  | with_reducible intro _
  | exact od_int
  | exact od_bool
  | exact od_eqI
  | exact od_neI
  | exact od_eqS
  | exact od_neS
  | exact ud_neg
  | exact cd_abs
  | exact cd_max2
  | exact cd_min2
  | exact cd_int
  | exact cd_intB
  | exact cd_lenScr
  | exact cd_lenT
  | exact cd_lenI (.inl rfl)
  | exact cd_lenI (.inr ⟨_, rfl, rfl⟩)
  | exact cd_len (.inl rfl)
  | exact cd_len (.inr ⟨_, rfl, rfl⟩)
  | exact cd_lenD (.inl rfl)
  | exact cd_lenD (.inr ⟨_, rfl, rfl⟩)
  | exact cd_sum (.inl rfl)
  | exact cd_sorted (.inl rfl)
  | exact cd_list (.inl rfl)
  | exact cd_listT
  | exact eo_none
  | with_reducible apply eo_some
  | with_reducible apply ev_sliceScr
  | refine' ev_sliceI ?_ ?_ ?_ (.inl rfl)
  | with_reducible apply od_intC
  | with_reducible apply od_ixScr
  | refine' od_ixI (.inl rfl) ?_ ?_
  | refine' od_ixI (.inr ⟨_, rfl, rfl⟩) ?_ ?_
  | exact od_ixT rfl
  | exact od_inI (.inl rfl)
  | exact od_notinI (.inl rfl)
  | refine' od_cat (.inl rfl) (.inl rfl) ?_
  | ((with_reducible refine' ev_tup ?h ?r ?l); (case' h => repeat' wtm_at "ev"); (case' r => exact rfl); (case' l => exact Nat.le_of_ble_eq_true rfl))
  | (refine (show CMul _ _ from .inl ⟨?_, ?_⟩) <;> decide)
  | (refine (show CMul _ _ from .inr ⟨?_, ?_⟩) <;> decide)
  | (refine (show (_ : Prop) from ?_); assumption)
  | (refine (show CDiv _ _ from ⟨?_, ?_⟩) <;> omega)
  | (refine (show CPow _ _ from ⟨?_, ?_, ?_⟩) <;> decide)
  | omega
  | (simp only [Pz.len]; done)
  | (simp only [Pz.len, List.length_map, List.length_append, List.length_range, List.length_set, List.length_reverse]; omega))
/-! a statement's step: its values are reckoned, what is left is the way on -/
local macro_rules | `(tactic| wtm_at "st") => `(tactic| first
  | (refine' q_set (by assumption) ?h ?k; (case' h => repeat' wtm_at "ev"); (case' k => (intro _ _ _ _ _; try dsimp only)))
  | (refine' s_set (by assumption) ?h ?k; (case' h => repeat' wtm_at "ev"); (case' k => (intro _ _ _ _ _; try dsimp only)))
  | (refine' q_augS (by assumption) ?h1 ?h2 ?h3 ?r1 ?r2 ?s1 ?s2 ?k; (case' h1 => repeat' wtm_at "ev"); (case' h2 => repeat' wtm_at "ev"); (case' h3 => repeat' wtm_at "ev"); (case' r1 => exact rfl); (case' r2 => exact rfl); (case' s1 => try wtm_at "ev"); (case' s2 => try wtm_at "ev"); (case' k => (intro _ _ _ _ _; try dsimp only)))
  | (refine' s_augS (by assumption) ?h1 ?h2 ?h3 ?r1 ?r2 ?s1 ?s2 ?k; (case' h1 => repeat' wtm_at "ev"); (case' h2 => repeat' wtm_at "ev"); (case' h3 => repeat' wtm_at "ev"); (case' r1 => exact rfl); (case' r2 => exact rfl); (case' s1 => try wtm_at "ev"); (case' s2 => try wtm_at "ev"); (case' k => (intro _ _ _ _ _; try dsimp only)))
  | (refine' q_setLI (by assumption) ?h ?h1 ?h2 ?r1 ?s1 ?s2 ?k; (case' h => repeat' wtm_at "ev"); (case' h1 => repeat' wtm_at "ev"); (case' h2 => repeat' wtm_at "ev"); (case' r1 => exact rfl); (case' s1 => try wtm_at "ev"); (case' s2 => try wtm_at "ev"); (case' k => (intro _ _ _ _ _; try dsimp only)))
  | (refine' q_setL (by assumption) ?h ?h1 ?h2 ?r1 ?s1 ?s2 ?k; (case' h => repeat' wtm_at "ev"); (case' h1 => repeat' wtm_at "ev"); (case' h2 => repeat' wtm_at "ev"); (case' r1 => exact rfl); (case' s1 => try wtm_at "ev"); (case' s2 => try wtm_at "ev"); (case' k => (intro _ _ _ _ _; try dsimp only)))
  | (refine' s_setLI (by assumption) ?h ?h1 ?h2 ?r1 ?s1 ?s2 ?k; (case' h => repeat' wtm_at "ev"); (case' h1 => repeat' wtm_at "ev"); (case' h2 => repeat' wtm_at "ev"); (case' r1 => exact rfl); (case' s1 => try wtm_at "ev"); (case' s2 => try wtm_at "ev"); (case' k => (intro _ _ _ _ _; try dsimp only)))
  | (refine' s_setL (by assumption) ?h ?h1 ?h2 ?r1 ?s1 ?s2 ?k; (case' h => repeat' wtm_at "ev"); (case' h1 => repeat' wtm_at "ev"); (case' h2 => repeat' wtm_at "ev"); (case' r1 => exact rfl); (case' s1 => try wtm_at "ev"); (case' s2 => try wtm_at "ev"); (case' k => (intro _ _ _ _ _; try dsimp only)))
  | (refine' q_appI (by assumption) ?h1 ?h ?r1 ?r2 ?s ?k; (case' h1 => repeat' wtm_at "ev"); (case' h => repeat' wtm_at "ev"); (case' r1 => exact rfl); (case' r2 => exact rfl); (case' s => try wtm_at "ev"); (case' k => (intro _ _ _ _ _; try dsimp only)))
  | (refine' q_app (by assumption) ?h1 ?h ?r1 ?r2 ?s ?k; (case' h1 => repeat' wtm_at "ev"); (case' h => repeat' wtm_at "ev"); (case' r1 => exact rfl); (case' r2 => exact rfl); (case' s => try wtm_at "ev"); (case' k => (intro _ _ _ _ _; try dsimp only)))
  | (refine' s_appI (by assumption) ?h1 ?h ?r1 ?r2 ?s ?k; (case' h1 => repeat' wtm_at "ev"); (case' h => repeat' wtm_at "ev"); (case' r1 => exact rfl); (case' r2 => exact rfl); (case' s => try wtm_at "ev"); (case' k => (intro _ _ _ _ _; try dsimp only)))
  | (refine' s_app (by assumption) ?h1 ?h ?r1 ?r2 ?s ?k; (case' h1 => repeat' wtm_at "ev"); (case' h => repeat' wtm_at "ev"); (case' r1 => exact rfl); (case' r2 => exact rfl); (case' s => try wtm_at "ev"); (case' k => (intro _ _ _ _ _; try dsimp only)))
  | (refine' q_dput (by assumption) ?h ?h1 ?h2 ?r1 ?r2 ?s ?k; (case' h => repeat' wtm_at "ev"); (case' h1 => repeat' wtm_at "ev"); (case' h2 => repeat' wtm_at "ev"); (case' r1 => exact rfl); (case' r2 => exact rfl); (case' s => try wtm_at "ev"); (case' k => (intro _ _ _ _ _; try dsimp only)))
  | (refine' s_dput (by assumption) ?h ?h1 ?h2 ?r1 ?r2 ?s ?k; (case' h => repeat' wtm_at "ev"); (case' h1 => repeat' wtm_at "ev"); (case' h2 => repeat' wtm_at "ev"); (case' r1 => exact rfl); (case' r2 => exact rfl); (case' s => try wtm_at "ev"); (case' k => (intro _ _ _ _ _; try dsimp only)))
  | (refine' q_tup2 (by assumption) ?h ?k; (case' h => repeat' wtm_at "ev"); (case' k => (intro _ _ _ _ _; try dsimp only)))
  | (refine' q_drop (by assumption) ?h ?k; (case' h => repeat' wtm_at "ev"); (case' k => (intro _ _ _ _ _; try dsimp only)))
  | (refine' q_if (by assumption) ?h ?k1 ?k2; (case' h => repeat' wtm_at "ev"))
  | (refine' s_if (by assumption) ?h ?k1 ?k2; (case' h => repeat' wtm_at "ev"))
  | (refine' s_ret (by assumption) ?h ?k; (case' h => repeat' wtm_at "ev"); (case' k => (intro _ _ _ _ _ _ _; try dsimp only)))
  | (refine' q_ret (by assumption) ?h ?k; (case' h => repeat' wtm_at "ev"); (case' k => (intro _ _ _ _ _ _ _; try dsimp only)))
  | ((with_reducible refine' s_next (by assumption) ?k); (case' k => (intro _ _ _ _ _; try dsimp only)))
  | (with_reducible refine q_next ?_))

/-! ### the walks of the rows -/
theorem gP_at {G : List (Int × Int)} {i : Int} (h0 : 0 ≤ i) (h1 : i < G.length) : atI (G.map pairD) i = some (pairD (gP G i)) := by
  refine atI_of h0 ?_
  have h : i.toNat < G.length := by omega
  rw [List.getElem?_map, List.getElem?_eq_getElem h]
  show some (pairD _) = some (pairD (G.getD i.toNat (0, 0)))
  rw [List.getD_eq_getElem?_getD, List.getElem?_eq_getElem h]; rfl
def ph_ckc (ad : Ad) : List MC → List Rv → List MC → Out → Prop := fun M rs M' o => ∃ t pl pn cs, M = [] ∧ rs = [rint t, rint pl, rint pn, .dat (pairsD cs)] ∧ (1 ≤ t ∧ t ≤ 12) ∧ pl ≤ 60 ∧ pn ≤ 60 ∧ cs.length ≤ 400 ∧ Crs t cs ∧ M' = [] ∧ o = .ret .non
abbrev sp_check_counter (K : PySem.W.Frag) (ad : Ad) : Sp := FSp K (ph_ckc ad)
theorem ok_check_counter {P : Program} {w : World} {K : PySem.W.Frag} {mg : Str → Option Value} {base : Heap} {ad : Ad} {fd : Fd} (T : Txt K mg w ad fd) : FnOk P w K mg base (L2N.CX P w) 5 ad.a_check_counter fd.d_check_counter ["top", "play", "pins", "course"] (sp_check_counter K ad) := by
  have G_BadBeat___init__ := ok_BadBeat___init__ (P := P) (base := base) T
  have b_BadBeat___init__ := T.F_BadBeat___init__.binds (ps := ["self", "at"]) fun _ _ _ _ _ _ us hl => match us, hl with | [_, _], _ => rfl
  have G_BadSize___init__ := ok_BadSize___init__ (P := P) (base := base) T
  have b_BadSize___init__ := T.F_BadSize___init__.binds (ps := ["self", "what", "place"]) fun _ _ _ _ _ _ us hl => match us, hl with | [_, _, _], _ => rfl
  have G_check := ok_check (P := P) (base := base) T
  have b_check := T.F_check.binds (ps := ["what", "number"]) fun _ _ _ _ _ _ us hl => match us, hl with | [_, _], _ => rfl
  have G_check_within := ok_check_within (P := P) (base := base) T
  have b_check_within := T.F_check_within.binds (ps := ["what", "number", "bound"]) fun _ _ _ _ _ _ us hl => match us, hl with | [_, _, _], _ => rfl
  refine DL.Fun.okN (k := 4) T.F_check_counter sc_check_counter (fun vs H Q E h => ?_) (fun cdv A outer s H vs Q E hr h => ?_)
  · exact h.len fun M rs M' o ⟨_, _, _, _, _, e, _⟩ => by rw [e]; rfl
  · have hu := hu_of hr
    refine ⟨_, (pss_cons (ps_expr (pe_call G_check_within (hr.mono (by first | decide | omega)) rfl T.g_check_within T.F_check_within.kp b_check_within .nil (L2N.passes_call (L2N.takes_of rfl rfl rfl rfl) (fun _ _ _ _ h => h)) (pa_cons (pe_str) (pa_cons (pv 0) (pa_cons (pe_glob (v := .int 12) rfl T.g_COUNTER_TOP.choose_spec ⟨_, rfl⟩) pa_nil)))))
  (pss_cons (ps_expr (pe_call G_check_within (hr.mono (by first | decide | omega)) rfl T.g_check_within T.F_check_within.kp b_check_within .nil (L2N.passes_call (L2N.takes_of rfl rfl rfl rfl) (fun _ _ _ _ h => h)) (pa_cons (pe_str) (pa_cons (pv 2) (pa_cons (pe_glob (v := .int 60) rfl T.g_COUNTER_PINS.choose_spec ⟨_, rfl⟩) pa_nil)))))
  (pss_cons (ps_expr (pe_call G_check (hr.mono (by first | decide | omega)) rfl T.g_check T.F_check.kp b_check .nil (L2N.passes_call (L2N.takes_of rfl rfl rfl rfl) (fun _ _ _ _ h => h)) (pa_cons (pe_str) (pa_cons (pe_callB (call_lenK (K := K) rfl) (by rfl) T.n_len (by decide +kernel) (pa_cons (pv 3) pa_nil)) pa_nil))))
  (pss_cons (ps_expr (pe_call G_check (hr.mono (by first | decide | omega)) rfl T.g_check T.F_check.kp b_check .nil (L2N.passes_call (L2N.takes_of rfl rfl rfl rfl) (fun _ _ _ _ h => h)) (pa_cons (pe_str) (pa_cons (pv 1) pa_nil))))
  (pss_cons (ps_if (pt_cmpR op_lt (pv 0) (pe_int) (nomark _)) (pss_one (L2N.ps_raise rfl (L2N.takes_of rfl rfl rfl rfl) (pmk_ini T.oe_BadSize T.m_BadSize___init__.at_ (beq_iff_eq.mp T.m_BadSize___init__.fn) G_BadSize___init__ (hr.mono (by first | decide | omega)) b_BadSize___init__ rfl T.g_BadSize (pa_cons (pe_str) (pa_cons (pe_int) pa_nil))))) pss_nil)
  (pss_one (ps_for (passes_of rfl) rfl (pi_enumK (K := K) rfl (by rfl) T.n_enumerate (pa_cons (pv 3) pa_nil)) (pg_tupK (K := K) rfl rfl (pgs_cons (pg_name (i := 4) sc_check_counter.nd rfl (by first | exact Or.inl rfl | exact Or.inr rfl)) (pgs_cons (pg_tupK (K := K) rfl rfl (pgs_cons (pg_name (i := 5) sc_check_counter.nd rfl (by first | exact Or.inl rfl | exact Or.inr rfl)) (pgs_cons (pg_name (i := 6) sc_check_counter.nd rfl (by first | exact Or.inl rfl | exact Or.inr rfl)) pgs_nil))) pgs_nil)))
  (pss_one (ps_if (PW.pt (pw_or (pt_not (pt_chain op_le op_le (pe_int) (pv 5) (pv 0))) (pw_or1 (pt_not (pt_chain op_le op_le (pe_int) (pv 6) (pv 0)))))) (pss_one (L2N.ps_raise rfl (L2N.takes_of rfl rfl rfl rfl) (pmk_ini T.oe_BadBeat T.m_BadBeat___init__.at_ (beq_iff_eq.mp T.m_BadBeat___init__.fn) G_BadBeat___init__ (hr.mono (by first | decide | omega)) b_BadBeat___init__ rfl T.g_BadBeat (pa_cons (pe_op op_add (pv 4) (pe_int)) pa_nil)))) pss_nil))))))))), ?_⟩
    try dsimp only [cxOf, Cx.nox, Cx.wish, List.map]
    refine h.reading fun F As M rs M' o hΦ hL B S hB hA post => ?_
    obtain ⟨t, pl, pn, cs, rfl, rfl, ⟨h1, h2⟩, h3, h4, h5, hc, rfl, rfl⟩ := hΦ
    refine q_drop S (M' := []) (ev_call0 (ea_cons ev_str (ea_cons (ev_var (r := rint t) rfl) (ea_cons ev_int ea_nil))) (by intro z; cases z) ⟨_, _, _, rfl, rfl, h2, rfl, rfl⟩) ?_
    intro F As σ H S
    refine q_drop S (M' := []) (ev_call0 (ea_cons ev_str (ea_cons (ev_var (r := rint pn) rfl) (ea_cons ev_int ea_nil))) (by intro z; cases z) ⟨_, _, _, rfl, rfl, h4, rfl, rfl⟩) ?_
    intro F As σ H S
    refine q_drop S (M' := []) (ev_call0 (ea_cons ev_str (ea_cons (ev_cb (ea_cons (ev_var (r := .dat (pairsD cs)) rfl) ea_nil) (cd_len (.inl rfl))) ea_nil)) (by intro z; cases z) ⟨"beats", 400, _, rfl, rfl, .inr (.inl ⟨rfl, rfl⟩), by rw [List.length_map]; omega, rfl, rfl⟩) ?_
    intro F As σ H S
    refine q_drop S (M' := []) (ev_call0 (ea_cons ev_str (ea_cons (ev_var (r := rint pl) rfl) ea_nil)) (by intro z; cases z) ⟨"play", 60, _, rfl, rfl, .inr (.inr ⟨rfl, rfl⟩), h3, rfl, rfl⟩) ?_
    intro F As σ H S
    refine q_if S (b := decide (t < 1)) (et_test (ev_op (ev_var (r := rint t) rfl) ev_int od_bool)) (fun hc => absurd (of_decide_eq_true hc) (by omega)) ?_
    intro _ F As σ H S
    refine s_next S ?_
    intro F As σ H S
    refine' s_forE2 S (ea_cons (ev_var (r := .dat (pairsD cs)) rfl) ea_nil) (fun i M E => M = [] ∧ ∃ x y z, E = [some (rint t), some (rint pl), some (rint pn), some (.dat (pairsD cs)), x, y, z]) ⟨rfl, _, _, _, rfl⟩ ?hb ?hd
    case hd =>
      rintro M E ⟨rfl, x, y, z, rfl⟩ F As σ H S
      exact post _ _ _ _ _ _ _ S rfl .non
    case hb =>
      rintro B2 cv n c M E hn ⟨rfl, x, y, z, rfl⟩ F As σ H S
      have hc := hc c (List.mem_of_getElem? hn)
      try simp only [List.set_cons_zero, List.set_cons_succ] at S
      refine s_if S (b := false) (et_is (et_or (b := false) (c := false) (et_not (b := true) (et_test (ev_is (ev_chain3 ev_int (ev_var (r := rint c.1) rfl) od_bool (fun _ => ev_var (r := rint t) rfl) (fun _ => od_bool)) (by rw [decide_eq_true hc.1.1, decide_eq_true hc.1.2]; rfl)))) (fun _ => et_not (b := true) (et_test (ev_is (ev_chain3 ev_int (ev_var (r := rint c.2) rfl) od_bool (fun _ => ev_var (r := rint t) rfl) (fun _ => od_bool)) (by rw [decide_eq_true hc.2.1, decide_eq_true hc.2.2]; rfl))))) rfl) (fun hc => by cases hc) ?_
      intro _ F As σ H S
      refine s_next S ?_
      intro F As σ H S
      exact s_end S ⟨rfl, _, _, _, rfl⟩ (Ele.refl _)
def ph_wob : List MC → List Rv → List MC → Out → Prop := fun M rs M' o => ∃ pl c e, M = [] ∧ rs = [rint pl, .dat (pairD c), rint e] ∧ M' = [] ∧ o = .ret (.int (hit pl c e))
abbrev sp_worth_of_beat (K : PySem.W.Frag) : Sp := FSp K ph_wob
theorem ok_worth_of_beat {P : Program} {w : World} {K : PySem.W.Frag} {mg : Str → Option Value} {base : Heap} {ad : Ad} {fd : Fd} (T : Txt K mg w ad fd) : FnOk P w K mg base CX0 1 ad.a_worth_of_beat fd.d_worth_of_beat ["play", "beat", "level"] (sp_worth_of_beat K) := by
  refine L2.Fun.ok (k := 0) T.F_worth_of_beat sc_worth_of_beat (fun vs H Q E h => ?_) (fun cdv A outer s H vs Q E hr h => ?_)
  · exact h.len fun M rs M' o ⟨_, _, _, _, e, _⟩ => by rw [e]; rfl
  · refine ⟨_, (pss_one (ps_ret (pe_op op_sub (pe_op op_add (pe_callTy call_int1 (by rfl) T.n_int (by decide +kernel) (pa_cons (pe_cmpR op_lt (pe_op op_add (pe_ix (ix_tupK (K := K) rfl) (pv 1) (pe_int) (fun _ _ => rfl)) (pv 0)) (pv 2) (nomark _)) pa_nil)) (pe_callTy call_int1 (by rfl) T.n_int (by decide +kernel) (pa_cons (pe_cmpR op_ge (pe_ix (ix_tupK (K := K) rfl) (pv 1) (pe_int) (fun _ _ => rfl)) (pv 2) (nomark _)) pa_nil))) (pe_int)))), ?_⟩
    try dsimp only [cxOf, Cx.nox, Cx.wish, List.map]
    refine h.reading fun F As M rs M' o hΦ hL B S hB hA post => ?_
    obtain ⟨pl, c, e, rfl, rfl, rfl, rfl⟩ := hΦ
    dsimp only at post
    refine s_ret S (r := rint (hit pl c e)) (M' := []) ?_ ?_
    · refine' ev_is ?h ?e
      case' h => repeat' wtm_at "ev"
      case e =>
        unfold hit
        simp only [decide_eq_true_eq]
    · intro v F As σ H S rv
      exact post _ _ _ _ _ _ _ S rfl rv
def ph_nrow : List MC → List Rv → List MC → Out → Prop := fun M rs M' o => ∃ t pl c G, M = [] ∧ rs = [rint t, rint pl, .dat (pairD c), .dat (pairsD G)] ∧ (1 ≤ t ∧ t ≤ 12) ∧ (G = [] ∨ (G.length : Int) = t + 1) ∧ M' = [] ∧ o = .ret (pairsD (rowF (fOf G) t pl c))
abbrev sp_next_row (K : PySem.W.Frag) : Sp := FSp K ph_nrow
theorem ok_next_row {P : Program} {w : World} {K : PySem.W.Frag} {mg : Str → Option Value} {base : Heap} {ad : Ad} {fd : Fd} (T : Txt K mg w ad fd) : FnOk P w K mg base CX0 2 ad.a_next_row fd.d_next_row ["top", "play", "beat", "before"] (sp_next_row K) := by
  have G_worth_of_beat := ok_worth_of_beat (P := P) (base := base) T
  have b_worth_of_beat := T.F_worth_of_beat.binds (ps := ["play", "beat", "level"]) fun _ _ _ _ _ _ us hl => match us, hl with | [_, _, _], _ => rfl
  refine L2.Fun.ok (k := 1) T.F_next_row sc_next_row (fun vs H Q E h => ?_) (fun cdv A outer s H vs Q E hr h => ?_)
  · exact h.len fun M rs M' o ⟨_, _, _, _, _, e, _⟩ => by rw [e]; rfl
  · refine ⟨_, (pss_cons (ps_set (i := 4) sc_next_row.nd rfl (by first | exact Or.inl rfl | exact Or.inr rfl) (pe_op op_rep (pe_lst (pa_cons (pe_tup (pa_cons (pe_int) (pa_cons (pe_int) pa_nil))) pa_nil)) (pe_op op_add (pv 0) (pe_int))))
  (pss_cons (ps_set (i := 5) sc_next_row.nd rfl (by first | exact Or.inl rfl | exact Or.inr rfl) (pe_int))
  (pss_cons (ps_set (i := 6) sc_next_row.nd rfl (by first | exact Or.inl rfl | exact Or.inr rfl) (pe_int))
  (pss_cons (ps_for PassesOwn.never rfl (pi_range3 (by rfl) T.n_range (pa_cons (pv 0) (pa_cons (pe_int) (pa_cons (pe_un un_neg (pe_int)) pa_nil)))) (pg_name (i := 7) sc_next_row.nd rfl (by first | exact Or.inl rfl | exact Or.inr rfl))
  (pss_cons (ps_set (i := 8) sc_next_row.nd rfl (by first | exact Or.inl rfl | exact Or.inr rfl) (pv 5))
  (pss_cons (ps_set (i := 9) sc_next_row.nd rfl (by first | exact Or.inl rfl | exact Or.inr rfl) (pv 6))
  (pss_cons (ps_if (pt_cmpR (op_neDK (K := K) hr.units rfl) (pv 3) (pe_lst pa_nil) (nomark _)) (pss_cons (ps_set (i := 10) sc_next_row.nd rfl (by first | exact Or.inl rfl | exact Or.inr rfl) (pe_ix (ix_tupK (K := K) rfl) (pe_ix (ix_listK (K := K) rfl) (pv 3) (pv 7) (fun _ _ => rfl)) (pe_int) (fun _ _ => rfl)))
  (pss_cons (ps_if (pt_cmpR op_ge (pv 10) (pv 8) (nomark _)) (pss_cons (ps_set (i := 8) sc_next_row.nd rfl (by first | exact Or.inl rfl | exact Or.inr rfl) (pv 10))
  (pss_one (ps_set (i := 9) sc_next_row.nd rfl (by first | exact Or.inl rfl | exact Or.inr rfl) (pv 7)))) pss_nil)
  (pss_one (ps_if (pt_cmpR op_ge (pv 10) (pv 5) (nomark _)) (pss_cons (ps_set (i := 5) sc_next_row.nd rfl (by first | exact Or.inl rfl | exact Or.inr rfl) (pv 10))
  (pss_one (ps_set (i := 6) sc_next_row.nd rfl (by first | exact Or.inl rfl | exact Or.inr rfl) (pv 7)))) pss_nil)))) pss_nil)
  (pss_one (ps_asg (pe_tup (pa_cons (pe_op op_add (pv 8) (pe_call G_worth_of_beat (hr.mono (by first | decide | omega)) rfl T.g_worth_of_beat T.F_worth_of_beat.kp b_worth_of_beat .nil pass0 (pa_cons (pv 1) (pa_cons (pv 2) (pa_cons (pv 7) pa_nil))))) (pa_cons (pv 9) pa_nil))) (pg_sub (pv 4) (pv 7) set_list)))))))
  (pss_one (ps_ret (pv 4))))))), ?_⟩
    try dsimp only [cxOf, Cx.nox, Cx.wish, List.map]
    refine h.reading fun F As M rs M' o hΦ hL B S hB hA post => ?_
    obtain ⟨t, pl, c, G, rfl, rfl, ⟨h1, h2⟩, hG, rfl, rfl⟩ := hΦ
    dsimp only at post
    have er : rowP (fOf G) t pl c 0 = List.replicate (t + 1).toNat (0, 0) := by
      unfold rowP
      refine List.eq_replicate_iff.mpr ⟨by rw [List.length_map, List.length_range], fun x hx => ?_⟩
      obtain ⟨k, hk, rfl⟩ := List.mem_map.mp hx
      have := List.mem_range.mp hk
      rw [if_neg (by omega)]
    refine q_set S (ev_isM (ev_op (ev_lst (ds := [pairD (0, 0)]) (ea_cons (ev_tup (ea_cons ev_int (ea_cons ev_int ea_nil)) rfl (Nat.le_of_ble_eq_true rfl)) ea_nil) rfl (Nat.le_of_ble_eq_true rfl)) (ev_op (ev_var (r := rint t) rfl) ev_int od_int) (od_repM (ds := [pairD (0, 0)]) (.inl rfl) ⟨by omega, by omega⟩ (by show 1 * _ ≤ _; omega))) (M' := [.lst ((rowP (fOf G) t pl c 0).map pairD)]) (by
      rw [flat_rep, er, List.map_replicate]; rfl)) ?_
    intro F As σ H S
    refine q_set S (r := rint 0) ev_int ?_
    intro F As σ H S
    refine q_set S (r := rint 0) ev_int ?_
    intro F As σ H S
    try dsimp only
    refine' q_forDn S (a := t) (n := 0) (ea_cons (ev_var (r := rint t) rfl) (ea_cons ev_int (ea_cons (ev_un ev_int ud_neg) ea_nil))) ⟨by omega, by omega, by omega, by omega⟩ (fun i M E => M = [.lst ((rowP (fOf G) t pl c i).map pairD)] ∧ ∃ x7 x8 x9 x10, E = [some (rint t), some (rint pl), some (.dat (pairD c)), some (.dat (pairsD G)), some (.cel 0), some (rint (bsS (fOf G) t i).1), some (rint (bsS (fOf G) t i).2), x7, x8, x9, x10]) ⟨rfl, _, _, _, _, rfl⟩ ?hb ?hd
    case hd =>
      rintro M E ⟨rfl, x7, x8, x9, x10, rfl⟩ F As σ H S
      rw [show (t - 0).toNat = t.toNat by omega] at S
      exact s_retF S hB (ev_var rfl) rfl rfl (by rw [hA]; exact Nat.zero_le _) fun v F As σ E H S r => post _ _ _ _ _ _ _ S rfl r
    case hb =>
      rintro i M E hi ⟨rfl, x7, x8, x9, x10, rfl⟩ F As σ H S
      try simp only [List.set_cons_zero, List.set_cons_succ] at S
      refine q_set S (ev_var rfl) ?_
      intro F As σ H S
      refine q_set S (ev_var rfl) ?_
      intro F As σ H S
      try simp only [List.set_cons_zero, List.set_cons_succ] at S
      refine' q_ifE [.lst ((rowP (fOf G) t pl c i).map pairD)] [some (rint t), some (rint pl), some (.dat (pairD c)), some (.dat (pairsD G)), some (.cel 0), some (rint (bsS (fOf G) t (i + 1)).1), some (rint (bsS (fOf G) t (i + 1)).2), some (rint (t - (i : Int))), some (rint (bsS (fOf G) t (i + 1)).1), some (rint (bsS (fOf G) t (i + 1)).2), none] S (b := !G.isEmpty) (et_test (ev_op (ev_var (r := .dat (pairsD G)) rfl) (ev_lst (ds := []) ea_nil rfl (Nat.zero_le _)) od_neP0)) ?k1 ?k2 ?k3
      case k2 =>
        intro hb De kk F As σ H S
        have hg : G = [] := by cases G with
          | nil => rfl
          | cons a b => cases hb
        subst hg
        rw [show bsS (fOf []) t i = (0, 0) from bsS_no i] at S
        rw [show bsS (fOf []) t (i + 1) = (0, 0) from bsS_no (i + 1)] at kk
        refine s_next S ?_
        intro F As σ H S
        exact kk _ _ _ _ (S.weak (by
          cases x10 <;> exact ⟨rfl, rfl, rfl, rfl, rfl, rfl, rfl, rfl, rfl, rfl, trivial⟩))
      case k1 =>
        intro hb De kk F As σ H S
        have hg : G ≠ [] := by rintro rfl; cases hb
        have hl : (G.length : Int) = t + 1 := hG.resolve_left hg
        have ef : fOf G (t - (i : Int)) = (gP G (t - (i : Int))).1 := by unfold fOf; rw [if_neg hg]
        refine q_set S (r := rint (fOf G (t - (i : Int)))) (M' := [.lst ((rowP (fOf G) t pl c i).map pairD)]) (ev_is (ev_op (ev_op (ev_var (r := .dat (pairsD G)) rfl) (ev_var (r := rint (t - (i : Int))) rfl) (od_ixL (.inl rfl) (gP_at (by omega) (by omega)))) ev_int (od_ixT rfl)) (by rw [ef])) ?_
        intro F As σ H S
        try simp only [List.set_cons_zero, List.set_cons_succ] at S
        by_cases hw : (bsS (fOf G) t i).1 ≤ fOf G (t - (i : Int))
        · have es : bsS (fOf G) t (i + 1) = (fOf G (t - (i : Int)), t - (i : Int)) := if_pos hw
          rw [es] at kk
          refine q_if S (b := true) (et_is (et_test (ev_op (ev_var (r := rint (fOf G (t - (i : Int)))) rfl) (ev_var (r := rint (bsS (fOf G) t i).1) rfl) od_bool)) (decide_eq_true hw)) ?_ (fun z => by cases z)
          intro _ F As σ H S
          refine q_set S (ev_var (r := rint (fOf G (t - (i : Int)))) rfl) ?_
          intro F As σ H S
          refine s_set S (ev_var (r := rint (t - (i : Int))) rfl) ?_
          intro F As σ H S
          try simp only [List.set_cons_zero, List.set_cons_succ] at S
          refine s_if S (b := true) (et_is (et_test (ev_op (ev_var (r := rint (fOf G (t - (i : Int)))) rfl) (ev_var (r := rint (bsS (fOf G) t i).1) rfl) od_bool)) (decide_eq_true hw)) ?_ (fun z => by cases z)
          intro _ F As σ H S
          refine q_set S (ev_var (r := rint (fOf G (t - (i : Int)))) rfl) ?_
          intro F As σ H S
          refine s_set S (ev_var (r := rint (t - (i : Int))) rfl) ?_
          intro F As σ H S
          try simp only [List.set_cons_zero, List.set_cons_succ] at S
          exact kk _ _ _ _ (S.weak ⟨rfl, rfl, rfl, rfl, rfl, rfl, rfl, rfl, rfl, rfl, trivial⟩)
        · have es : bsS (fOf G) t (i + 1) = bsS (fOf G) t i := if_neg hw
          rw [es] at kk
          refine q_if S (b := false) (et_is (et_test (ev_op (ev_var (r := rint (fOf G (t - (i : Int)))) rfl) (ev_var (r := rint (bsS (fOf G) t i).1) rfl) od_bool)) (decide_eq_false hw)) (fun z => by cases z) ?_
          intro _ F As σ H S
          refine s_next S ?_
          intro F As σ H S
          refine s_if S (b := false) (et_is (et_test (ev_op (ev_var (r := rint (fOf G (t - (i : Int)))) rfl) (ev_var (r := rint (bsS (fOf G) t i).1) rfl) od_bool)) (decide_eq_false hw)) (fun z => by cases z) ?_
          intro _ F As σ H S
          refine s_next S ?_
          intro F As σ H S
          exact kk _ _ _ _ (S.weak ⟨rfl, rfl, rfl, rfl, rfl, rfl, rfl, rfl, rfl, rfl, trivial⟩)
      case k3 =>
        intro F As σ H S
        have ep : prF (fOf G) t pl c (t - (i : Int)) = ((bsS (fOf G) t (i + 1)).1 + hit pl c (t - (i : Int)), (bsS (fOf G) t (i + 1)).2) := by
          unfold prF
          rw [show (t + 1 - (t - (i : Int))).toNat = i + 1 by omega]
        refine s_setL (k := 0) (ds := (rowP (fOf G) t pl c i).map pairD) (i := t - (i : Int)) (d := pairD (prF (fOf G) t pl c (t - (i : Int)))) S (ev_is (ev_tup (rs := [rint ((bsS (fOf G) t (i + 1)).1 + hit pl c (t - (i : Int))), rint (bsS (fOf G) t (i + 1)).2]) (ea_cons (ev_op (ev_var (r := rint (bsS (fOf G) t (i + 1)).1) rfl) (ev_call0 (ea_cons (ev_var (r := rint pl) rfl) (ea_cons (ev_var (r := .dat (pairD c)) rfl) (ea_cons (ev_var (r := rint (t - (i : Int))) rfl) ea_nil))) (by intro z; cases z) ⟨_, _, _, rfl, rfl, rfl, rfl⟩) od_int) (ea_cons (ev_var rfl) ea_nil)) rfl (Nat.le_of_ble_eq_true rfl)) (by rw [ep])) (ev_var (r := .cel 0) rfl) (ev_var (r := rint (t - (i : Int))) rfl) rfl (by omega) (by rw [List.length_map, rowP_len]; omega) ?_
        intro F As σ H S
        refine s_end S ⟨?_, _, _, _, _, rfl⟩ (Ele.refl _)
        show [MC.lst (((rowP (fOf G) t pl c i).map pairD).set _ _)] = _
        rw [← List.map_set, rowP_set (by omega) (by omega)]
end K78
set_option Elab.async false
set_option linter.all false
set_option maxRecDepth 100000
set_option maxHeartbeats 4000000
namespace K78
open PySem L2 DL
/-! ### the steps: one rule an expression, by its reading's head -/
local macro_rules | `(tactic| wtm_at "ev") => `(tactic| first
  | exact ev_var rfl
  | exact ev_int
  | exact ev_non
  | exact ev_bl
  | exact ev_str
  | exact ea_nil
  | with_reducible apply ea_cons
  | ((with_reducible refine' ev_isi ?a ?b ?c); (case' a => repeat' wtm_at "ev"); (case' b => exact rfl); (case' c => exact rfl))
  | with_reducible apply ev_cb
  | with_reducible apply ev_op
  | with_reducible apply ev_un
  | with_reducible apply et_test
  | with_reducible apply et_B
  | with_reducible apply et_not
  | with_reducible apply ev_isN
  | with_reducible apply ev_notN
  | with_reducible apply ev_notV
  | with_reducible apply et_and
  | with_reducible apply et_or
  | with_reducible apply ev_andV
  | with_reducible apply ev_orV
  | with_reducible apply ev_ifI
  | with_reducible apply ev_ifD
  | ((with_reducible refine' ev_dnotin ?a ?b ?c ?d); (case' a => repeat' wtm_at "ev"); (case' b => repeat' wtm_at "ev"); (case' c => exact rfl); (case' d => first | exact .inl rfl | exact .inr ⟨_, rfl, rfl⟩))
  | ((with_reducible refine' ev_din ?a ?b ?c ?d); (case' a => repeat' wtm_at "ev"); (case' b => repeat' wtm_at "ev"); (case' c => exact rfl); (case' d => first | exact .inl rfl | exact .inr ⟨_, rfl, rfl⟩))
  | with_reducible apply ev_lcLAI
  | with_reducible apply ev_lcLII
  | with_reducible apply ev_lcLA
  | with_reducible apply ev_lcLI
  | with_reducible apply ev_lcRAI
  | with_reducible apply ev_lcRI
  | with_reducible apply ev_lcRA
  | with_reducible apply ev_lcR
  | exact et_yes
  | with_reducible intro _
  | exact od_int
  | exact od_bool
  | exact od_eqI
  | exact od_neI
  | exact od_eqS
  | exact od_neS
  | exact ud_neg
  | exact cd_abs
  | exact cd_max2
  | exact cd_min2
  | exact cd_int
  | exact cd_intB
  | exact cd_lenScr
  | exact cd_lenT
  | exact cd_lenI (.inl rfl)
  | exact cd_lenI (.inr ⟨_, rfl, rfl⟩)
  | exact cd_len (.inl rfl)
  | exact cd_len (.inr ⟨_, rfl, rfl⟩)
  | exact cd_lenD (.inl rfl)
  | exact cd_lenD (.inr ⟨_, rfl, rfl⟩)
  | exact cd_sum (.inl rfl)
  | exact cd_sorted (.inl rfl)
  | exact cd_list (.inl rfl)
  | exact cd_listT
  | exact eo_none
  | with_reducible apply eo_some
  | with_reducible apply ev_sliceScr
  | refine' ev_sliceI ?_ ?_ ?_ (.inl rfl)
  | with_reducible apply od_intC
  | with_reducible apply od_ixScr
  | refine' od_ixI (.inl rfl) ?_ ?_
  | refine' od_ixI (.inr ⟨_, rfl, rfl⟩) ?_ ?_
  | exact od_ixT rfl
  | exact od_inI (.inl rfl)
  | exact od_notinI (.inl rfl)
  | refine' od_cat (.inl rfl) (.inl rfl) ?_
  | ((with_reducible refine' ev_tup ?h ?r ?l); (case' h => repeat' wtm_at "ev"); (case' r => exact rfl); (case' l => exact Nat.le_of_ble_eq_true rfl))
  | (refine (show CMul _ _ from .inl ⟨?_, ?_⟩) <;> decide)
  | (refine (show CMul _ _ from .inr ⟨?_, ?_⟩) <;> decide)
  | (refine (show (_ : Prop) from ?_); assumption)
  | (refine (show CDiv _ _ from ⟨?_, ?_⟩) <;> omega)
  | (refine (show CPow _ _ from ⟨?_, ?_, ?_⟩) <;> decide)
  | omega
  | (simp only [Pz.len]; done)
  | (simp only [Pz.len, List.length_map, List.length_append, List.length_range, List.length_set, List.length_reverse]; omega))
/-! a statement's step: its values are reckoned, what is left is the way on -/
local macro_rules | `(tactic| wtm_at "st") => `(tactic| first
  | (refine' q_set (by assumption) ?h ?k; (case' h => repeat' wtm_at "ev"); (case' k => (intro _ _ _ _ _; try dsimp only)))
  | (refine' s_set (by assumption) ?h ?k; (case' h => repeat' wtm_at "ev"); (case' k => (intro _ _ _ _ _; try dsimp only)))
  | (refine' q_augS (by assumption) ?h1 ?h2 ?h3 ?r1 ?r2 ?s1 ?s2 ?k; (case' h1 => repeat' wtm_at "ev"); (case' h2 => repeat' wtm_at "ev"); (case' h3 => repeat' wtm_at "ev"); (case' r1 => exact rfl); (case' r2 => exact rfl); (case' s1 => try wtm_at "ev"); (case' s2 => try wtm_at "ev"); (case' k => (intro _ _ _ _ _; try dsimp only)))
  | (refine' s_augS (by assumption) ?h1 ?h2 ?h3 ?r1 ?r2 ?s1 ?s2 ?k; (case' h1 => repeat' wtm_at "ev"); (case' h2 => repeat' wtm_at "ev"); (case' h3 => repeat' wtm_at "ev"); (case' r1 => exact rfl); (case' r2 => exact rfl); (case' s1 => try wtm_at "ev"); (case' s2 => try wtm_at "ev"); (case' k => (intro _ _ _ _ _; try dsimp only)))
  | (refine' q_setLI (by assumption) ?h ?h1 ?h2 ?r1 ?s1 ?s2 ?k; (case' h => repeat' wtm_at "ev"); (case' h1 => repeat' wtm_at "ev"); (case' h2 => repeat' wtm_at "ev"); (case' r1 => exact rfl); (case' s1 => try wtm_at "ev"); (case' s2 => try wtm_at "ev"); (case' k => (intro _ _ _ _ _; try dsimp only)))
  | (refine' q_setL (by assumption) ?h ?h1 ?h2 ?r1 ?s1 ?s2 ?k; (case' h => repeat' wtm_at "ev"); (case' h1 => repeat' wtm_at "ev"); (case' h2 => repeat' wtm_at "ev"); (case' r1 => exact rfl); (case' s1 => try wtm_at "ev"); (case' s2 => try wtm_at "ev"); (case' k => (intro _ _ _ _ _; try dsimp only)))
  | (refine' s_setLI (by assumption) ?h ?h1 ?h2 ?r1 ?s1 ?s2 ?k; (case' h => repeat' wtm_at "ev"); (case' h1 => repeat' wtm_at "ev"); (case' h2 => repeat' wtm_at "ev"); (case' r1 => exact rfl); (case' s1 => try wtm_at "ev"); (case' s2 => try wtm_at "ev"); (case' k => (intro _ _ _ _ _; try dsimp only)))
  | (refine' s_setL (by assumption) ?h ?h1 ?h2 ?r1 ?s1 ?s2 ?k; (case' h => repeat' wtm_at "ev"); (case' h1 => repeat' wtm_at "ev"); (case' h2 => repeat' wtm_at "ev"); (case' r1 => exact rfl); (case' s1 => try wtm_at "ev"); (case' s2 => try wtm_at "ev"); (case' k => (intro _ _ _ _ _; try dsimp only)))
  | (refine' q_appI (by assumption) ?h1 ?h ?r1 ?r2 ?s ?k; (case' h1 => repeat' wtm_at "ev"); (case' h => repeat' wtm_at "ev"); (case' r1 => exact rfl); (case' r2 => exact rfl); (case' s => try wtm_at "ev"); (case' k => (intro _ _ _ _ _; try dsimp only)))
  | (refine' q_app (by assumption) ?h1 ?h ?r1 ?r2 ?s ?k; (case' h1 => repeat' wtm_at "ev"); (case' h => repeat' wtm_at "ev"); (case' r1 => exact rfl); (case' r2 => exact rfl); (case' s => try wtm_at "ev"); (case' k => (intro _ _ _ _ _; try dsimp only)))
  | (refine' s_appI (by assumption) ?h1 ?h ?r1 ?r2 ?s ?k; (case' h1 => repeat' wtm_at "ev"); (case' h => repeat' wtm_at "ev"); (case' r1 => exact rfl); (case' r2 => exact rfl); (case' s => try wtm_at "ev"); (case' k => (intro _ _ _ _ _; try dsimp only)))
  | (refine' s_app (by assumption) ?h1 ?h ?r1 ?r2 ?s ?k; (case' h1 => repeat' wtm_at "ev"); (case' h => repeat' wtm_at "ev"); (case' r1 => exact rfl); (case' r2 => exact rfl); (case' s => try wtm_at "ev"); (case' k => (intro _ _ _ _ _; try dsimp only)))
  | (refine' q_dput (by assumption) ?h ?h1 ?h2 ?r1 ?r2 ?s ?k; (case' h => repeat' wtm_at "ev"); (case' h1 => repeat' wtm_at "ev"); (case' h2 => repeat' wtm_at "ev"); (case' r1 => exact rfl); (case' r2 => exact rfl); (case' s => try wtm_at "ev"); (case' k => (intro _ _ _ _ _; try dsimp only)))
  | (refine' s_dput (by assumption) ?h ?h1 ?h2 ?r1 ?r2 ?s ?k; (case' h => repeat' wtm_at "ev"); (case' h1 => repeat' wtm_at "ev"); (case' h2 => repeat' wtm_at "ev"); (case' r1 => exact rfl); (case' r2 => exact rfl); (case' s => try wtm_at "ev"); (case' k => (intro _ _ _ _ _; try dsimp only)))
  | (refine' q_tup2 (by assumption) ?h ?k; (case' h => repeat' wtm_at "ev"); (case' k => (intro _ _ _ _ _; try dsimp only)))
  | (refine' q_drop (by assumption) ?h ?k; (case' h => repeat' wtm_at "ev"); (case' k => (intro _ _ _ _ _; try dsimp only)))
  | (refine' q_if (by assumption) ?h ?k1 ?k2; (case' h => repeat' wtm_at "ev"))
  | (refine' s_if (by assumption) ?h ?k1 ?k2; (case' h => repeat' wtm_at "ev"))
  | (refine' s_ret (by assumption) ?h ?k; (case' h => repeat' wtm_at "ev"); (case' k => (intro _ _ _ _ _ _ _; try dsimp only)))
  | (refine' q_ret (by assumption) ?h ?k; (case' h => repeat' wtm_at "ev"); (case' k => (intro _ _ _ _ _ _ _; try dsimp only)))
  | ((with_reducible refine' s_next (by assumption) ?k); (case' k => (intro _ _ _ _ _; try dsimp only)))
  | (with_reducible refine q_next ?_))

/-! ### comprehensions -/
section
variable {K : PySem.W.Frag} {M M1 : List MC} {E : List (Option Rv)} {te tl : TE}
theorem ev_lcR2AI {t : TA} {j : Nat} {a n : Int} (f : Nat → Int) (ha : EvA K t M E M1 [rint a, rint n]) (hn : -8000000 ≤ n ∧ n ≤ 8000000 ∧ -8000000 ≤ a ∧ a ≤ 8000000)
    (he : ∀ i : Nat, a + (i : Int) < n → EvD K te M1 (E.set j (some (rint (a + (i : Int))))) M1 (rint (f i))) : EvD K (tLc (iRng2 t) (gName j) tYes te [j]) M E M1 (rints (arr (n - a).toNat f)) := by
  have h := ev_lcR2 (te := te) (tt := tYes) (fun _ => M1) (fun _ => true) (fun i => D.int (f i)) ha hn rfl fun i hi => LcT.plain (he i hi)
  rw [givD_all] at h
  refine ev_is h ?_
  show Rv.dat (.lst _) = Rv.dat (.lst _)
  unfold arr
  rw [List.map_map]; rfl
theorem ev_lcDI {j : Nat} {ds : List D} (f : Nat → Int) (ha : EvD K tl M E M1 (.dat (.lst ds))) (hn : ds.length ≤ 16777000)
    (he : ∀ (i : Nat) (d : D), ds[i]? = some d → EvD K te M1 (E.set j (some (.dat d))) M1 (rint (f i))) : EvD K (tLc (iList K tl) (gName j) tYes te [j]) M E M1 (rints (arr ds.length f)) := by
  have h := ev_lcL (te := te) (tt := tYes) (fun _ => M1) (fun _ => true) (fun i => D.int (f i)) ha hn rfl fun i d hi => LcT.plain (he i d hi)
  rw [givD_all] at h
  refine ev_is h ?_
  show Rv.dat (.lst _) = Rv.dat (.lst _)
  unfold arr
  rw [List.map_map]; rfl
end
/-! ### all rows -/
def rwsT (t play : Int) (cs : List Beat) (n : Nat) : List (List (Int × Int)) := (List.range n).map fun k => rwN t play cs (k + 1)
def rwsD (t play : Int) (cs : List Beat) (n : Nat) : D := .lst ((rwsT t play cs n).map pairsD)
theorem rwsT_len {t play : Int} {cs : List Beat} {n : Nat} : (rwsT t play cs n).length = n := by unfold rwsT; rw [List.length_map, List.length_range]
theorem rwsT_at {t play : Int} {cs : List Beat} {n k : Nat} (h : k < n) : (rwsT t play cs n)[k]? = some (rwN t play cs (k + 1)) := by
  unfold rwsT
  rw [List.getElem?_map, List.getElem?_range h]; rfl
theorem rwsT_succ {t play : Int} {cs : List Beat} {n : Nat} : rwsT t play cs (n + 1) = rwsT t play cs n ++ [rwN t play cs (n + 1)] := by
  unfold rwsT
  rw [List.range_succ, List.map_append]; rfl
theorem rwN_len {t play : Int} (ht : 1 ≤ t) {cs : List Beat} {n : Nat} : ((rwN t play cs (n + 1)).length : Int) = t + 1 := by
  have l : (rwN t play cs (n + 1)).length = (t + 1).toNat := rowP_len
  rw [l]; omega
theorem rws_atI {t play : Int} {cs : List Beat} {n k : Nat} (h : k < n) : atI ((rwsT t play cs n).map pairsD) (k : Int) = some (pairsD (rwN t play cs (k + 1))) := by
  refine atI_of (by omega) ?_
  rw [Int.toNat_natCast, List.getElem?_map, rwsT_at h]; rfl
theorem pair_of {cs : List Beat} {i : Nat} {d : D} (h : (cs.map pairD)[i]? = some d) : ∃ c, cs[i]? = some c ∧ d = pairD c := by
  rw [List.getElem?_map] at h
  cases e : cs[i]? with
  | none => rw [e] at h; cases h
  | some c => rw [e] at h; exact ⟨c, rfl, (Option.some.inj h).symm⟩
def ph_rows : List MC → List Rv → List MC → Out → Prop := fun M rs M' o => ∃ t pl cs, M = [] ∧ rs = [rint t, rint pl, .dat (pairsD cs)] ∧ (1 ≤ t ∧ t ≤ 12) ∧ cs.length ≤ 400 ∧ M' = [] ∧ o = .ret (rwsD t pl cs cs.length)
abbrev sp_rows_of (K : PySem.W.Frag) : Sp := FSp K ph_rows
theorem ok_rows_of {P : Program} {w : World} {K : PySem.W.Frag} {mg : Str → Option Value} {base : Heap} {ad : Ad} {fd : Fd} (T : Txt K mg w ad fd) : FnOk P w K mg base CX0 3 ad.a_rows_of fd.d_rows_of ["top", "play", "course"] (sp_rows_of K) := by
  have G_next_row := ok_next_row (P := P) (base := base) T
  have b_next_row := T.F_next_row.binds (ps := ["top", "play", "beat", "before"]) fun _ _ _ _ _ _ us hl => match us, hl with | [_, _, _, _], _ => rfl
  refine L2.Fun.ok (k := 2) T.F_rows_of sc_rows_of (fun vs H Q E h => ?_) (fun cdv A outer s H vs Q E hr h => ?_)
  · exact h.len fun M rs M' o ⟨_, _, _, _, e, _⟩ => by rw [e]; rfl
  · refine ⟨_, (pss_cons (ps_set (i := 3) sc_rows_of.nd rfl (by first | exact Or.inl rfl | exact Or.inr rfl) (pe_lst pa_nil))
  (pss_cons (ps_set (i := 4) sc_rows_of.nd rfl (by first | exact Or.inl rfl | exact Or.inr rfl) (pe_lst pa_nil))
  (pss_cons (ps_for PassesOwn.never rfl (pi_listK (K := K) rfl (pv 2)) (pg_name (i := 5) sc_rows_of.nd rfl (by first | exact Or.inl rfl | exact Or.inr rfl))
  (pss_cons (ps_set (i := 4) sc_rows_of.nd rfl (by first | exact Or.inl rfl | exact Or.inr rfl) (pe_call G_next_row (hr.mono (by first | decide | omega)) rfl T.g_next_row T.F_next_row.kp b_next_row .nil pass0 (pa_cons (pv 0) (pa_cons (pv 1) (pa_cons (pv 5) (pa_cons (pv 4) pa_nil))))))
  (pss_one (ps_expr (pe_bmK (K := K) (id := "list.append") rfl (pe_bm PySem.F.plainAttrs_list PySem.F.slot_list_append PySem.F.type_list_append mt_append (pv 3) (pa_cons (pv 4) pa_nil)))))))
  (pss_one (ps_ret (pv 3)))))), ?_⟩
    try dsimp only [cxOf, Cx.nox, Cx.wish, List.map]
    refine h.reading fun F As M rs M' o hΦ hL B S hB hA post => ?_
    obtain ⟨t, pl, cs, rfl, rfl, ⟨h1, h2⟩, h3, rfl, rfl⟩ := hΦ
    dsimp only at post
    refine q_set S (ev_lstM (ds := []) ea_nil rfl (Nat.zero_le _)) ?_
    intro F As σ H S
    refine q_set S (r := .dat (pairsD [])) (ev_lst (ds := []) ea_nil rfl (Nat.zero_le _)) ?_
    intro F As σ H S
    try simp only [List.set_cons_zero, List.set_cons_succ] at S
    refine' q_forL S (ds := cs.map pairD) (ev_var (r := .dat (pairsD cs)) rfl) (fun i M E => M = [.lst ((rwsT t pl cs i).map pairsD)] ∧ ∃ x, E = [some (rint t), some (rint pl), some (.dat (pairsD cs)), some (.cel 0), some (.dat (pairsD (rwN t pl cs i))), x]) ⟨rfl, _, rfl⟩ ?hb ?hd
    case hd =>
      rintro M E ⟨rfl, x, rfl⟩ F As σ H S
      rw [List.length_map] at S
      exact s_retF S hB (ev_var rfl) rfl rfl (by rw [hA]; exact Nat.zero_le _) fun v F As σ E H S r => post _ _ _ _ _ _ _ S rfl r
    case hb =>
      rintro B2 cv i d M E hn ⟨rfl, x, rfl⟩ F As σ H S
      obtain ⟨c, hc, rfl⟩ := pair_of hn
      have hi := (List.getElem?_eq_some_iff.mp hc).1
      try simp only [List.set_cons_zero, List.set_cons_succ] at S
      refine q_set S (r := .dat (pairsD (rwN t pl cs (i + 1)))) (M' := [.lst ((rwsT t pl cs i).map pairsD)]) (ev_is (ev_call0 (ea_cons (ev_var (r := rint t) rfl) (ea_cons (ev_var (r := rint pl) rfl) (ea_cons (ev_var (r := .dat (pairD c)) rfl) (ea_cons (ev_var (r := .dat (pairsD (rwN t pl cs i))) rfl) ea_nil)))) (by intro z; cases z) ⟨t, pl, c, rwN t pl cs i, rfl, rfl, ⟨h1, h2⟩, ?_, rfl, rfl⟩) ?_) ?_
      · cases i with
        | zero => exact .inl rfl
        | succ i => exact .inr (rwN_len h1)
      · show _ = Rv.dat (pairsD (rowF (fOf (rwN t pl cs i)) t pl (cs.getD i (0, 0))))
        rw [getD_bt hc]
      intro F As σ H S
      try simp only [List.set_cons_zero, List.set_cons_succ] at S
      refine s_app (ds := (rwsT t pl cs i).map pairsD) S (ev_var (r := .cel 0) rfl) (ev_var (r := .dat (pairsD (rwN t pl cs (i + 1)))) rfl) rfl rfl (by rw [List.length_map, rwsT_len]; omega) ?_
      intro F As σ H S
      refine s_end S ⟨?_, _, rfl⟩ (Ele.refl _)
      rw [rwsT_succ, List.map_append]; rfl
def ph_bend : List MC → List Rv → List MC → Out → Prop := fun M rs M' o => ∃ t pl cs, M = [] ∧ rs = [rint t, .dat (rwsD t pl cs cs.length)] ∧ (1 ≤ t ∧ t ≤ 12) ∧ cs.length ≤ 400 ∧ M' = [] ∧ o = .ret (t3D (beN t pl cs cs.length))
abbrev sp_best_end (K : PySem.W.Frag) : Sp := FSp K ph_bend
theorem ok_best_end {P : Program} {w : World} {K : PySem.W.Frag} {mg : Str → Option Value} {base : Heap} {ad : Ad} {fd : Fd} (T : Txt K mg w ad fd) : FnOk P w K mg base CX0 1 ad.a_best_end fd.d_best_end ["top", "rows"] (sp_best_end K) := by
  refine L2.Fun.ok (k := 0) T.F_best_end sc_best_end (fun vs H Q E h => ?_) (fun cdv A outer s H vs Q E hr h => ?_)
  · exact h.len fun M rs M' o ⟨_, _, _, _, e, _⟩ => by rw [e]; rfl
  · refine ⟨_, (pss_cons (ps_set (i := 2) sc_best_end.nd rfl (by first | exact Or.inl rfl | exact Or.inr rfl) (pe_tup (pa_cons (pe_int) (pa_cons (pe_int) (pa_cons (pe_int) pa_nil)))))
  (pss_cons (ps_for PassesOwn.never rfl (pi_enumK (K := K) rfl (by rfl) T.n_enumerate (pa_cons (pv 1) pa_nil)) (pg_tupK (K := K) rfl rfl (pgs_cons (pg_name (i := 3) sc_best_end.nd rfl (by first | exact Or.inl rfl | exact Or.inr rfl)) (pgs_cons (pg_name (i := 4) sc_best_end.nd rfl (by first | exact Or.inl rfl | exact Or.inr rfl)) pgs_nil)))
  (pss_one (ps_for PassesOwn.never rfl (pi_range2 (by rfl) T.n_range (pa_cons (pe_int) (pa_cons (pe_op op_add (pv 0) (pe_int)) pa_nil))) (pg_name (i := 5) sc_best_end.nd rfl (by first | exact Or.inl rfl | exact Or.inr rfl))
  (pss_one (ps_if (pt_cmpR op_gt (pe_ix (ix_tupK (K := K) rfl) (pe_ix (ix_listK (K := K) rfl) (pv 4) (pv 5) (fun _ _ => rfl)) (pe_int) (fun _ _ => rfl)) (pe_ix (ix_tupK (K := K) rfl) (pv 2) (pe_int) (fun _ _ => rfl)) (nomark _)) (pss_one (ps_set (i := 2) sc_best_end.nd rfl (by first | exact Or.inl rfl | exact Or.inr rfl) (pe_tup (pa_cons (pe_ix (ix_tupK (K := K) rfl) (pe_ix (ix_listK (K := K) rfl) (pv 4) (pv 5) (fun _ _ => rfl)) (pe_int) (fun _ _ => rfl)) (pa_cons (pv 3) (pa_cons (pv 5) pa_nil)))))) pss_nil)))))
  (pss_one (ps_ret (pv 2))))), ?_⟩
    try dsimp only [cxOf, Cx.nox, Cx.wish, List.map]
    refine h.reading fun F As M rs M' o hΦ hL B S hB hA post => ?_
    obtain ⟨t, pl, cs, rfl, rfl, ⟨h1, h2⟩, h3, rfl, rfl⟩ := hΦ
    dsimp only at post
    refine q_set S (r := .dat (t3D (0, 0, 0))) (M' := []) (ev_tup (ea_cons ev_int (ea_cons ev_int (ea_cons ev_int ea_nil))) rfl (Nat.le_of_ble_eq_true rfl)) ?_
    intro F As σ H S
    try simp only [List.set_cons_zero, List.set_cons_succ] at S
    refine' q_forE S (ds := (rwsT t pl cs cs.length).map pairsD) (ea_cons (ev_var (r := .dat (rwsD t pl cs cs.length)) rfl) ea_nil) (fun j M E => M = [] ∧ ∃ x3 x4 x5, E = [some (rint t), some (.dat (rwsD t pl cs cs.length)), some (.dat (t3D (beN t pl cs j))), x3, x4, x5]) ⟨rfl, _, _, _, rfl⟩ ?hb ?hd
    case hd =>
      rintro M E ⟨rfl, x3, x4, x5, rfl⟩ F As σ H S
      rw [List.length_map, rwsT_len] at S
      refine s_ret S (ev_var rfl) ?_
      intro v F As σ H S r
      exact post _ _ _ _ _ _ _ S rfl r
    case hb =>
      rintro B2 cv j d M E hn ⟨rfl, x3, x4, x5, rfl⟩ F As σ H S
      have hj : j < cs.length := by
        have := (List.getElem?_eq_some_iff.mp hn).1
        rwa [List.length_map, rwsT_len] at this
      rw [List.getElem?_map, rwsT_at hj] at hn
      have hn : pairsD (rwN t pl cs (j + 1)) = d := Option.some.inj hn
      subst hn
      try simp only [List.set_cons_zero, List.set_cons_succ] at S
      refine' s_forR2 S (a := 1) (n := t + 1) (ea_cons ev_int (ea_cons (ev_op (ev_var (r := rint t) rfl) ev_int od_int) ea_nil)) ⟨by omega, by omega, by omega, by omega⟩ (fun k M E => M = [] ∧ ∃ x5, E = [some (rint t), some (.dat (rwsD t pl cs cs.length)), some (.dat (t3D (inS (fun e => (gP (rwN t pl cs (j + 1)) e).1) (j : Int) (beN t pl cs j) k))), some (rint (j : Int)), some (.dat (pairsD (rwN t pl cs (j + 1)))), x5]) ⟨rfl, _, rfl⟩ ?ub ?ud
      case ud =>
        rintro M E ⟨rfl, x5, rfl⟩ F As σ H S
        rw [show (t + 1 - 1).toNat = t.toNat by omega] at S
        exact s_end S ⟨rfl, _, _, _, rfl⟩ (Ele.refl _)
      case ub =>
        rintro k M E hk ⟨rfl, x5, rfl⟩ F As σ H S
        try simp only [List.set_cons_zero, List.set_cons_succ] at S
        rw [show (1 : Int) + (k : Int) = (k : Int) + 1 by omega] at S
        have ix : ∀ {M : List MC} {E : List (Option Rv)}, E[4]? = some (some (.dat (pairsD (rwN t pl cs (j + 1))))) → E[5]? = some (some (rint ((k : Int) + 1))) → EvD K (tOp (rIxT K) (tOp (rIxL K) (tVar 4) (tVar 5)) (tC (.int 0))) M E M (rint (gP (rwN t pl cs (j + 1)) ((k : Int) + 1)).1) := fun {M E} a b => ev_op (ev_op (ev_var a) (ev_var b) (od_ixL (.inl rfl) (gP_at (by omega) (by have := rwN_len (play := pl) h1 (cs := cs) (n := j); omega)))) ev_int (od_ixT rfl)
        refine s_if S (b := decide ((inS (fun e => (gP (rwN t pl cs (j + 1)) e).1) (j : Int) (beN t pl cs j) k).1 < (gP (rwN t pl cs (j + 1)) ((k : Int) + 1)).1)) (et_test (ev_op (ix rfl rfl) (ev_op (ev_var (r := .dat (t3D (inS (fun e => (gP (rwN t pl cs (j + 1)) e).1) (j : Int) (beN t pl cs j) k))) rfl) ev_int (od_ixT rfl)) od_bool)) ?_ ?_
        · intro hb F As σ H S
          have hb := of_decide_eq_true hb
          refine s_set S (r := .dat (t3D ((gP (rwN t pl cs (j + 1)) ((k : Int) + 1)).1, (j : Int), (k : Int) + 1))) (M' := []) (ev_tup (ea_cons (ix rfl rfl) (ea_cons (ev_var (r := rint (j : Int)) rfl) (ea_cons (ev_var (r := rint ((k : Int) + 1)) rfl) ea_nil))) rfl (Nat.le_of_ble_eq_true rfl)) ?_
          intro F As σ H S
          refine s_end S ⟨rfl, some (rint ((k : Int) + 1)), ?_⟩ (Ele.refl _)
          rw [inS_succ, if_pos hb]; rfl
        · intro hb F As σ H S
          have hb := of_decide_eq_false hb
          refine s_next S ?_
          intro F As σ H S
          refine s_end S ⟨rfl, some (rint ((k : Int) + 1)), ?_⟩ (Ele.refl _)
          rw [inS_succ, if_neg hb]
end K78
set_option Elab.async false
set_option linter.all false
set_option maxRecDepth 100000
set_option maxHeartbeats 4000000
namespace K78
open PySem L2 DL
/-! ### the steps: one rule an expression, by its reading's head -/
local macro_rules | `(tactic| wtm_at "ev") => `(tactic| first
  | exact ev_var rfl
  | exact ev_int
  | exact ev_non
  | exact ev_bl
  | exact ev_str
  | exact ea_nil
  | with_reducible apply ea_cons
  | ((with_reducible refine' ev_isi ?a ?b ?c); (case' a => repeat' wtm_at "ev"); (case' b => exact rfl); (case' c => exact rfl))
  | with_reducible apply ev_cb
  | with_reducible apply ev_op
  | with_reducible apply ev_un
  | with_reducible apply et_test
  | with_reducible apply et_B
  | with_reducible apply et_not
  | with_reducible apply ev_isN
  | with_reducible apply ev_notN
  | with_reducible apply ev_notV
  | with_reducible apply et_and
  | with_reducible apply et_or
  | with_reducible apply ev_andV
  | with_reducible apply ev_orV
  | with_reducible apply ev_ifI
  | with_reducible apply ev_ifD
  | ((with_reducible refine' ev_dnotin ?a ?b ?c ?d); (case' a => repeat' wtm_at "ev"); (case' b => repeat' wtm_at "ev"); (case' c => exact rfl); (case' d => first | exact .inl rfl | exact .inr ⟨_, rfl, rfl⟩))
  | ((with_reducible refine' ev_din ?a ?b ?c ?d); (case' a => repeat' wtm_at "ev"); (case' b => repeat' wtm_at "ev"); (case' c => exact rfl); (case' d => first | exact .inl rfl | exact .inr ⟨_, rfl, rfl⟩))
  | with_reducible apply ev_lcLAI
  | with_reducible apply ev_lcLII
  | with_reducible apply ev_lcLA
  | with_reducible apply ev_lcLI
  | with_reducible apply ev_lcRAI
  | with_reducible apply ev_lcRI
  | with_reducible apply ev_lcRA
  | with_reducible apply ev_lcR
  | exact et_yes
  | with_reducible intro _
  | exact od_int
  | exact od_bool
  | exact od_eqI
  | exact od_neI
  | exact od_eqS
  | exact od_neS
  | exact ud_neg
  | exact cd_abs
  | exact cd_max2
  | exact cd_min2
  | exact cd_int
  | exact cd_intB
  | exact cd_lenScr
  | exact cd_lenT
  | exact cd_lenI (.inl rfl)
  | exact cd_lenI (.inr ⟨_, rfl, rfl⟩)
  | exact cd_len (.inl rfl)
  | exact cd_len (.inr ⟨_, rfl, rfl⟩)
  | exact cd_lenD (.inl rfl)
  | exact cd_lenD (.inr ⟨_, rfl, rfl⟩)
  | exact cd_sum (.inl rfl)
  | exact cd_sorted (.inl rfl)
  | exact cd_list (.inl rfl)
  | exact cd_listT
  | exact eo_none
  | with_reducible apply eo_some
  | with_reducible apply ev_sliceScr
  | refine' ev_sliceI ?_ ?_ ?_ (.inl rfl)
  | with_reducible apply od_intC
  | with_reducible apply od_ixScr
  | refine' od_ixI (.inl rfl) ?_ ?_
  | refine' od_ixI (.inr ⟨_, rfl, rfl⟩) ?_ ?_
  | exact od_ixT rfl
  | exact od_inI (.inl rfl)
  | exact od_notinI (.inl rfl)
  | refine' od_cat (.inl rfl) (.inl rfl) ?_
  | ((with_reducible refine' ev_tup ?h ?r ?l); (case' h => repeat' wtm_at "ev"); (case' r => exact rfl); (case' l => exact Nat.le_of_ble_eq_true rfl))
  | (refine (show CMul _ _ from .inl ⟨?_, ?_⟩) <;> decide)
  | (refine (show CMul _ _ from .inr ⟨?_, ?_⟩) <;> decide)
  | (refine (show (_ : Prop) from ?_); assumption)
  | (refine (show CDiv _ _ from ⟨?_, ?_⟩) <;> omega)
  | (refine (show CPow _ _ from ⟨?_, ?_, ?_⟩) <;> decide)
  | omega
  | (simp only [Pz.len]; done)
  | (simp only [Pz.len, List.length_map, List.length_append, List.length_range, List.length_set, List.length_reverse]; omega))
/-! a statement's step: its values are reckoned, what is left is the way on -/
local macro_rules | `(tactic| wtm_at "st") => `(tactic| first
  | (refine' q_set (by assumption) ?h ?k; (case' h => repeat' wtm_at "ev"); (case' k => (intro _ _ _ _ _; try dsimp only)))
  | (refine' s_set (by assumption) ?h ?k; (case' h => repeat' wtm_at "ev"); (case' k => (intro _ _ _ _ _; try dsimp only)))
  | (refine' q_augS (by assumption) ?h1 ?h2 ?h3 ?r1 ?r2 ?s1 ?s2 ?k; (case' h1 => repeat' wtm_at "ev"); (case' h2 => repeat' wtm_at "ev"); (case' h3 => repeat' wtm_at "ev"); (case' r1 => exact rfl); (case' r2 => exact rfl); (case' s1 => try wtm_at "ev"); (case' s2 => try wtm_at "ev"); (case' k => (intro _ _ _ _ _; try dsimp only)))
  | (refine' s_augS (by assumption) ?h1 ?h2 ?h3 ?r1 ?r2 ?s1 ?s2 ?k; (case' h1 => repeat' wtm_at "ev"); (case' h2 => repeat' wtm_at "ev"); (case' h3 => repeat' wtm_at "ev"); (case' r1 => exact rfl); (case' r2 => exact rfl); (case' s1 => try wtm_at "ev"); (case' s2 => try wtm_at "ev"); (case' k => (intro _ _ _ _ _; try dsimp only)))
  | (refine' q_setLI (by assumption) ?h ?h1 ?h2 ?r1 ?s1 ?s2 ?k; (case' h => repeat' wtm_at "ev"); (case' h1 => repeat' wtm_at "ev"); (case' h2 => repeat' wtm_at "ev"); (case' r1 => exact rfl); (case' s1 => try wtm_at "ev"); (case' s2 => try wtm_at "ev"); (case' k => (intro _ _ _ _ _; try dsimp only)))
  | (refine' q_setL (by assumption) ?h ?h1 ?h2 ?r1 ?s1 ?s2 ?k; (case' h => repeat' wtm_at "ev"); (case' h1 => repeat' wtm_at "ev"); (case' h2 => repeat' wtm_at "ev"); (case' r1 => exact rfl); (case' s1 => try wtm_at "ev"); (case' s2 => try wtm_at "ev"); (case' k => (intro _ _ _ _ _; try dsimp only)))
  | (refine' s_setLI (by assumption) ?h ?h1 ?h2 ?r1 ?s1 ?s2 ?k; (case' h => repeat' wtm_at "ev"); (case' h1 => repeat' wtm_at "ev"); (case' h2 => repeat' wtm_at "ev"); (case' r1 => exact rfl); (case' s1 => try wtm_at "ev"); (case' s2 => try wtm_at "ev"); (case' k => (intro _ _ _ _ _; try dsimp only)))
  | (refine' s_setL (by assumption) ?h ?h1 ?h2 ?r1 ?s1 ?s2 ?k; (case' h => repeat' wtm_at "ev"); (case' h1 => repeat' wtm_at "ev"); (case' h2 => repeat' wtm_at "ev"); (case' r1 => exact rfl); (case' s1 => try wtm_at "ev"); (case' s2 => try wtm_at "ev"); (case' k => (intro _ _ _ _ _; try dsimp only)))
  | (refine' q_appI (by assumption) ?h1 ?h ?r1 ?r2 ?s ?k; (case' h1 => repeat' wtm_at "ev"); (case' h => repeat' wtm_at "ev"); (case' r1 => exact rfl); (case' r2 => exact rfl); (case' s => try wtm_at "ev"); (case' k => (intro _ _ _ _ _; try dsimp only)))
  | (refine' q_app (by assumption) ?h1 ?h ?r1 ?r2 ?s ?k; (case' h1 => repeat' wtm_at "ev"); (case' h => repeat' wtm_at "ev"); (case' r1 => exact rfl); (case' r2 => exact rfl); (case' s => try wtm_at "ev"); (case' k => (intro _ _ _ _ _; try dsimp only)))
  | (refine' s_appI (by assumption) ?h1 ?h ?r1 ?r2 ?s ?k; (case' h1 => repeat' wtm_at "ev"); (case' h => repeat' wtm_at "ev"); (case' r1 => exact rfl); (case' r2 => exact rfl); (case' s => try wtm_at "ev"); (case' k => (intro _ _ _ _ _; try dsimp only)))
  | (refine' s_app (by assumption) ?h1 ?h ?r1 ?r2 ?s ?k; (case' h1 => repeat' wtm_at "ev"); (case' h => repeat' wtm_at "ev"); (case' r1 => exact rfl); (case' r2 => exact rfl); (case' s => try wtm_at "ev"); (case' k => (intro _ _ _ _ _; try dsimp only)))
  | (refine' q_dput (by assumption) ?h ?h1 ?h2 ?r1 ?r2 ?s ?k; (case' h => repeat' wtm_at "ev"); (case' h1 => repeat' wtm_at "ev"); (case' h2 => repeat' wtm_at "ev"); (case' r1 => exact rfl); (case' r2 => exact rfl); (case' s => try wtm_at "ev"); (case' k => (intro _ _ _ _ _; try dsimp only)))
  | (refine' s_dput (by assumption) ?h ?h1 ?h2 ?r1 ?r2 ?s ?k; (case' h => repeat' wtm_at "ev"); (case' h1 => repeat' wtm_at "ev"); (case' h2 => repeat' wtm_at "ev"); (case' r1 => exact rfl); (case' r2 => exact rfl); (case' s => try wtm_at "ev"); (case' k => (intro _ _ _ _ _; try dsimp only)))
  | (refine' q_tup2 (by assumption) ?h ?k; (case' h => repeat' wtm_at "ev"); (case' k => (intro _ _ _ _ _; try dsimp only)))
  | (refine' q_drop (by assumption) ?h ?k; (case' h => repeat' wtm_at "ev"); (case' k => (intro _ _ _ _ _; try dsimp only)))
  | (refine' q_if (by assumption) ?h ?k1 ?k2; (case' h => repeat' wtm_at "ev"))
  | (refine' s_if (by assumption) ?h ?k1 ?k2; (case' h => repeat' wtm_at "ev"))
  | (refine' s_ret (by assumption) ?h ?k; (case' h => repeat' wtm_at "ev"); (case' k => (intro _ _ _ _ _ _ _; try dsimp only)))
  | (refine' q_ret (by assumption) ?h ?k; (case' h => repeat' wtm_at "ev"); (case' k => (intro _ _ _ _ _ _ _; try dsimp only)))
  | ((with_reducible refine' s_next (by assumption) ?k); (case' k => (intro _ _ _ _ _; try dsimp only)))
  | (with_reducible refine q_next ?_))

def strD (L : List T3) : D := .lst (L.map t3D)
def stL (t play : Int) (cs : List Beat) (a lv : Int) : List T3 := if lv ≤ 0 then [] else stF (org t play cs) a.toNat lv a []
theorem stS_eq {t play : Int} {cs : List Beat} : stS t play cs = stL t play cs (beN t play cs cs.length).2.1 (beN t play cs cs.length).2.2 := rfl
theorem stF_zero {og : Nat → Int → Int} {lv last : Int} {fd : List T3} : stF og 0 lv last fd = if og 0 lv = lv then fd else (lv, 1, last + 1) :: fd := rfl
theorem stF_succ {og : Nat → Int → Int} {k : Nat} {lv last : Int} {fd : List T3} : stF og (k + 1) lv last fd = if og (k + 1) lv = lv then stF og k lv last fd
    else if 0 < og (k + 1) lv then stF og k (og (k + 1) lv) (k : Int) ((lv, (k : Int) + 2, last + 1) :: fd) else (lv, (k : Int) + 2, last + 1) :: fd := rfl
def ph_sto : List MC → List Rv → List MC → Out → Prop := fun M rs M' o => ∃ t pl cs a lv, M = [] ∧ rs = [.dat (rwsD t pl cs cs.length), rint a, rint lv] ∧ (1 ≤ t ∧ t ≤ 12) ∧ cs.length ≤ 400 ∧ (lv ≤ 0 ∨ ((0 ≤ a ∧ a < (cs.length : Int)) ∧ 1 ≤ lv ∧ lv ≤ t)) ∧ M' = [] ∧ o = .ret (strD (stL t pl cs a lv))
abbrev sp_stretches_to (K : PySem.W.Frag) : Sp := FSp K ph_sto
theorem ok_stretches_to {P : Program} {w : World} {K : PySem.W.Frag} {mg : Str → Option Value} {base : Heap} {ad : Ad} {fd : Fd} (T : Txt K mg w ad fd) : FnOk P w K mg base CX0 1 ad.a_stretches_to fd.d_stretches_to ["rows", "at", "level"] (sp_stretches_to K) := by
  refine L2.Fun.ok (k := 0) T.F_stretches_to sc_stretches_to (fun vs H Q E h => ?_) (fun cdv A outer s H vs Q E hr h => ?_)
  · exact h.len fun M rs M' o ⟨_, _, _, _, _, _, e, _⟩ => by rw [e]; rfl
  · refine ⟨_, (pss_cons (ps_set (i := 3) sc_stretches_to.nd rfl (by first | exact Or.inl rfl | exact Or.inr rfl) (pe_lst pa_nil))
  (pss_cons (ps_set (i := 4) sc_stretches_to.nd rfl (by first | exact Or.inl rfl | exact Or.inr rfl) (pv 1))
  (pss_cons (ps_while PassesOwn.never (pt_cmpR op_gt (pv 2) (pe_int) (nomark _))
  (pss_cons (ps_set (i := 5) sc_stretches_to.nd rfl (by first | exact Or.inl rfl | exact Or.inr rfl) (pe_ix (ix_tupK (K := K) rfl) (pe_ix (ix_listK (K := K) rfl) (pe_ix (ix_listK (K := K) rfl) (pv 0) (pv 1) (fun _ _ => rfl)) (pv 2) (fun _ _ => rfl)) (pe_int) (fun _ _ => rfl)))
  (pss_cons (ps_if (pt_cmpR op_ne (pv 5) (pv 2) (nomark _)) (pss_cons (ps_set (i := 3) sc_stretches_to.nd rfl (by first | exact Or.inl rfl | exact Or.inr rfl) (pe_op op_cat (pe_lst (pa_cons (pe_tup (pa_cons (pv 2) (pa_cons (pe_op op_add (pv 1) (pe_int)) (pa_cons (pe_op op_add (pv 4) (pe_int)) pa_nil)))) pa_nil)) (pv 3)))
  (pss_one (ps_set (i := 4) sc_stretches_to.nd rfl (by first | exact Or.inl rfl | exact Or.inr rfl) (pe_op op_sub (pv 1) (pe_int))))) pss_nil)
  (pss_cons (ps_set (i := 2) sc_stretches_to.nd rfl (by first | exact Or.inl rfl | exact Or.inr rfl) (pv 5))
  (pss_one (ps_aug (i := 1) sc_stretches_to.nd rfl (by first | exact Or.inl rfl | exact Or.inr rfl) (pe_int) ip_sub))))))
  (pss_one (ps_ret (pv 3)))))), ?_⟩
    try dsimp only [cxOf, Cx.nox, Cx.wish, List.map]
    refine h.reading fun F As M rs M' o hΦ hL B S hB hA post => ?_
    obtain ⟨t, pl, cs, a, lv, rfl, rfl, ⟨h1, h2⟩, h3, hlv, rfl, rfl⟩ := hΦ
    dsimp only at post
    refine q_set S (r := .dat (strD [])) (M' := []) (ev_lst (ds := []) ea_nil rfl (Nat.zero_le _)) ?_
    intro F As σ H S
    refine q_set S (ev_var (r := rint a) rfl) ?_
    intro F As σ H S
    try simp only [List.set_cons_zero, List.set_cons_succ] at S
    obtain ⟨R, hR⟩ : ∃ R, stL t pl cs a lv = R := ⟨_, rfl⟩
    rw [hR] at post
    refine' q_while S (fun m M E => M = [] ∧ ((∃ k lv last fd x5, m = k + 1 ∧ 1 ≤ lv ∧ lv ≤ t ∧ k < cs.length ∧ stF (org t pl cs) k lv last fd = R ∧ fd.length + k < cs.length ∧ E = [some (.dat (rwsD t pl cs cs.length)), some (rint (k : Int)), some (rint lv), some (.dat (strD fd)), some (rint last), x5]) ∨ (m = 0 ∧ ∃ a' lv x4 x5, lv ≤ 0 ∧ E = [some (.dat (rwsD t pl cs cs.length)), some (rint a'), some (rint lv), some (.dat (strD R)), x4, x5]))) (if lv ≤ 0 then 0 else a.toNat + 1) ?h0 ?hb
    case h0 =>
      refine ⟨rfl, ?_⟩
      by_cases c : lv ≤ 0
      · refine .inr ⟨if_pos c, a, lv, some (rint a), none, c, ?_⟩
        rw [← hR]
        unfold stL
        rw [if_pos c]
        rfl
      · obtain ⟨⟨c1, c2⟩, c3, c4⟩ := hlv.resolve_left c
        refine .inl ⟨a.toNat, lv, a, [], none, if_neg c, c3, c4, by omega, ?_, by show 0 + _ < _; omega, ?_⟩
        · rw [← hR]
          unfold stL
          rw [if_neg c]
        · rw [show ((a.toNat : Nat) : Int) = a by omega]
          rfl
    case hb =>
      rintro m M E ⟨rfl, ⟨k, lv, last, fd, x5, rfl, b1, b2, b3, b4, b5, rfl⟩ | ⟨rfl, a', lv, x4, x5, b1, rfl⟩⟩
      · refine ⟨true, [], et_is (et_test (ev_op (ev_var (r := rint lv) rfl) ev_int od_bool)) (decide_eq_true (by omega)), fun _ => ?_, fun z => by cases z⟩
        intro F As σ H S
        have eo : (gP (rwN t pl cs (k + 1)) lv).2 = org t pl cs k lv := rfl
        refine q_set S (r := rint (org t pl cs k lv)) (M' := []) (ev_op (ev_op (ev_op (ev_var (r := .dat (rwsD t pl cs cs.length)) rfl) (ev_var (r := rint (k : Int)) rfl) (od_ixL (.inl rfl) (rws_atI b3))) (ev_var (r := rint lv) rfl) (od_ixL (.inl rfl) (gP_at (by omega) (by have := rwN_len (play := pl) h1 (cs := cs) (n := k); omega)))) ev_int (od_ixT rfl)) ?_
        intro F As σ H S
        try simp only [List.set_cons_zero, List.set_cons_succ] at S
        by_cases ce : org t pl cs k lv = lv
        · refine q_if S (b := false) (et_is (et_test (ev_op (ev_var (r := rint (org t pl cs k lv)) rfl) (ev_var (r := rint lv) rfl) od_neI)) (by rw [ce]; simp)) (fun z => by cases z) ?_
          intro _ F As σ H S
          refine s_next S ?_
          intro F As σ H S
          refine q_set S (ev_var (r := rint (org t pl cs k lv)) rfl) ?_
          intro F As σ H S
          refine s_aug S (a := (k : Int)) (c := 1) rfl ev_int ?_
          intro F As σ H S
          try simp only [List.set_cons_zero, List.set_cons_succ] at S
          cases k with
          | zero => rw [org_zero b1 b2] at ce; omega
          | succ k =>
            rw [ce] at S
            rw [stF_succ, if_pos ce] at b4
            refine ⟨k + 1, Nat.lt_succ_self _, s_end S ⟨rfl, .inl ⟨k, lv, last, fd, some (rint lv), rfl, b1, b2, by omega, b4, by omega, ?_⟩⟩ (Ele.refl _)⟩
            rw [show (((k + 1 : Nat) : Int) - 1) = (k : Int) by omega]
        · refine q_if S (b := true) (et_is (et_test (ev_op (ev_var (r := rint (org t pl cs k lv)) rfl) (ev_var (r := rint lv) rfl) od_neI)) (by simpa using ce)) ?_ (fun z => by cases z)
          intro _ F As σ H S
          refine q_set S (r := .dat (strD ((lv, (k : Int) + 1, last + 1) :: fd))) (M' := []) (ev_op (ev_lst (ds := [t3D (lv, (k : Int) + 1, last + 1)]) (ea_cons (ev_tup (ea_cons (ev_var (r := rint lv) rfl) (ea_cons (ev_op (ev_var (r := rint (k : Int)) rfl) ev_int od_int) (ea_cons (ev_op (ev_var (r := rint last) rfl) ev_int od_int) ea_nil))) rfl (Nat.le_of_ble_eq_true rfl)) ea_nil) rfl (Nat.le_of_ble_eq_true rfl)) (ev_var (r := .dat (strD fd)) rfl) (od_cat (ds := [t3D (lv, (k : Int) + 1, last + 1)]) (es := fd.map t3D) (.inl rfl) (.inl rfl) (by rw [List.length_map]; show 1 + _ ≤ _; omega))) ?_
          intro F As σ H S
          refine s_set S (ev_op (ev_var (r := rint (k : Int)) rfl) ev_int od_int) ?_
          intro F As σ H S
          refine q_set S (ev_var (r := rint (org t pl cs k lv)) rfl) ?_
          intro F As σ H S
          refine s_aug S (a := (k : Int)) (c := 1) rfl ev_int ?_
          intro F As σ H S
          try simp only [List.set_cons_zero, List.set_cons_succ] at S
          cases k with
          | zero =>
            rw [stF_zero, if_neg ce] at b4
            rw [org_zero b1 b2] at S
            refine ⟨0, Nat.zero_lt_succ _, s_end S ⟨rfl, .inr ⟨rfl, ((0 : Nat) : Int) - 1, 0, some (rint (((0 : Nat) : Int) - 1)), some (rint 0), Int.le_refl _, ?_⟩⟩ (Ele.refl _)⟩
            rw [← b4]; rfl
          | succ k =>
            rw [stF_succ, if_neg ce] at b4
            rcases org_ok (t := t) (play := pl) (cs := cs) (i := k) b3 b1 b2 with ⟨o1, _⟩ | ⟨o1, o2, _⟩
            · rw [o1] at S b4
              rw [if_neg (by omega)] at b4
              refine ⟨0, Nat.zero_lt_succ _, s_end S ⟨rfl, .inr ⟨rfl, ((k + 1 : Nat) : Int) - 1, 0, some (rint (((k + 1 : Nat) : Int) - 1)), some (rint 0), Int.le_refl _, ?_⟩⟩ (Ele.refl _)⟩
              rw [← b4, show ((k + 1 : Nat) : Int) + 1 = (k : Int) + 2 by omega]
            · rw [if_pos (by omega)] at b4
              refine ⟨k + 1, Nat.lt_succ_self _, s_end S ⟨rfl, .inl ⟨k, org t pl cs (k + 1) lv, (k : Int), (lv, (k : Int) + 2, last + 1) :: fd, some (rint (org t pl cs (k + 1) lv)), rfl, by omega, o2, by omega, b4, by show _ + 1 + _ < _; omega, ?_⟩⟩ (Ele.refl _)⟩
              rw [show ((k + 1 : Nat) : Int) + 1 = (k : Int) + 2 by omega, show (((k + 1 : Nat) : Int) - 1) = (k : Int) by omega]
      · refine ⟨false, [], et_is (et_test (ev_op (ev_var (r := rint lv) rfl) ev_int od_bool)) (decide_eq_false (by omega)), (fun z => by cases z), fun _ => ?_⟩
        intro F As σ H S
        refine s_ret S (ev_var rfl) ?_
        intro v F As σ H S r
        exact post _ _ _ _ _ _ _ S rfl r
def clmD (w : Int) (L : List T3) : D := .tup [.int w, strD L]
def Prm (t pl : Int) (cs : List Beat) : Prop := (1 ≤ t ∧ t ≤ 12) ∧ pl ≤ 60 ∧ cs.length ≤ 400 ∧ Crs t cs
def ph_stair : List MC → List Rv → List MC → Out → Prop := fun M rs M' o => ∃ t pl cs, M = [] ∧ rs = [rint t, rint pl, .dat (pairsD cs)] ∧ Prm t pl cs ∧ M' = [] ∧ o = .ret (clmD (worthV t pl cs) (stS t pl cs))
abbrev sp_stair (K : PySem.W.Frag) : Sp := FSp K ph_stair
theorem ok_stair {P : Program} {w : World} {K : PySem.W.Frag} {mg : Str → Option Value} {base : Heap} {ad : Ad} {fd : Fd} (T : Txt K mg w ad fd) : FnOk P w K mg base CX0 6 ad.a_stair fd.d_stair ["top", "play", "course"] (sp_stair K) := by
  have G_best_end := ok_best_end (P := P) (base := base) T
  have b_best_end := T.F_best_end.binds (ps := ["top", "rows"]) fun _ _ _ _ _ _ us hl => match us, hl with | [_, _], _ => rfl
  have G_check_counter := ok_check_counter (P := P) (base := base) T
  have b_check_counter := T.F_check_counter.binds (ps := ["top", "play", "pins", "course"]) fun _ _ _ _ _ _ us hl => match us, hl with | [_, _, _, _], _ => rfl
  have G_rows_of := ok_rows_of (P := P) (base := base) T
  have b_rows_of := T.F_rows_of.binds (ps := ["top", "play", "course"]) fun _ _ _ _ _ _ us hl => match us, hl with | [_, _, _], _ => rfl
  have G_stretches_to := ok_stretches_to (P := P) (base := base) T
  have b_stretches_to := T.F_stretches_to.binds (ps := ["rows", "at", "level"]) fun _ _ _ _ _ _ us hl => match us, hl with | [_, _, _], _ => rfl
  refine L2.Fun.ok (k := 5) T.F_stair sc_stair (fun vs H Q E h => ?_) (fun cdv A outer s H vs Q E hr h => ?_)
  · exact h.len fun M rs M' o ⟨_, _, _, _, e, _⟩ => by rw [e]; rfl
  · refine ⟨_, (pss_cons (ps_expr (pe_call G_check_counter (hr.mono (by first | decide | omega)) rfl T.g_check_counter T.F_check_counter.kp b_check_counter .nil passN (pa_cons (pv 0) (pa_cons (pv 1) (pa_cons (pe_int) (pa_cons (pv 2) pa_nil))))))
  (pss_cons (ps_set (i := 3) sc_stair.nd rfl (by first | exact Or.inl rfl | exact Or.inr rfl) (pe_call G_rows_of (hr.mono (by first | decide | omega)) rfl T.g_rows_of T.F_rows_of.kp b_rows_of .nil pass0 (pa_cons (pv 0) (pa_cons (pv 1) (pa_cons (pv 2) pa_nil)))))
  (pss_cons (ps_asg (pe_call G_best_end (hr.mono (by first | decide | omega)) rfl T.g_best_end T.F_best_end.kp b_best_end .nil pass0 (pa_cons (pv 0) (pa_cons (pv 3) pa_nil))) (pg_tupK (K := K) rfl rfl (pgs_cons (pg_name (i := 4) sc_stair.nd rfl (by first | exact Or.inl rfl | exact Or.inr rfl)) (pgs_cons (pg_name (i := 5) sc_stair.nd rfl (by first | exact Or.inl rfl | exact Or.inr rfl)) (pgs_cons (pg_name (i := 6) sc_stair.nd rfl (by first | exact Or.inl rfl | exact Or.inr rfl)) pgs_nil)))))
  (pss_one (ps_ret (pe_tup (pa_cons (pv 4) (pa_cons (pe_call G_stretches_to (hr.mono (by first | decide | omega)) rfl T.g_stretches_to T.F_stretches_to.kp b_stretches_to .nil pass0 (pa_cons (pv 3) (pa_cons (pv 5) (pa_cons (pv 6) pa_nil)))) pa_nil)))))))), ?_⟩
    try dsimp only [cxOf, Cx.nox, Cx.wish, List.map]
    refine h.reading fun F As M rs M' o hΦ hL B S hB hA post => ?_
    obtain ⟨t, pl, cs, rfl, rfl, ⟨⟨h1, h2⟩, h3, h4, h5⟩, rfl, rfl⟩ := hΦ
    dsimp only at post
    refine q_drop S (M' := []) (ev_call0 (ea_cons (ev_var (r := rint t) rfl) (ea_cons (ev_var (r := rint pl) rfl) (ea_cons ev_int (ea_cons (ev_var (r := .dat (pairsD cs)) rfl) ea_nil)))) (by intro z; cases z) ⟨_, _, _, _, rfl, rfl, ⟨h1, h2⟩, h3, by omega, h4, h5, rfl, rfl⟩) ?_
    intro F As σ H S
    refine q_set S (M' := []) (ev_call0 (ea_cons (ev_var (r := rint t) rfl) (ea_cons (ev_var (r := rint pl) rfl) (ea_cons (ev_var (r := .dat (pairsD cs)) rfl) ea_nil))) (by intro z; cases z) ⟨_, _, _, rfl, rfl, ⟨h1, h2⟩, h4, rfl, rfl⟩) ?_
    intro F As σ H S
    refine q_tup3 S (M' := []) (d1 := .int (beN t pl cs cs.length).1) (d2 := .int (beN t pl cs cs.length).2.1) (d3 := .int (beN t pl cs cs.length).2.2) (ev_call0 (ea_cons (ev_var (r := rint t) rfl) (ea_cons (ev_var (r := .dat (rwsD t pl cs cs.length)) rfl) ea_nil)) (by intro z; cases z) ⟨_, _, _, rfl, rfl, ⟨h1, h2⟩, h4, rfl, rfl⟩) ?_
    intro F As σ H S
    obtain ⟨b1, b2⟩ := beN_ok (t := t) (play := pl) (by omega) (cs := cs) (Nat.le_refl _)
    rw [WW_all] at b1
    refine s_ret S (r := .dat (clmD (worthV t pl cs) (stS t pl cs))) (M' := []) (ev_is (ev_tup (ea_cons (ev_var (r := rint (beN t pl cs cs.length).1) rfl) (ea_cons (ev_call0 (ea_cons (ev_var (r := .dat (rwsD t pl cs cs.length)) rfl) (ea_cons (ev_var (r := rint (beN t pl cs cs.length).2.1) rfl) (ea_cons (ev_var (r := rint (beN t pl cs cs.length).2.2) rfl) ea_nil))) (by intro z; cases z) ⟨t, pl, cs, _, _, rfl, rfl, ⟨h1, h2⟩, h4, ?_, rfl, rfl⟩) ea_nil)) rfl (Nat.le_of_ble_eq_true rfl)) (by rw [b1, ← stS_eq]; rfl)) ?_
    · rcases b2 with b2 | ⟨i, e, c1, c2, c3, c4⟩
      · rw [b2]; exact .inl (Int.le_refl _)
      · rw [c4]; exact .inr ⟨⟨by show (0 : Int) ≤ (i : Int); omega, by show (i : Int) < _; omega⟩, c2, c3⟩
    · intro v F As σ H S r
      exact post _ _ _ _ _ _ _ S rfl r
def ph_wos : List MC → List Rv → List MC → Out → Prop := fun M rs M' o => ∃ t pl cs s, M = [] ∧ rs = [rint pl, .dat (pairsD cs), .dat (t3D s)] ∧ cs.length ≤ 400 ∧ Form t cs.length s ∧ M' = [] ∧ o = .ret (.int (wsum pl cs s))
abbrev sp_worth_of_stretch (K : PySem.W.Frag) : Sp := FSp K ph_wos
theorem ok_worth_of_stretch {P : Program} {w : World} {K : PySem.W.Frag} {mg : Str → Option Value} {base : Heap} {ad : Ad} {fd : Fd} (T : Txt K mg w ad fd) : FnOk P w K mg base CX0 2 ad.a_worth_of_stretch fd.d_worth_of_stretch ["play", "course", "stretch"] (sp_worth_of_stretch K) := by
  have G_worth_of_beat := ok_worth_of_beat (P := P) (base := base) T
  have b_worth_of_beat := T.F_worth_of_beat.binds (ps := ["play", "beat", "level"]) fun _ _ _ _ _ _ us hl => match us, hl with | [_, _, _], _ => rfl
  refine L2.Fun.ok (k := 1) T.F_worth_of_stretch sc_worth_of_stretch (fun vs H Q E h => ?_) (fun cdv A outer s H vs Q E hr h => ?_)
  · exact h.len fun M rs M' o ⟨_, _, _, _, _, e, _⟩ => by rw [e]; rfl
  · refine ⟨_, (pss_cons (ps_asg (pv 2) (pg_tupK (K := K) rfl rfl (pgs_cons (pg_name (i := 3) sc_worth_of_stretch.nd rfl (by first | exact Or.inl rfl | exact Or.inr rfl)) (pgs_cons (pg_name (i := 4) sc_worth_of_stretch.nd rfl (by first | exact Or.inl rfl | exact Or.inr rfl)) (pgs_cons (pg_name (i := 5) sc_worth_of_stretch.nd rfl (by first | exact Or.inl rfl | exact Or.inr rfl)) pgs_nil)))))
  (pss_one (ps_ret (pe_callB (cr_sumK (K := K) rfl rfl) (by rfl) T.n_sum (by decide +kernel) (pa_cons (pe_lc rfl sc_worth_of_stretch.nd (pi_range2 (by rfl) T.n_range (pa_cons (pe_op op_sub (pv 4) (pe_int)) (pa_cons (pv 5) pa_nil))) (blkOk_by (own := [("at", 6)]) (N := N_worth_of_stretch) (sc := defScope s_worth_of_stretch) (by decide +kernel)) (fun _ _ _ _ _ => (pg_name (i := 6) sc_worth_of_stretch.nd rfl (by first | exact Or.inl rfl | exact Or.inr rfl))) (fun _ _ _ _ _ => pts_nil) (fun _ _ _ _ _ => (pe_call G_worth_of_beat (hr.mono (by first | decide | omega)) rfl T.g_worth_of_beat T.F_worth_of_beat.kp b_worth_of_beat .nil pass0 (pa_cons (pv 0) (pa_cons (pe_ix (ix_listK (K := K) rfl) (pv 1) (pv 6) (fun _ _ => rfl)) (pa_cons (pv 3) pa_nil)))))) pa_nil))))), ?_⟩
    try dsimp only [cxOf, Cx.nox, Cx.wish, List.map]
    refine h.reading fun F As M rs M' o hΦ hL B S hB hA post => ?_
    obtain ⟨t, pl, cs, s, rfl, rfl, h3, ⟨⟨f1, f2⟩, f3, f4, f5⟩, rfl, rfl⟩ := hΦ
    dsimp only at post
    refine q_tup3 S (M' := []) (d1 := .int s.1) (d2 := .int s.2.1) (d3 := .int s.2.2) (ev_var (r := .dat (t3D s)) rfl) ?_
    intro F As σ H S
    try simp only [List.set_cons_zero, List.set_cons_succ] at S
    refine s_ret S (r := rint (wsum pl cs s)) (M' := []) (ev_is (ev_cb (ea_cons (ev_lcR2AI (a := s.2.1 - 1) (n := s.2.2) (fun k => hit pl (cs.getD ((s.2.1 - 1).toNat + k) (0, 0)) s.1) (ea_cons (ev_op (ev_var (r := rint s.2.1) rfl) ev_int od_int) (ea_cons (ev_var (r := rint s.2.2) rfl) ea_nil)) ⟨by omega, by omega, by omega, by omega⟩ fun k hk => ?_) ea_nil) (cd_sum (.inl rfl))) ?_) ?_
    · refine ev_is (ev_call0 (ea_cons (ev_var (r := rint pl) rfl) (ea_cons (ev_op (ev_var (r := .dat (pairsD cs)) rfl) (ev_var (r := rint (s.2.1 - 1 + (k : Int))) rfl) (od_ixL (.inl rfl) (gP_at (by omega) (by omega)))) (ea_cons (ev_var (r := rint s.1) rfl) ea_nil))) (by intro z; cases z) ⟨_, _, _, rfl, rfl, rfl, rfl⟩) ?_
      unfold gP
      rw [show (s.2.1 - 1 + (k : Int)).toNat = (s.2.1 - 1).toNat + k by omega]
    · unfold wsum opn
      rw [show s.2.2 - (s.2.1 - 1) = s.2.2 - s.2.1 + 1 by omega]
    · intro v F As σ H S r
      exact post _ _ _ _ _ _ _ S rfl r
end K78
set_option Elab.async false
set_option linter.all false
set_option maxRecDepth 100000
set_option maxHeartbeats 4000000
namespace K78
open PySem L2 DL
/-! ### the steps: one rule an expression, by its reading's head -/
local macro_rules | `(tactic| wtm_at "ev") => `(tactic| first
  | exact ev_var rfl
  | exact ev_int
  | exact ev_non
  | exact ev_bl
  | exact ev_str
  | exact ea_nil
  | with_reducible apply ea_cons
  | ((with_reducible refine' ev_isi ?a ?b ?c); (case' a => repeat' wtm_at "ev"); (case' b => exact rfl); (case' c => exact rfl))
  | with_reducible apply ev_cb
  | with_reducible apply ev_op
  | with_reducible apply ev_un
  | with_reducible apply et_test
  | with_reducible apply et_B
  | with_reducible apply et_not
  | with_reducible apply ev_isN
  | with_reducible apply ev_notN
  | with_reducible apply ev_notV
  | with_reducible apply et_and
  | with_reducible apply et_or
  | with_reducible apply ev_andV
  | with_reducible apply ev_orV
  | with_reducible apply ev_ifI
  | with_reducible apply ev_ifD
  | ((with_reducible refine' ev_dnotin ?a ?b ?c ?d); (case' a => repeat' wtm_at "ev"); (case' b => repeat' wtm_at "ev"); (case' c => exact rfl); (case' d => first | exact .inl rfl | exact .inr ⟨_, rfl, rfl⟩))
  | ((with_reducible refine' ev_din ?a ?b ?c ?d); (case' a => repeat' wtm_at "ev"); (case' b => repeat' wtm_at "ev"); (case' c => exact rfl); (case' d => first | exact .inl rfl | exact .inr ⟨_, rfl, rfl⟩))
  | with_reducible apply ev_lcLAI
  | with_reducible apply ev_lcLII
  | with_reducible apply ev_lcLA
  | with_reducible apply ev_lcLI
  | with_reducible apply ev_lcRAI
  | with_reducible apply ev_lcRI
  | with_reducible apply ev_lcRA
  | with_reducible apply ev_lcR
  | exact et_yes
  | with_reducible intro _
  | exact od_int
  | exact od_bool
  | exact od_eqI
  | exact od_neI
  | exact od_eqS
  | exact od_neS
  | exact ud_neg
  | exact cd_abs
  | exact cd_max2
  | exact cd_min2
  | exact cd_int
  | exact cd_intB
  | exact cd_lenScr
  | exact cd_lenT
  | exact cd_lenI (.inl rfl)
  | exact cd_lenI (.inr ⟨_, rfl, rfl⟩)
  | exact cd_len (.inl rfl)
  | exact cd_len (.inr ⟨_, rfl, rfl⟩)
  | exact cd_lenD (.inl rfl)
  | exact cd_lenD (.inr ⟨_, rfl, rfl⟩)
  | exact cd_sum (.inl rfl)
  | exact cd_sorted (.inl rfl)
  | exact cd_list (.inl rfl)
  | exact cd_listT
  | exact eo_none
  | with_reducible apply eo_some
  | with_reducible apply ev_sliceScr
  | refine' ev_sliceI ?_ ?_ ?_ (.inl rfl)
  | with_reducible apply od_intC
  | with_reducible apply od_ixScr
  | refine' od_ixI (.inl rfl) ?_ ?_
  | refine' od_ixI (.inr ⟨_, rfl, rfl⟩) ?_ ?_
  | exact od_ixT rfl
  | exact od_inI (.inl rfl)
  | exact od_notinI (.inl rfl)
  | refine' od_cat (.inl rfl) (.inl rfl) ?_
  | ((with_reducible refine' ev_tup ?h ?r ?l); (case' h => repeat' wtm_at "ev"); (case' r => exact rfl); (case' l => exact Nat.le_of_ble_eq_true rfl))
  | (refine (show CMul _ _ from .inl ⟨?_, ?_⟩) <;> decide)
  | (refine (show CMul _ _ from .inr ⟨?_, ?_⟩) <;> decide)
  | (refine (show (_ : Prop) from ?_); assumption)
  | (refine (show CDiv _ _ from ⟨?_, ?_⟩) <;> omega)
  | (refine (show CPow _ _ from ⟨?_, ?_, ?_⟩) <;> decide)
  | omega
  | (simp only [Pz.len]; done)
  | (simp only [Pz.len, List.length_map, List.length_append, List.length_range, List.length_set, List.length_reverse]; omega))
/-! a statement's step: its values are reckoned, what is left is the way on -/
local macro_rules | `(tactic| wtm_at "st") => `(tactic| first
  | (refine' q_set (by assumption) ?h ?k; (case' h => repeat' wtm_at "ev"); (case' k => (intro _ _ _ _ _; try dsimp only)))
  | (refine' s_set (by assumption) ?h ?k; (case' h => repeat' wtm_at "ev"); (case' k => (intro _ _ _ _ _; try dsimp only)))
  | (refine' q_augS (by assumption) ?h1 ?h2 ?h3 ?r1 ?r2 ?s1 ?s2 ?k; (case' h1 => repeat' wtm_at "ev"); (case' h2 => repeat' wtm_at "ev"); (case' h3 => repeat' wtm_at "ev"); (case' r1 => exact rfl); (case' r2 => exact rfl); (case' s1 => try wtm_at "ev"); (case' s2 => try wtm_at "ev"); (case' k => (intro _ _ _ _ _; try dsimp only)))
  | (refine' s_augS (by assumption) ?h1 ?h2 ?h3 ?r1 ?r2 ?s1 ?s2 ?k; (case' h1 => repeat' wtm_at "ev"); (case' h2 => repeat' wtm_at "ev"); (case' h3 => repeat' wtm_at "ev"); (case' r1 => exact rfl); (case' r2 => exact rfl); (case' s1 => try wtm_at "ev"); (case' s2 => try wtm_at "ev"); (case' k => (intro _ _ _ _ _; try dsimp only)))
  | (refine' q_setLI (by assumption) ?h ?h1 ?h2 ?r1 ?s1 ?s2 ?k; (case' h => repeat' wtm_at "ev"); (case' h1 => repeat' wtm_at "ev"); (case' h2 => repeat' wtm_at "ev"); (case' r1 => exact rfl); (case' s1 => try wtm_at "ev"); (case' s2 => try wtm_at "ev"); (case' k => (intro _ _ _ _ _; try dsimp only)))
  | (refine' q_setL (by assumption) ?h ?h1 ?h2 ?r1 ?s1 ?s2 ?k; (case' h => repeat' wtm_at "ev"); (case' h1 => repeat' wtm_at "ev"); (case' h2 => repeat' wtm_at "ev"); (case' r1 => exact rfl); (case' s1 => try wtm_at "ev"); (case' s2 => try wtm_at "ev"); (case' k => (intro _ _ _ _ _; try dsimp only)))
  | (refine' s_setLI (by assumption) ?h ?h1 ?h2 ?r1 ?s1 ?s2 ?k; (case' h => repeat' wtm_at "ev"); (case' h1 => repeat' wtm_at "ev"); (case' h2 => repeat' wtm_at "ev"); (case' r1 => exact rfl); (case' s1 => try wtm_at "ev"); (case' s2 => try wtm_at "ev"); (case' k => (intro _ _ _ _ _; try dsimp only)))
  | (refine' s_setL (by assumption) ?h ?h1 ?h2 ?r1 ?s1 ?s2 ?k; (case' h => repeat' wtm_at "ev"); (case' h1 => repeat' wtm_at "ev"); (case' h2 => repeat' wtm_at "ev"); (case' r1 => exact rfl); (case' s1 => try wtm_at "ev"); (case' s2 => try wtm_at "ev"); (case' k => (intro _ _ _ _ _; try dsimp only)))
  | (refine' q_appI (by assumption) ?h1 ?h ?r1 ?r2 ?s ?k; (case' h1 => repeat' wtm_at "ev"); (case' h => repeat' wtm_at "ev"); (case' r1 => exact rfl); (case' r2 => exact rfl); (case' s => try wtm_at "ev"); (case' k => (intro _ _ _ _ _; try dsimp only)))
  | (refine' q_app (by assumption) ?h1 ?h ?r1 ?r2 ?s ?k; (case' h1 => repeat' wtm_at "ev"); (case' h => repeat' wtm_at "ev"); (case' r1 => exact rfl); (case' r2 => exact rfl); (case' s => try wtm_at "ev"); (case' k => (intro _ _ _ _ _; try dsimp only)))
  | (refine' s_appI (by assumption) ?h1 ?h ?r1 ?r2 ?s ?k; (case' h1 => repeat' wtm_at "ev"); (case' h => repeat' wtm_at "ev"); (case' r1 => exact rfl); (case' r2 => exact rfl); (case' s => try wtm_at "ev"); (case' k => (intro _ _ _ _ _; try dsimp only)))
  | (refine' s_app (by assumption) ?h1 ?h ?r1 ?r2 ?s ?k; (case' h1 => repeat' wtm_at "ev"); (case' h => repeat' wtm_at "ev"); (case' r1 => exact rfl); (case' r2 => exact rfl); (case' s => try wtm_at "ev"); (case' k => (intro _ _ _ _ _; try dsimp only)))
  | (refine' q_dput (by assumption) ?h ?h1 ?h2 ?r1 ?r2 ?s ?k; (case' h => repeat' wtm_at "ev"); (case' h1 => repeat' wtm_at "ev"); (case' h2 => repeat' wtm_at "ev"); (case' r1 => exact rfl); (case' r2 => exact rfl); (case' s => try wtm_at "ev"); (case' k => (intro _ _ _ _ _; try dsimp only)))
  | (refine' s_dput (by assumption) ?h ?h1 ?h2 ?r1 ?r2 ?s ?k; (case' h => repeat' wtm_at "ev"); (case' h1 => repeat' wtm_at "ev"); (case' h2 => repeat' wtm_at "ev"); (case' r1 => exact rfl); (case' r2 => exact rfl); (case' s => try wtm_at "ev"); (case' k => (intro _ _ _ _ _; try dsimp only)))
  | (refine' q_tup2 (by assumption) ?h ?k; (case' h => repeat' wtm_at "ev"); (case' k => (intro _ _ _ _ _; try dsimp only)))
  | (refine' q_drop (by assumption) ?h ?k; (case' h => repeat' wtm_at "ev"); (case' k => (intro _ _ _ _ _; try dsimp only)))
  | (refine' q_if (by assumption) ?h ?k1 ?k2; (case' h => repeat' wtm_at "ev"))
  | (refine' s_if (by assumption) ?h ?k1 ?k2; (case' h => repeat' wtm_at "ev"))
  | (refine' s_ret (by assumption) ?h ?k; (case' h => repeat' wtm_at "ev"); (case' k => (intro _ _ _ _ _ _ _; try dsimp only)))
  | (refine' q_ret (by assumption) ?h ?k; (case' h => repeat' wtm_at "ev"); (case' k => (intro _ _ _ _ _ _ _; try dsimp only)))
  | ((with_reducible refine' s_next (by assumption) ?k); (case' k => (intro _ _ _ _ _; try dsimp only)))
  | (with_reducible refine q_next ?_))

/-! ### the judge -/
theorem t3_at {L : List T3} {i : Int} (h0 : 0 ≤ i) (h1 : i < L.length) : atI (L.map t3D) i = some (t3D (L.getD i.toNat (0, 0, 0))) := by
  refine atI_of h0 ?_
  have h : i.toNat < L.length := by omega
  rw [List.getElem?_map, List.getElem?_eq_getElem h]
  show some (t3D _) = some (t3D _)
  rw [List.getD_eq_getElem?_getD, List.getElem?_eq_getElem h]; rfl
theorem t3_of {L : List T3} {i : Nat} {d : D} (h : (L.map t3D)[i]? = some d) : ∃ s, L[i]? = some s ∧ d = t3D s := by
  rw [List.getElem?_map] at h
  cases e : L[i]? with
  | none => rw [e] at h; cases h
  | some c => rw [e] at h; exact ⟨c, rfl, (Option.some.inj h).symm⟩
theorem arr_map {L : List T3} {g : T3 → Int} : (arr L.length fun i => g (L.getD i (0, 0, 0))) = L.map g := by
  unfold arr
  refine List.ext_getElem? fun k => ?_
  rw [List.getElem?_map, List.getElem?_map]
  by_cases h : k < L.length
  · rw [List.getElem?_range h, List.getElem?_eq_getElem h]
    show some (g (L.getD k _)) = some (g _)
    rw [List.getD_eq_getElem?_getD, List.getElem?_eq_getElem h]; rfl
  · rw [List.getElem?_eq_none (by rw [List.length_range]; omega), List.getElem?_eq_none (by omega)]; rfl
theorem link_len : ∀ {L : List T3}, Link L → (∀ s ∈ L, 1 ≤ s.1) → ∀ {h r}, L = h :: r → (L.length : Int) ≤ h.1
  | [], _, _, _, _, e => by cases e
  | [a], _, f, _, _, e => by cases e; exact f _ (List.mem_cons_self ..)
  | a :: b :: r, l, f, _, _, e => by
    cases e
    have h := link_len (L := b :: r) l.2.2 (fun s hs => f s (List.mem_cons_of_mem _ hs)) rfl
    have h2 := l.1
    have e1 : (a :: b :: r).length = (b :: r).length + 1 := rfl
    rw [e1]
    omega
theorem stw_len {t : Int} {n : Nat} {L : List T3} (h : Stw t n L) (ht : 0 ≤ t) : (L.length : Int) ≤ t := by
  cases L with
  | nil => exact ht
  | cons a r =>
    have h1 := link_len h.link (fun s hs => (h.form s hs).1.1) rfl
    have h2 := (h.form a (List.mem_cons_self ..)).1.2
    omega
def wrdD (b : Bool) : D := if b then .non else .str "worth"
def ph_judge : List MC → List Rv → List MC → Out → Prop := fun M rs M' o => ∃ t pl cs w L, M = [] ∧ rs = [rint t, rint pl, .dat (pairsD cs), .dat (clmD w L)] ∧ Prm t pl cs ∧ Stw t cs.length L ∧ w = wall pl cs L ∧ M' = [] ∧ o = .ret (wrdD (decide (w = worthV t pl cs)))
abbrev sp_judge_stair (K : PySem.W.Frag) : Sp := FSp K ph_judge
theorem ok_judge_stair {P : Program} {w : World} {K : PySem.W.Frag} {mg : Str → Option Value} {base : Heap} {ad : Ad} {fd : Fd} (T : Txt K mg w ad fd) : FnOk P w K mg base CX0 6 ad.a_judge_stair fd.d_judge_stair ["top", "play", "course", "claim"] (sp_judge_stair K) := by
  have G_best_end := ok_best_end (P := P) (base := base) T
  have b_best_end := T.F_best_end.binds (ps := ["top", "rows"]) fun _ _ _ _ _ _ us hl => match us, hl with | [_, _], _ => rfl
  have G_check_counter := ok_check_counter (P := P) (base := base) T
  have b_check_counter := T.F_check_counter.binds (ps := ["top", "play", "pins", "course"]) fun _ _ _ _ _ _ us hl => match us, hl with | [_, _, _, _], _ => rfl
  have G_rows_of := ok_rows_of (P := P) (base := base) T
  have b_rows_of := T.F_rows_of.binds (ps := ["top", "play", "course"]) fun _ _ _ _ _ _ us hl => match us, hl with | [_, _, _], _ => rfl
  have G_worth_of_stretch := ok_worth_of_stretch (P := P) (base := base) T
  have b_worth_of_stretch := T.F_worth_of_stretch.binds (ps := ["play", "course", "stretch"]) fun _ _ _ _ _ _ us hl => match us, hl with | [_, _, _], _ => rfl
  refine L2.Fun.ok (k := 5) T.F_judge_stair sc_judge_stair (fun vs H Q E h => ?_) (fun cdv A outer s H vs Q E hr h => ?_)
  · exact h.len fun M rs M' o ⟨_, _, _, _, _, _, e, _⟩ => by rw [e]; rfl
  · refine ⟨_, (pss_cons (ps_expr (pe_call G_check_counter (hr.mono (by first | decide | omega)) rfl T.g_check_counter T.F_check_counter.kp b_check_counter .nil passN (pa_cons (pv 0) (pa_cons (pv 1) (pa_cons (pe_int) (pa_cons (pv 2) pa_nil))))))
  (pss_cons (ps_asg (pv 3) (pg_tupK (K := K) rfl rfl (pgs_cons (pg_name (i := 4) sc_judge_stair.nd rfl (by first | exact Or.inl rfl | exact Or.inr rfl)) (pgs_cons (pg_name (i := 5) sc_judge_stair.nd rfl (by first | exact Or.inl rfl | exact Or.inr rfl)) pgs_nil))))
  (pss_cons (ps_for PassesOwn.never rfl (pi_listK (K := K) rfl (pv 5)) (pg_tupK (K := K) rfl rfl (pgs_cons (pg_name (i := 6) sc_judge_stair.nd rfl (by first | exact Or.inl rfl | exact Or.inr rfl)) (pgs_cons (pg_name (i := 7) sc_judge_stair.nd rfl (by first | exact Or.inl rfl | exact Or.inr rfl)) (pgs_cons (pg_name (i := 8) sc_judge_stair.nd rfl (by first | exact Or.inl rfl | exact Or.inr rfl)) pgs_nil))))
  (pss_one (ps_if (PW.pt (pw_or (pt_not (pt_chain op_le op_le (pe_int) (pv 6) (pv 0))) (pw_or1 (pt_not (pt_chain4 op_le op_le op_le (pe_int) (pv 7) (pv 8) (pe_callB (call_lenK (K := K) rfl) (by rfl) T.n_len (by decide +kernel) (pa_cons (pv 2) pa_nil))))))) (pss_one (ps_ret (pe_str))) pss_nil)))
  (pss_cons (ps_for PassesOwn.never rfl (pi_range2 (by rfl) T.n_range (pa_cons (pe_int) (pa_cons (pe_callB (call_lenK (K := K) rfl) (by rfl) T.n_len (by decide +kernel) (pa_cons (pv 5) pa_nil)) pa_nil))) (pg_name (i := 9) sc_judge_stair.nd rfl (by first | exact Or.inl rfl | exact Or.inr rfl))
  (pss_one (ps_if (pt_cmpR op_ge (pe_ix (ix_tupK (K := K) rfl) (pe_ix (ix_listK (K := K) rfl) (pv 5) (pv 9) (fun _ _ => rfl)) (pe_int) (fun _ _ => rfl)) (pe_ix (ix_tupK (K := K) rfl) (pe_ix (ix_listK (K := K) rfl) (pv 5) (pe_op op_sub (pv 9) (pe_int)) (fun _ _ => rfl)) (pe_int) (fun _ _ => rfl)) (nomark _)) (pss_one (ps_ret (pe_str))) pss_nil)))
  (pss_cons (ps_for PassesOwn.never rfl (pi_range2 (by rfl) T.n_range (pa_cons (pe_int) (pa_cons (pe_callB (call_lenK (K := K) rfl) (by rfl) T.n_len (by decide +kernel) (pa_cons (pv 5) pa_nil)) pa_nil))) (pg_name (i := 9) sc_judge_stair.nd rfl (by first | exact Or.inl rfl | exact Or.inr rfl))
  (pss_one (ps_if (pt_cmpR op_ne (pe_ix (ix_tupK (K := K) rfl) (pe_ix (ix_listK (K := K) rfl) (pv 5) (pv 9) (fun _ _ => rfl)) (pe_int) (fun _ _ => rfl)) (pe_op op_add (pe_ix (ix_tupK (K := K) rfl) (pe_ix (ix_listK (K := K) rfl) (pv 5) (pe_op op_sub (pv 9) (pe_int)) (fun _ _ => rfl)) (pe_int) (fun _ _ => rfl)) (pe_int)) (nomark _)) (pss_one (ps_ret (pe_str))) pss_nil)))
  (pss_cons (ps_if (pt_cmpR op_ne (pv 4) (pe_callB (cr_sumK (K := K) rfl rfl) (by rfl) T.n_sum (by decide +kernel) (pa_cons (pe_lc rfl sc_judge_stair.nd (pi_listK (K := K) rfl (pv 5)) (blkOk_by (own := [("stretch", 10)]) (N := N_judge_stair) (sc := defScope s_judge_stair) (by decide +kernel)) (fun _ _ _ _ _ => (pg_name (i := 10) sc_judge_stair.nd rfl (by first | exact Or.inl rfl | exact Or.inr rfl))) (fun _ _ _ _ _ => pts_nil) (fun _ _ _ _ _ => (pe_call G_worth_of_stretch (hr.mono (by first | decide | omega)) rfl T.g_worth_of_stretch T.F_worth_of_stretch.kp b_worth_of_stretch .nil pass0 (pa_cons (pv 1) (pa_cons (pv 2) (pa_cons (pv 10) pa_nil)))))) pa_nil)) (nomark _)) (pss_one (ps_ret (pe_str))) pss_nil)
  (pss_cons (ps_if (pt_cmpR op_ne (pv 4) (pe_ix (ix_tupK (K := K) rfl) (pe_call G_best_end (hr.mono (by first | decide | omega)) rfl T.g_best_end T.F_best_end.kp b_best_end .nil pass0 (pa_cons (pv 0) (pa_cons (pe_call G_rows_of (hr.mono (by first | decide | omega)) rfl T.g_rows_of T.F_rows_of.kp b_rows_of .nil pass0 (pa_cons (pv 0) (pa_cons (pv 1) (pa_cons (pv 2) pa_nil)))) pa_nil))) (pe_int) (fun _ _ => rfl)) (nomark _)) (pss_one (ps_ret (pe_str))) pss_nil)
  (pss_one (ps_ret (pe_non)))))))))), ?_⟩
    try dsimp only [cxOf, Cx.nox, Cx.wish, List.map]
    refine h.reading fun F As M rs M' o hΦ hL B S hB hA post => ?_
    obtain ⟨t, pl, cs, w, L, rfl, rfl, ⟨⟨h1, h2⟩, h3, h4, h5⟩, hs, hw, rfl, rfl⟩ := hΦ
    dsimp only at post
    have hll := stw_len hs (by omega)
    refine q_drop S (M' := []) (ev_call0 (ea_cons (ev_var (r := rint t) rfl) (ea_cons (ev_var (r := rint pl) rfl) (ea_cons ev_int (ea_cons (ev_var (r := .dat (pairsD cs)) rfl) ea_nil)))) (by intro z; cases z) ⟨_, _, _, _, rfl, rfl, ⟨h1, h2⟩, h3, by omega, h4, h5, rfl, rfl⟩) ?_
    intro F As σ H S
    refine q_tup2 S (M' := []) (d1 := .int w) (d2 := strD L) (ev_var (r := .dat (clmD w L)) rfl) ?_
    intro F As σ H S
    try simp only [List.set_cons_zero, List.set_cons_succ] at S
    refine' q_forT3 S (ds := L.map t3D) (ev_var (r := .dat (strD L)) rfl) (fun d hd => by
      obtain ⟨s, _, rfl⟩ := List.mem_map.mp hd
      exact ⟨_, _, _, rfl⟩) (fun i M E => M = [] ∧ ∃ x6 x7 x8, E = [some (rint t), some (rint pl), some (.dat (pairsD cs)), some (.dat (clmD w L)), some (rint w), some (.dat (strD L)), x6, x7, x8, none, none]) ⟨rfl, _, _, _, rfl⟩ ?b1 ?d1
    case b1 =>
      rintro B2 cv i d1 d2 d3 M E hn ⟨rfl, x6, x7, x8, rfl⟩ F As σ H S
      obtain ⟨s, hs1, hs2⟩ := t3_of hn
      cases hs2
      obtain ⟨⟨f1, f2⟩, f3, f4, f5⟩ := hs.form s (List.mem_of_getElem? hs1)
      try simp only [List.set_cons_zero, List.set_cons_succ] at S
      refine s_if S (b := false) (et_is (et_or (b := false) (c := false) (et_not (b := true) (et_test (ev_is (ev_chain3 ev_int (ev_var (r := rint s.1) rfl) od_bool (fun _ => ev_var (r := rint t) rfl) (fun _ => od_bool)) (by rw [decide_eq_true f1, decide_eq_true f2]; rfl)))) (fun _ => et_not (b := true) (et_test (ev_is (ev_chain4 ev_int (ev_var (r := rint s.2.1) rfl) od_bool (fun _ => ev_var (r := rint s.2.2) rfl) (fun _ => od_bool) (fun _ _ => ev_cb (ea_cons (ev_var (r := .dat (pairsD cs)) rfl) ea_nil) (cd_len (.inl rfl))) (fun _ _ => od_bool)) (by rw [List.length_map, decide_eq_true f3, decide_eq_true f4, decide_eq_true f5]; rfl))))) rfl) (fun hc => by cases hc) ?_
      intro _ F As σ H S
      refine s_next S ?_
      intro F As σ H S
      exact s_end S ⟨rfl, _, _, _, rfl⟩ (Ele.refl _)
    case d1 =>
    rintro M E ⟨rfl, x6, x7, x8, rfl⟩ F As σ H S
    refine' q_forR2 S (a := 1) (n := (L.length : Int)) (ea_cons ev_int (ea_cons (ev_is (ev_cb (ea_cons (ev_var (r := .dat (strD L)) rfl) ea_nil) (cd_len (ds := L.map t3D) (.inl rfl))) (by rw [List.length_map])) ea_nil)) ⟨by omega, by omega, by omega, by omega⟩ (fun i M E => M = [] ∧ ∃ x9, E = [some (rint t), some (rint pl), some (.dat (pairsD cs)), some (.dat (clmD w L)), some (rint w), some (.dat (strD L)), x6, x7, x8, x9, none]) ⟨rfl, _, rfl⟩ ?b2 ?d2
    case b2 =>
      rintro i M E hi ⟨rfl, x9, rfl⟩ F As σ H S
      obtain ⟨l1, l2⟩ := link_at (L := L) (i := i) hs.link (by omega)
      try simp only [List.set_cons_zero, List.set_cons_succ] at S
      refine s_if S (b := false) (et_is (et_test (ev_op (ev_op (ev_op (ev_var (r := .dat (strD L)) rfl) (ev_var (r := rint (1 + (i : Int))) rfl) (od_ixL (.inl rfl) (t3_at (by omega) (by omega)))) ev_int (od_ixT rfl)) (ev_op (ev_op (ev_var (r := .dat (strD L)) rfl) (ev_op (ev_var (r := rint (1 + (i : Int))) rfl) ev_int od_int) (od_ixL (.inl rfl) (t3_at (by omega) (by omega)))) ev_int (od_ixT rfl)) od_bool)) (by
        rw [show (1 + (i : Int)).toNat = i + 1 by omega, show (1 + (i : Int) - 1).toNat = i by omega]
        exact decide_eq_false (by omega))) (fun hc => by cases hc) ?_
      intro _ F As σ H S
      refine s_next S ?_
      intro F As σ H S
      exact s_end S ⟨rfl, _, rfl⟩ (Ele.refl _)
    case d2 =>
    rintro M E ⟨rfl, x9, rfl⟩ F As σ H S
    refine' q_forR2 S (a := 1) (n := (L.length : Int)) (ea_cons ev_int (ea_cons (ev_is (ev_cb (ea_cons (ev_var (r := .dat (strD L)) rfl) ea_nil) (cd_len (ds := L.map t3D) (.inl rfl))) (by rw [List.length_map])) ea_nil)) ⟨by omega, by omega, by omega, by omega⟩ (fun i M E => M = [] ∧ ∃ x9, E = [some (rint t), some (rint pl), some (.dat (pairsD cs)), some (.dat (clmD w L)), some (rint w), some (.dat (strD L)), x6, x7, x8, x9, none]) ⟨rfl, _, rfl⟩ ?b3 ?d3
    case b3 =>
      rintro i M E hi ⟨rfl, x9, rfl⟩ F As σ H S
      obtain ⟨l1, l2⟩ := link_at (L := L) (i := i) hs.link (by omega)
      try simp only [List.set_cons_zero, List.set_cons_succ] at S
      refine s_if S (b := false) (et_is (et_test (ev_op (ev_op (ev_op (ev_var (r := .dat (strD L)) rfl) (ev_var (r := rint (1 + (i : Int))) rfl) (od_ixL (.inl rfl) (t3_at (by omega) (by omega)))) ev_int (od_ixT rfl)) (ev_op (ev_op (ev_op (ev_var (r := .dat (strD L)) rfl) (ev_op (ev_var (r := rint (1 + (i : Int))) rfl) ev_int od_int) (od_ixL (.inl rfl) (t3_at (by omega) (by omega)))) ev_int (od_ixT rfl)) ev_int od_int) od_neI)) (by
        rw [show (1 + (i : Int)).toNat = i + 1 by omega, show (1 + (i : Int) - 1).toNat = i by omega, l2]
        simp)) (fun hc => by cases hc) ?_
      intro _ F As σ H S
      refine s_next S ?_
      intro F As σ H S
      exact s_end S ⟨rfl, _, rfl⟩ (Ele.refl _)
    case d3 =>
    rintro M E ⟨rfl, x9, rfl⟩ F As σ H S
    refine q_if S (b := false) (et_is (et_test (ev_op (ev_var (r := rint w) rfl) (ev_cb (ea_cons (ev_lcDI (ds := L.map t3D) (fun i => wsum pl cs (L.getD i (0, 0, 0))) (ev_var (r := .dat (strD L)) rfl) (by rw [List.length_map]; omega) fun i d hi => ?_) ea_nil) (cd_sum (.inl rfl))) od_neI)) ?_) (fun hc => by cases hc) ?_
    · obtain ⟨s, hs1, rfl⟩ := t3_of hi
      rw [List.getD_eq_getElem?_getD, hs1]
      exact ev_call0 (ea_cons (ev_var (r := rint pl) rfl) (ea_cons (ev_var (r := .dat (pairsD cs)) rfl) (ea_cons (ev_var (r := .dat (t3D s)) rfl) ea_nil))) (by intro z; cases z) ⟨t, pl, cs, s, rfl, rfl, h4, hs.form s (List.mem_of_getElem? hs1), rfl, rfl⟩
    · rw [List.length_map, arr_map, hw]
      simp [wall]
    intro _ F As σ H S
    refine s_next S ?_
    intro F As σ H S
    obtain ⟨b1, b2⟩ := beN_ok (t := t) (play := pl) (by omega) (cs := cs) (Nat.le_refl _)
    rw [WW_all] at b1
    refine q_if S (b := !decide (w = worthV t pl cs)) (et_is (et_test (ev_op (ev_var (r := rint w) rfl) (ev_op (ev_call0 (ea_cons (ev_var (r := rint t) rfl) (ea_cons (ev_call0 (ea_cons (ev_var (r := rint t) rfl) (ea_cons (ev_var (r := rint pl) rfl) (ea_cons (ev_var (r := .dat (pairsD cs)) rfl) ea_nil))) (by intro z; cases z) ⟨t, pl, cs, rfl, rfl, ⟨h1, h2⟩, h4, rfl, rfl⟩) ea_nil)) (by intro z; cases z) ⟨t, pl, cs, rfl, rfl, ⟨h1, h2⟩, h4, rfl, rfl⟩) ev_int (od_ixT rfl)) od_neI)) (by rw [b1])) ?_ ?_
    · intro hb F As σ H S
      refine s_ret S (r := .dat (.str "worth")) (M' := []) ev_str ?_
      intro v F As σ H S r
      refine post _ _ _ _ _ _ _ S rfl ?_
      have : decide (w = worthV t pl cs) = false := by simpa using hb
      rw [this]
      exact r
    · intro hb F As σ H S
      refine s_next S ?_
      intro F As σ H S
      try dsimp only
      refine s_ret S (r := .dat .non) (M' := []) ev_non ?_
      intro v F As σ H S r
      refine post _ _ _ _ _ _ _ S rfl ?_
      have : decide (w = worthV t pl cs) = true := by simpa using hb
      rw [this]
      exact r
end K78
set_option Elab.async false
set_option linter.all false
set_option maxRecDepth 100000
set_option maxHeartbeats 4000000
namespace K78
open PySem L2 DL
/-! ### the steps: one rule an expression, by its reading's head -/
local macro_rules | `(tactic| wtm_at "ev") => `(tactic| first
  | exact ev_var rfl
  | exact ev_int
  | exact ev_non
  | exact ev_bl
  | exact ev_str
  | exact ea_nil
  | with_reducible apply ea_cons
  | ((with_reducible refine' ev_isi ?a ?b ?c); (case' a => repeat' wtm_at "ev"); (case' b => exact rfl); (case' c => exact rfl))
  | with_reducible apply ev_cb
  | with_reducible apply ev_op
  | with_reducible apply ev_un
  | with_reducible apply et_test
  | with_reducible apply et_B
  | with_reducible apply et_not
  | with_reducible apply ev_isN
  | with_reducible apply ev_notN
  | with_reducible apply ev_notV
  | with_reducible apply et_and
  | with_reducible apply et_or
  | with_reducible apply ev_andV
  | with_reducible apply ev_orV
  | with_reducible apply ev_ifI
  | with_reducible apply ev_ifD
  | ((with_reducible refine' ev_dnotin ?a ?b ?c ?d); (case' a => repeat' wtm_at "ev"); (case' b => repeat' wtm_at "ev"); (case' c => exact rfl); (case' d => first | exact .inl rfl | exact .inr ⟨_, rfl, rfl⟩))
  | ((with_reducible refine' ev_din ?a ?b ?c ?d); (case' a => repeat' wtm_at "ev"); (case' b => repeat' wtm_at "ev"); (case' c => exact rfl); (case' d => first | exact .inl rfl | exact .inr ⟨_, rfl, rfl⟩))
  | with_reducible apply ev_lcLAI
  | with_reducible apply ev_lcLII
  | with_reducible apply ev_lcLA
  | with_reducible apply ev_lcLI
  | with_reducible apply ev_lcRAI
  | with_reducible apply ev_lcRI
  | with_reducible apply ev_lcRA
  | with_reducible apply ev_lcR
  | exact et_yes
  | with_reducible intro _
  | exact od_int
  | exact od_bool
  | exact od_eqI
  | exact od_neI
  | exact od_eqS
  | exact od_neS
  | exact ud_neg
  | exact cd_abs
  | exact cd_max2
  | exact cd_min2
  | exact cd_int
  | exact cd_intB
  | exact cd_lenScr
  | exact cd_lenT
  | exact cd_lenI (.inl rfl)
  | exact cd_lenI (.inr ⟨_, rfl, rfl⟩)
  | exact cd_len (.inl rfl)
  | exact cd_len (.inr ⟨_, rfl, rfl⟩)
  | exact cd_lenD (.inl rfl)
  | exact cd_lenD (.inr ⟨_, rfl, rfl⟩)
  | exact cd_sum (.inl rfl)
  | exact cd_sorted (.inl rfl)
  | exact cd_list (.inl rfl)
  | exact cd_listT
  | exact eo_none
  | with_reducible apply eo_some
  | with_reducible apply ev_sliceScr
  | refine' ev_sliceI ?_ ?_ ?_ (.inl rfl)
  | with_reducible apply od_intC
  | with_reducible apply od_ixScr
  | refine' od_ixI (.inl rfl) ?_ ?_
  | refine' od_ixI (.inr ⟨_, rfl, rfl⟩) ?_ ?_
  | exact od_ixT rfl
  | exact od_inI (.inl rfl)
  | exact od_notinI (.inl rfl)
  | refine' od_cat (.inl rfl) (.inl rfl) ?_
  | ((with_reducible refine' ev_tup ?h ?r ?l); (case' h => repeat' wtm_at "ev"); (case' r => exact rfl); (case' l => exact Nat.le_of_ble_eq_true rfl))
  | (refine (show CMul _ _ from .inl ⟨?_, ?_⟩) <;> decide)
  | (refine (show CMul _ _ from .inr ⟨?_, ?_⟩) <;> decide)
  | (refine (show (_ : Prop) from ?_); assumption)
  | (refine (show CDiv _ _ from ⟨?_, ?_⟩) <;> omega)
  | (refine (show CPow _ _ from ⟨?_, ?_, ?_⟩) <;> decide)
  | omega
  | (simp only [Pz.len]; done)
  | (simp only [Pz.len, List.length_map, List.length_append, List.length_range, List.length_set, List.length_reverse]; omega))
/-! a statement's step: its values are reckoned, what is left is the way on -/
local macro_rules | `(tactic| wtm_at "st") => `(tactic| first
  | (refine' q_set (by assumption) ?h ?k; (case' h => repeat' wtm_at "ev"); (case' k => (intro _ _ _ _ _; try dsimp only)))
  | (refine' s_set (by assumption) ?h ?k; (case' h => repeat' wtm_at "ev"); (case' k => (intro _ _ _ _ _; try dsimp only)))
  | (refine' q_augS (by assumption) ?h1 ?h2 ?h3 ?r1 ?r2 ?s1 ?s2 ?k; (case' h1 => repeat' wtm_at "ev"); (case' h2 => repeat' wtm_at "ev"); (case' h3 => repeat' wtm_at "ev"); (case' r1 => exact rfl); (case' r2 => exact rfl); (case' s1 => try wtm_at "ev"); (case' s2 => try wtm_at "ev"); (case' k => (intro _ _ _ _ _; try dsimp only)))
  | (refine' s_augS (by assumption) ?h1 ?h2 ?h3 ?r1 ?r2 ?s1 ?s2 ?k; (case' h1 => repeat' wtm_at "ev"); (case' h2 => repeat' wtm_at "ev"); (case' h3 => repeat' wtm_at "ev"); (case' r1 => exact rfl); (case' r2 => exact rfl); (case' s1 => try wtm_at "ev"); (case' s2 => try wtm_at "ev"); (case' k => (intro _ _ _ _ _; try dsimp only)))
  | (refine' q_setLI (by assumption) ?h ?h1 ?h2 ?r1 ?s1 ?s2 ?k; (case' h => repeat' wtm_at "ev"); (case' h1 => repeat' wtm_at "ev"); (case' h2 => repeat' wtm_at "ev"); (case' r1 => exact rfl); (case' s1 => try wtm_at "ev"); (case' s2 => try wtm_at "ev"); (case' k => (intro _ _ _ _ _; try dsimp only)))
  | (refine' q_setL (by assumption) ?h ?h1 ?h2 ?r1 ?s1 ?s2 ?k; (case' h => repeat' wtm_at "ev"); (case' h1 => repeat' wtm_at "ev"); (case' h2 => repeat' wtm_at "ev"); (case' r1 => exact rfl); (case' s1 => try wtm_at "ev"); (case' s2 => try wtm_at "ev"); (case' k => (intro _ _ _ _ _; try dsimp only)))
  | (refine' s_setLI (by assumption) ?h ?h1 ?h2 ?r1 ?s1 ?s2 ?k; (case' h => repeat' wtm_at "ev"); (case' h1 => repeat' wtm_at "ev"); (case' h2 => repeat' wtm_at "ev"); (case' r1 => exact rfl); (case' s1 => try wtm_at "ev"); (case' s2 => try wtm_at "ev"); (case' k => (intro _ _ _ _ _; try dsimp only)))
  | (refine' s_setL (by assumption) ?h ?h1 ?h2 ?r1 ?s1 ?s2 ?k; (case' h => repeat' wtm_at "ev"); (case' h1 => repeat' wtm_at "ev"); (case' h2 => repeat' wtm_at "ev"); (case' r1 => exact rfl); (case' s1 => try wtm_at "ev"); (case' s2 => try wtm_at "ev"); (case' k => (intro _ _ _ _ _; try dsimp only)))
  | (refine' q_appI (by assumption) ?h1 ?h ?r1 ?r2 ?s ?k; (case' h1 => repeat' wtm_at "ev"); (case' h => repeat' wtm_at "ev"); (case' r1 => exact rfl); (case' r2 => exact rfl); (case' s => try wtm_at "ev"); (case' k => (intro _ _ _ _ _; try dsimp only)))
  | (refine' q_app (by assumption) ?h1 ?h ?r1 ?r2 ?s ?k; (case' h1 => repeat' wtm_at "ev"); (case' h => repeat' wtm_at "ev"); (case' r1 => exact rfl); (case' r2 => exact rfl); (case' s => try wtm_at "ev"); (case' k => (intro _ _ _ _ _; try dsimp only)))
  | (refine' s_appI (by assumption) ?h1 ?h ?r1 ?r2 ?s ?k; (case' h1 => repeat' wtm_at "ev"); (case' h => repeat' wtm_at "ev"); (case' r1 => exact rfl); (case' r2 => exact rfl); (case' s => try wtm_at "ev"); (case' k => (intro _ _ _ _ _; try dsimp only)))
  | (refine' s_app (by assumption) ?h1 ?h ?r1 ?r2 ?s ?k; (case' h1 => repeat' wtm_at "ev"); (case' h => repeat' wtm_at "ev"); (case' r1 => exact rfl); (case' r2 => exact rfl); (case' s => try wtm_at "ev"); (case' k => (intro _ _ _ _ _; try dsimp only)))
  | (refine' q_dput (by assumption) ?h ?h1 ?h2 ?r1 ?r2 ?s ?k; (case' h => repeat' wtm_at "ev"); (case' h1 => repeat' wtm_at "ev"); (case' h2 => repeat' wtm_at "ev"); (case' r1 => exact rfl); (case' r2 => exact rfl); (case' s => try wtm_at "ev"); (case' k => (intro _ _ _ _ _; try dsimp only)))
  | (refine' s_dput (by assumption) ?h ?h1 ?h2 ?r1 ?r2 ?s ?k; (case' h => repeat' wtm_at "ev"); (case' h1 => repeat' wtm_at "ev"); (case' h2 => repeat' wtm_at "ev"); (case' r1 => exact rfl); (case' r2 => exact rfl); (case' s => try wtm_at "ev"); (case' k => (intro _ _ _ _ _; try dsimp only)))
  | (refine' q_tup2 (by assumption) ?h ?k; (case' h => repeat' wtm_at "ev"); (case' k => (intro _ _ _ _ _; try dsimp only)))
  | (refine' q_drop (by assumption) ?h ?k; (case' h => repeat' wtm_at "ev"); (case' k => (intro _ _ _ _ _; try dsimp only)))
  | (refine' q_if (by assumption) ?h ?k1 ?k2; (case' h => repeat' wtm_at "ev"))
  | (refine' s_if (by assumption) ?h ?k1 ?k2; (case' h => repeat' wtm_at "ev"))
  | (refine' s_ret (by assumption) ?h ?k; (case' h => repeat' wtm_at "ev"); (case' k => (intro _ _ _ _ _ _ _; try dsimp only)))
  | (refine' q_ret (by assumption) ?h ?k; (case' h => repeat' wtm_at "ev"); (case' k => (intro _ _ _ _ _ _ _; try dsimp only)))
  | ((with_reducible refine' s_next (by assumption) ?k); (case' k => (intro _ _ _ _ _; try dsimp only)))
  | (with_reducible refine q_next ?_))

/-! ### the greatest stretch of a level -/
def kdR (s : Int × Int) (i : Nat) : Int × Int := if s.1 < 0 then (0, (i : Int) + 1) else s
def kdW (cs : List Beat) (e : Int) : Nat → Int × Int
  | 0 => (0, 1)
  | i + 1 => ((kdR (kdW cs e i) i).1 + hit 0 (cs.getD i (0, 0)) e, (kdR (kdW cs e i) i).2)
def kdB (cs : List Beat) (e : Int) : Nat → T3
  | 0 => (0, 0, 0)
  | i + 1 => if (kdB cs e i).1 < (kdW cs e (i + 1)).1 then ((kdW cs e (i + 1)).1, (kdW cs e (i + 1)).2, (i : Int) + 1) else kdB cs e i
theorem kdW_succ {cs : List Beat} {e : Int} {i : Nat} : kdW cs e (i + 1) = ((kdR (kdW cs e i) i).1 + hit 0 (cs.getD i (0, 0)) e, (kdR (kdW cs e i) i).2) := rfl
theorem kdB_succ {cs : List Beat} {e : Int} {i : Nat} : kdB cs e (i + 1) = if (kdB cs e i).1 < (kdW cs e (i + 1)).1 then ((kdW cs e (i + 1)).1, (kdW cs e (i + 1)).2, (i : Int) + 1) else kdB cs e i := rfl
theorem opn_snoc {play : Int} {cs : List Beat} {e : Int} {a m : Nat} : opn play cs e a (m + 1) = opn play cs e a m + hit play (cs.getD (a + m) (0, 0)) e := by
  unfold opn arr
  rw [List.range_succ, List.map_append, List.sum_append]
  simp only [List.map_cons, List.map_nil, List.sum_cons, List.sum_nil]
  omega
theorem kdW_ok {cs : List Beat} {e : Int} : ∀ i : Nat, (X0 cs i e = if (kdW cs e i).1 < 0 then 0 else (kdW cs e i).1) ∧ 1 ≤ (kdW cs e i).2 ∧ (kdW cs e i).2 ≤ (i : Int) + 1 ∧ opn 0 cs e ((kdW cs e i).2 - 1).toNat ((i : Int) + 1 - (kdW cs e i).2).toNat = (kdW cs e i).1
  | 0 => ⟨rfl, Int.le_refl _, Int.le_refl _, rfl⟩
  | i + 1 => by
    obtain ⟨h1, h2, h3, h4⟩ := kdW_ok (cs := cs) (e := e) i
    rw [kdW_succ, X0_succ, h1]
    unfold kdR
    by_cases c : (kdW cs e i).1 < 0
    · rw [if_pos c, if_pos c]
      dsimp only
      refine ⟨by split <;> split <;> omega, by omega, by omega, ?_⟩
      rw [show ((i + 1 : Nat) : Int) + 1 - ((i : Int) + 1) = ((0 + 1 : Nat) : Int) by omega, Int.toNat_natCast, opn_snoc, show (((i : Int) + 1 - 1).toNat + 0) = i by omega]
      rfl
    · rw [if_neg c, if_neg c]
      dsimp only
      refine ⟨by split <;> split <;> omega, h2, by omega, ?_⟩
      rw [show ((i + 1 : Nat) : Int) + 1 - (kdW cs e i).2 = ((((i : Int) + 1 - (kdW cs e i).2).toNat + 1 : Nat) : Int) by omega, Int.toNat_natCast, opn_snoc, h4, show ((kdW cs e i).2 - 1).toNat + ((i : Int) + 1 - (kdW cs e i).2).toNat = i by omega]
theorem kdB_ok {cs : List Beat} {e : Int} : ∀ i : Nat, (kdB cs e i).1 = PK cs i e ∧ ((kdB cs e i).1 = 0 ∨ ((1 ≤ (kdB cs e i).2.1 ∧ (kdB cs e i).2.1 ≤ (kdB cs e i).2.2 ∧ (kdB cs e i).2.2 ≤ (i : Int)) ∧ wsum 0 cs (e, (kdB cs e i).2) = (kdB cs e i).1))
  | 0 => ⟨rfl, .inl rfl⟩
  | i + 1 => by
    obtain ⟨h1, h2⟩ := kdB_ok (cs := cs) (e := e) i
    obtain ⟨w1, w2, w3, w4⟩ := kdW_ok (cs := cs) (e := e) (i + 1)
    have pn := PK_nn (cs := cs) (e := e) i
    rw [kdB_succ, PK_succ, w1, ← h1]
    rw [← h1] at pn
    by_cases c : (kdB cs e i).1 < (kdW cs e (i + 1)).1
    · have w3' : (kdW cs e (i + 1)).2 ≤ (i : Int) + 1 := by
        rw [kdW_succ]
        have := kdW_ok (cs := cs) (e := e) i
        unfold kdR
        split
        · exact Int.le_refl _
        · exact this.2.2.1
      rw [if_pos c]
      refine ⟨?_, .inr ⟨⟨w2, w3', by show (i : Int) + 1 ≤ _; omega⟩, ?_⟩⟩
      · have d : ¬ (kdW cs e (i + 1)).1 < 0 := by omega
        rw [if_neg d, if_pos c]
      · unfold wsum
        dsimp only
        rw [show (i : Int) + 1 - (kdW cs e (i + 1)).2 + 1 = ((i + 1 : Nat) : Int) + 1 - (kdW cs e (i + 1)).2 by omega]
        exact w4
    · rw [if_neg c]
      refine ⟨?_, ?_⟩
      · by_cases d : (kdW cs e (i + 1)).1 < 0
        · rw [if_pos d, if_neg (by omega)]
        · rw [if_neg d, if_neg c]
      · rcases h2 with h2 | ⟨⟨a1, a2, a3⟩, a4⟩
        · exact .inl h2
        · exact .inr ⟨⟨a1, a2, by omega⟩, a4⟩
def ag (t : Int) (c : Beat) : List Int := arr t.toNat fun k => hit 0 c ((k : Int) + 1) + 1
theorem hit_add {c : Beat} {e : Int} : (if c.1 < e then (1 : Int) else 0) + (if e ≤ c.2 then 1 else 0) = hit 0 c e + 1 := by
  unfold hit
  rw [Int.add_zero]
  omega
def ph_against : List MC → List Rv → List MC → Out → Prop := fun M rs M' o => ∃ t c, M = [] ∧ rs = [rint t, rint c.1, rint c.2] ∧ (1 ≤ t ∧ t ≤ 60) ∧ M' = [] ∧ o = .ret (.lst ((ag t c).map D.int))
abbrev sp_against (K : PySem.W.Frag) : Sp := FSp K ph_against
theorem ok_against {P : Program} {w : World} {K : PySem.W.Frag} {mg : Str → Option Value} {base : Heap} {ad : Ad} {fd : Fd} (T : Txt K mg w ad fd) : FnOk P w K mg base CX0 1 ad.a_against fd.d_against ["top", "bore", "pin"] (sp_against K) := by
  refine L2.Fun.ok (k := 0) T.F_against sc_against (fun vs H Q E h => ?_) (fun cdv A outer s H vs Q E hr h => ?_)
  · exact h.len fun M rs M' o ⟨_, _, _, e, _⟩ => by rw [e]; rfl
  · refine ⟨_, (pss_one (ps_ret (pe_lc rfl sc_against.nd (pi_range2 (by rfl) T.n_range (pa_cons (pe_int) (pa_cons (pe_op op_add (pv 0) (pe_int)) pa_nil))) (blkOk_by (own := [("level", 3)]) (N := N_against) (sc := defScope s_against) (by decide +kernel)) (fun _ _ _ _ _ => (pg_name (i := 3) sc_against.nd rfl (by first | exact Or.inl rfl | exact Or.inr rfl))) (fun _ _ _ _ _ => pts_nil) (fun _ _ _ _ _ => (pe_op op_add (pe_callTy call_int1 (by rfl) T.n_int (by decide +kernel) (pa_cons (pe_cmpR op_lt (pv 1) (pv 3) (nomark _)) pa_nil)) (pe_callTy call_int1 (by rfl) T.n_int (by decide +kernel) (pa_cons (pe_cmpR op_ge (pv 2) (pv 3) (nomark _)) pa_nil))))))), ?_⟩
    try dsimp only [cxOf, Cx.nox, Cx.wish, List.map]
    refine h.reading fun F As M rs M' o hΦ hL B S hB hA post => ?_
    obtain ⟨t, c, rfl, rfl, ⟨h1, h2⟩, rfl, rfl⟩ := hΦ
    dsimp only at post
    refine s_ret S (r := rints (ag t c)) (M' := []) (ev_is (ev_lcR2AI (a := 1) (n := t + 1) (fun k => hit 0 c ((k : Int) + 1) + 1) (ea_cons ev_int (ea_cons (ev_op (ev_var (r := rint t) rfl) ev_int od_int) ea_nil)) ⟨by omega, by omega, by omega, by omega⟩ fun k hk => ?_) ?_) ?_
    · rw [show (1 : Int) + (k : Int) = (k : Int) + 1 by omega, ← hit_add]
      refine' ev_is ?h ?e
      case' h => repeat' wtm_at "ev"
      case e => simp only [decide_eq_true_eq]
    · rw [show (t + 1 - 1).toNat = t.toNat by omega]; rfl
    · intro v F As σ H S rv
      exact post _ _ _ _ _ _ _ S rfl rv
def ph_ccrs : List MC → List Rv → List MC → Out → Prop := fun M rs M' o => ∃ t cs, M = [] ∧ rs = [rint t, .dat (pairsD cs)] ∧ Crs t cs ∧ M' = [] ∧ o = .ret .non
abbrev sp_check_course (K : PySem.W.Frag) : Sp := FSp K ph_ccrs
theorem ok_check_course {P : Program} {w : World} {K : PySem.W.Frag} {mg : Str → Option Value} {base : Heap} {ad : Ad} {fd : Fd} (T : Txt K mg w ad fd) : FnOk P w K mg base CX0 4 ad.a_check_course fd.d_check_course ["top", "course"] (sp_check_course K) := by
  have G_check_beat := ok_check_beat (P := P) (base := base) T
  have b_check_beat := T.F_check_beat.binds (ps := ["top", "bore", "pin", "number"]) fun _ _ _ _ _ _ us hl => match us, hl with | [_, _, _, _], _ => rfl
  refine L2.Fun.ok (k := 3) T.F_check_course sc_check_course (fun vs H Q E h => ?_) (fun cdv A outer s H vs Q E hr h => ?_)
  · exact h.len fun M rs M' o ⟨_, _, _, e, _⟩ => by rw [e]; rfl
  · refine ⟨_, (pss_one (ps_for PassesOwn.never rfl (pi_enumK (K := K) rfl (by rfl) T.n_enumerate (pa_cons (pv 1) pa_nil)) (pg_tupK (K := K) rfl rfl (pgs_cons (pg_name (i := 2) sc_check_course.nd rfl (by first | exact Or.inl rfl | exact Or.inr rfl)) (pgs_cons (pg_tupK (K := K) rfl rfl (pgs_cons (pg_name (i := 3) sc_check_course.nd rfl (by first | exact Or.inl rfl | exact Or.inr rfl)) (pgs_cons (pg_name (i := 4) sc_check_course.nd rfl (by first | exact Or.inl rfl | exact Or.inr rfl)) pgs_nil))) pgs_nil)))
  (pss_one (ps_expr (pe_call G_check_beat (hr.mono (by first | decide | omega)) rfl T.g_check_beat T.F_check_beat.kp b_check_beat .nil passN (pa_cons (pv 0) (pa_cons (pv 3) (pa_cons (pv 4) (pa_cons (pe_op op_add (pv 2) (pe_int)) pa_nil))))))))), ?_⟩
    try dsimp only [cxOf, Cx.nox, Cx.wish, List.map]
    refine h.reading fun F As M rs M' o hΦ hL B S hB hA post => ?_
    obtain ⟨t, cs, rfl, rfl, hc, rfl, rfl⟩ := hΦ
    refine' s_forE2 S (ea_cons (ev_var (r := .dat (pairsD cs)) rfl) ea_nil) (fun i M E => M = [] ∧ ∃ x y z, E = [some (rint t), some (.dat (pairsD cs)), x, y, z]) ⟨rfl, _, _, _, rfl⟩ ?hb ?hd
    case hd =>
      rintro M E ⟨rfl, x, y, z, rfl⟩ F As σ H S
      exact post _ _ _ _ _ _ _ S rfl .non
    case hb =>
      rintro B2 cv n c M E hn ⟨rfl, x, y, z, rfl⟩ F As σ H S
      have hc := hc c (List.mem_of_getElem? hn)
      try simp only [List.set_cons_zero, List.set_cons_succ] at S
      refine s_drop S (M' := []) (ev_call0 (ea_cons (ev_var (r := rint t) rfl) (ea_cons (ev_var (r := rint c.1) rfl) (ea_cons (ev_var (r := rint c.2) rfl) (ea_cons (ev_op (ev_var (r := rint (n : Int)) rfl) ev_int od_int) ea_nil)))) (by intro z; cases z) ⟨_, _, _, rfl, rfl, hc, rfl, rfl⟩) ?_
      intro F As σ H S
      exact s_end S ⟨rfl, _, _, _, rfl⟩ (Ele.refl _)
def ph_cct : List MC → List Rv → List MC → Out → Prop := fun M rs M' o => ∃ t, M = [] ∧ rs = [rint t] ∧ (1 ≤ t ∧ t ≤ 12) ∧ M' = [] ∧ o = .ret .non
abbrev sp_check_course_top (K : PySem.W.Frag) : Sp := FSp K ph_cct
theorem ok_check_course_top {P : Program} {w : World} {K : PySem.W.Frag} {mg : Str → Option Value} {base : Heap} {ad : Ad} {fd : Fd} (T : Txt K mg w ad fd) : FnOk P w K mg base CX0 4 ad.a_check_course_top fd.d_check_course_top ["top"] (sp_check_course_top K) := by
  have G_check_top := ok_check_top (P := P) (base := base) T
  have b_check_top := T.F_check_top.binds (ps := ["top"]) fun _ _ _ _ _ _ us hl => match us, hl with | [_], _ => rfl
  have G_check_within := ok_check_within (P := P) (base := base) T
  have b_check_within := T.F_check_within.binds (ps := ["what", "number", "bound"]) fun _ _ _ _ _ _ us hl => match us, hl with | [_, _, _], _ => rfl
  refine L2.Fun.ok (k := 3) T.F_check_course_top sc_check_course_top (fun vs H Q E h => ?_) (fun cdv A outer s H vs Q E hr h => ?_)
  · exact h.len fun M rs M' o ⟨_, _, e, _⟩ => by rw [e]; rfl
  · refine ⟨_, (pss_cons (ps_expr (pe_call G_check_within (hr.mono (by first | decide | omega)) rfl T.g_check_within T.F_check_within.kp b_check_within .nil passN (pa_cons (pe_str) (pa_cons (pv 0) (pa_cons (pe_glob (v := .int 12) rfl T.g_COURSE_TOP.choose_spec ⟨_, rfl⟩) pa_nil)))))
  (pss_one (ps_expr (pe_call G_check_top (hr.mono (by first | decide | omega)) rfl T.g_check_top T.F_check_top.kp b_check_top .nil passN (pa_cons (pv 0) pa_nil))))), ?_⟩
    try dsimp only [cxOf, Cx.nox, Cx.wish, List.map]
    refine h.reading fun F As M rs M' o hΦ hL B S hB hA post => ?_
    obtain ⟨t, rfl, rfl, ⟨h1, h2⟩, rfl, rfl⟩ := hΦ
    refine q_drop S (M' := []) (ev_call0 (ea_cons ev_str (ea_cons (ev_var (r := rint t) rfl) (ea_cons ev_int ea_nil))) (by intro z; cases z) ⟨_, _, _, rfl, rfl, h2, rfl, rfl⟩) ?_
    intro F As σ H S
    refine s_drop S (M' := []) (ev_call0 (ea_cons (ev_var (r := rint t) rfl) ea_nil) (by intro z; cases z) ⟨_, rfl, rfl, h1, rfl, rfl⟩) ?_
    intro F As σ H S
    exact post _ _ _ _ _ _ _ S rfl .non
def ph_grs (ad : Ad) : List MC → List Rv → List MC → Out → Prop := fun M rs M' o => ∃ t cs e, M = [] ∧ rs = [rint t, .dat (pairsD cs), rint e] ∧ (1 ≤ t ∧ t ≤ 12) ∧ cs.length ≤ 400 ∧ Crs t cs ∧ (1 ≤ e ∧ e ≤ t) ∧ M' = [] ∧ o = .ret (t3D (kdB cs e cs.length))
abbrev sp_greatest_stretch (K : PySem.W.Frag) (ad : Ad) : Sp := FSp K (ph_grs ad)
theorem ok_greatest_stretch {P : Program} {w : World} {K : PySem.W.Frag} {mg : Str → Option Value} {base : Heap} {ad : Ad} {fd : Fd} (T : Txt K mg w ad fd) : FnOk P w K mg base (L2N.CX P w) 6 ad.a_greatest_stretch fd.d_greatest_stretch ["top", "course", "level"] (sp_greatest_stretch K ad) := by
  have G_BadSize___init__ := ok_BadSize___init__ (P := P) (base := base) T
  have b_BadSize___init__ := T.F_BadSize___init__.binds (ps := ["self", "what", "place"]) fun _ _ _ _ _ _ us hl => match us, hl with | [_, _, _], _ => rfl
  have G_check := ok_check (P := P) (base := base) T
  have b_check := T.F_check.binds (ps := ["what", "number"]) fun _ _ _ _ _ _ us hl => match us, hl with | [_, _], _ => rfl
  have G_check_course := ok_check_course (P := P) (base := base) T
  have b_check_course := T.F_check_course.binds (ps := ["top", "course"]) fun _ _ _ _ _ _ us hl => match us, hl with | [_, _], _ => rfl
  have G_check_top := ok_check_top (P := P) (base := base) T
  have b_check_top := T.F_check_top.binds (ps := ["top"]) fun _ _ _ _ _ _ us hl => match us, hl with | [_], _ => rfl
  have G_check_within := ok_check_within (P := P) (base := base) T
  have b_check_within := T.F_check_within.binds (ps := ["what", "number", "bound"]) fun _ _ _ _ _ _ us hl => match us, hl with | [_, _, _], _ => rfl
  refine DL.Fun.okN (k := 5) T.F_greatest_stretch sc_greatest_stretch (fun vs H Q E h => ?_) (fun cdv A outer s H vs Q E hr h => ?_)
  · exact h.len fun M rs M' o ⟨_, _, _, _, e, _⟩ => by rw [e]; rfl
  · have hu := hu_of hr
    refine ⟨_, (pss_cons (ps_expr (pe_call G_check_within (hr.mono (by first | decide | omega)) rfl T.g_check_within T.F_check_within.kp b_check_within .nil (L2N.passes_call (L2N.takes_of rfl rfl rfl rfl) (fun _ _ _ _ h => h)) (pa_cons (pe_str) (pa_cons (pv 0) (pa_cons (pe_glob (v := .int 12) rfl T.g_COURSE_TOP.choose_spec ⟨_, rfl⟩) pa_nil)))))
  (pss_cons (ps_expr (pe_call G_check (hr.mono (by first | decide | omega)) rfl T.g_check T.F_check.kp b_check .nil (L2N.passes_call (L2N.takes_of rfl rfl rfl rfl) (fun _ _ _ _ h => h)) (pa_cons (pe_str) (pa_cons (pe_callB (call_lenK (K := K) rfl) (by rfl) T.n_len (by decide +kernel) (pa_cons (pv 1) pa_nil)) pa_nil))))
  (pss_cons (ps_expr (pe_call G_check_top (hr.mono (by first | decide | omega)) rfl T.g_check_top T.F_check_top.kp b_check_top .nil (L2N.passes_call (L2N.takes_of rfl rfl rfl rfl) (fun _ _ _ _ h => h)) (pa_cons (pv 0) pa_nil)))
  (pss_cons (ps_expr (pe_call G_check_course (hr.mono (by first | decide | omega)) rfl T.g_check_course T.F_check_course.kp b_check_course .nil pass0 (pa_cons (pv 0) (pa_cons (pv 1) pa_nil))))
  (pss_cons (ps_if (pt_not (pt_chain op_le op_le (pe_int) (pv 2) (pv 0))) (pss_one (L2N.ps_raise rfl (L2N.takes_of rfl rfl rfl rfl) (pmk_ini T.oe_BadSize T.m_BadSize___init__.at_ (beq_iff_eq.mp T.m_BadSize___init__.fn) G_BadSize___init__ (hr.mono (by first | decide | omega)) b_BadSize___init__ rfl T.g_BadSize (pa_cons (pe_str) (pa_cons (pe_int) pa_nil))))) pss_nil)
  (pss_cons (ps_set (i := 3) sc_greatest_stretch.nd rfl (by first | exact Or.inl rfl | exact Or.inr rfl) (pe_tup (pa_cons (pe_int) (pa_cons (pe_int) (pa_cons (pe_int) pa_nil)))))
  (pss_cons (ps_set (i := 4) sc_greatest_stretch.nd rfl (by first | exact Or.inl rfl | exact Or.inr rfl) (pe_int))
  (pss_cons (ps_set (i := 5) sc_greatest_stretch.nd rfl (by first | exact Or.inl rfl | exact Or.inr rfl) (pe_int))
  (pss_cons (ps_for (passes_of rfl) rfl (pi_enumK (K := K) rfl (by rfl) T.n_enumerate (pa_cons (pv 1) pa_nil)) (pg_tupK (K := K) rfl rfl (pgs_cons (pg_name (i := 6) sc_greatest_stretch.nd rfl (by first | exact Or.inl rfl | exact Or.inr rfl)) (pgs_cons (pg_tupK (K := K) rfl rfl (pgs_cons (pg_name (i := 7) sc_greatest_stretch.nd rfl (by first | exact Or.inl rfl | exact Or.inr rfl)) (pgs_cons (pg_name (i := 8) sc_greatest_stretch.nd rfl (by first | exact Or.inl rfl | exact Or.inr rfl)) pgs_nil))) pgs_nil)))
  (pss_cons (ps_if (pt_cmpR op_lt (pv 4) (pe_int) (nomark _)) (pss_cons (ps_set (i := 4) sc_greatest_stretch.nd rfl (by first | exact Or.inl rfl | exact Or.inr rfl) (pe_int))
  (pss_one (ps_set (i := 5) sc_greatest_stretch.nd rfl (by first | exact Or.inl rfl | exact Or.inr rfl) (pe_op op_add (pv 6) (pe_int))))) pss_nil)
  (pss_cons (ps_aug (i := 4) sc_greatest_stretch.nd rfl (by first | exact Or.inl rfl | exact Or.inr rfl) (pe_op op_sub (pe_op op_add (pe_callTy call_int1 (by rfl) T.n_int (by decide +kernel) (pa_cons (pe_cmpR op_lt (pv 7) (pv 2) (nomark _)) pa_nil)) (pe_callTy call_int1 (by rfl) T.n_int (by decide +kernel) (pa_cons (pe_cmpR op_ge (pv 8) (pv 2) (nomark _)) pa_nil))) (pe_int)) ip_add)
  (pss_one (ps_if (pt_cmpR op_gt (pv 4) (pe_ix (ix_tupK (K := K) rfl) (pv 3) (pe_int) (fun _ _ => rfl)) (nomark _)) (pss_one (ps_set (i := 3) sc_greatest_stretch.nd rfl (by first | exact Or.inl rfl | exact Or.inr rfl) (pe_tup (pa_cons (pv 4) (pa_cons (pv 5) (pa_cons (pe_op op_add (pv 6) (pe_int)) pa_nil)))))) pss_nil)))))
  (pss_one (ps_ret (pv 3)))))))))))), ?_⟩
    try dsimp only [cxOf, Cx.nox, Cx.wish, List.map]
    refine h.reading fun F As M rs M' o hΦ hL B S hB hA post => ?_
    obtain ⟨t, cs, e, rfl, rfl, ⟨h1, h2⟩, h3, hc, ⟨e1, e2⟩, rfl, rfl⟩ := hΦ
    dsimp only at post
    refine q_drop S (M' := []) (ev_call0 (ea_cons ev_str (ea_cons (ev_var (r := rint t) rfl) (ea_cons ev_int ea_nil))) (by intro z; cases z) ⟨_, _, _, rfl, rfl, h2, rfl, rfl⟩) ?_
    intro F As σ H S
    refine q_drop S (M' := []) (ev_call0 (ea_cons ev_str (ea_cons (ev_cb (ea_cons (ev_var (r := .dat (pairsD cs)) rfl) ea_nil) (cd_len (.inl rfl))) ea_nil)) (by intro z; cases z) ⟨"beats", 400, _, rfl, rfl, .inr (.inl ⟨rfl, rfl⟩), by rw [List.length_map]; omega, rfl, rfl⟩) ?_
    intro F As σ H S
    refine q_drop S (M' := []) (ev_call0 (ea_cons (ev_var (r := rint t) rfl) ea_nil) (by intro z; cases z) ⟨_, rfl, rfl, h1, rfl, rfl⟩) ?_
    intro F As σ H S
    refine q_drop S (M' := []) (ev_call0 (ea_cons (ev_var (r := rint t) rfl) (ea_cons (ev_var (r := .dat (pairsD cs)) rfl) ea_nil)) (by intro z; cases z) ⟨_, _, rfl, rfl, hc, rfl, rfl⟩) ?_
    intro F As σ H S
    refine q_if S (b := false) (et_not (b := true) (et_test (ev_is (ev_chain3 ev_int (ev_var (r := rint e) rfl) od_bool (fun _ => ev_var (r := rint t) rfl) (fun _ => od_bool)) (by rw [decide_eq_true e1, decide_eq_true e2]; rfl)))) (fun hc => by cases hc) ?_
    intro _ F As σ H S
    refine s_next S ?_
    intro F As σ H S
    refine q_set S (r := .dat (t3D (0, 0, 0))) (M' := []) (ev_tup (ea_cons ev_int (ea_cons ev_int (ea_cons ev_int ea_nil))) rfl (Nat.le_of_ble_eq_true rfl)) ?_
    intro F As σ H S
    refine q_set S (r := rint 0) ev_int ?_
    intro F As σ H S
    refine q_set S (r := rint 1) ev_int ?_
    intro F As σ H S
    refine' q_forE2 S (ea_cons (ev_var (r := .dat (pairsD cs)) rfl) ea_nil) (fun i M E => M = [] ∧ ∃ x6 x7 x8, E = [some (rint t), some (.dat (pairsD cs)), some (rint e), some (.dat (t3D (kdB cs e i))), some (rint (kdW cs e i).1), some (rint (kdW cs e i).2), x6, x7, x8]) ⟨rfl, _, _, _, rfl⟩ ?hb ?hd
    case hd =>
      rintro M E ⟨rfl, x6, x7, x8, rfl⟩ F As σ H S
      refine s_ret S (ev_var rfl) ?_
      intro v F As σ H S r
      exact post _ _ _ _ _ _ _ S rfl r
    case hb =>
      rintro B2 cv i c M E hn ⟨rfl, x6, x7, x8, rfl⟩ F As σ H S
      try simp only [List.set_cons_zero, List.set_cons_succ] at S
      refine' q_ifE [] [some (rint t), some (.dat (pairsD cs)), some (rint e), some (.dat (t3D (kdB cs e i))), some (rint (kdR (kdW cs e i) i).1), some (rint (kdR (kdW cs e i) i).2), some (rint (i : Int)), some (rint c.1), some (rint c.2)] S (b := decide ((kdW cs e i).1 < 0)) (et_test (ev_op (ev_var (r := rint (kdW cs e i).1) rfl) ev_int od_bool)) ?k1 ?k2 ?k3
      case k1 =>
        intro hb De kk F As σ H S
        have hb := of_decide_eq_true hb
        rw [show kdR (kdW cs e i) i = (0, (i : Int) + 1) from if_pos hb] at kk
        refine q_set S (r := rint 0) ev_int ?_
        intro F As σ H S
        refine s_set S (ev_op (ev_var (r := rint (i : Int)) rfl) ev_int od_int) ?_
        intro F As σ H S
        exact kk _ _ _ _ S
      case k2 =>
        intro hb De kk F As σ H S
        have hb := of_decide_eq_false hb
        rw [show kdR (kdW cs e i) i = kdW cs e i from if_neg hb] at kk
        refine s_next S ?_
        intro F As σ H S
        exact kk _ _ _ _ S
      case k3 =>
      intro F As σ H S
      refine q_aug S (M' := []) (a := (kdR (kdW cs e i) i).1) (c := hit 0 c e) rfl ?_ ?_
      · rw [show hit 0 c e = (hit 0 c e + 1) - 1 by omega, ← hit_add]
        refine' ev_is ?h ?e
        case' h => repeat' wtm_at "ev"
        case e => simp only [decide_eq_true_eq]
      intro F As σ H S
      try simp only [List.set_cons_zero, List.set_cons_succ] at S
      have ew : kdW cs e (i + 1) = ((kdR (kdW cs e i) i).1 + hit 0 c e, (kdR (kdW cs e i) i).2) := by rw [kdW_succ, getD_bt hn]
      have ew1 : (kdR (kdW cs e i) i).1 + hit 0 c e = (kdW cs e (i + 1)).1 := by rw [ew]
      have ew2 : (kdR (kdW cs e i) i).2 = (kdW cs e (i + 1)).2 := by rw [ew]
      rw [ew1, ew2] at S
      refine s_if S (b := decide ((kdB cs e i).1 < (kdW cs e (i + 1)).1)) (et_test (ev_op (ev_var (r := rint (kdW cs e (i + 1)).1) rfl) (ev_op (ev_var (r := .dat (t3D (kdB cs e i))) rfl) ev_int (od_ixT rfl)) od_bool)) ?_ ?_
      · intro hb F As σ H S
        have hb := of_decide_eq_true hb
        refine s_set S (r := .dat (t3D ((kdW cs e (i + 1)).1, (kdW cs e (i + 1)).2, (i : Int) + 1))) (M' := []) (ev_tup (ea_cons (ev_var (r := rint (kdW cs e (i + 1)).1) rfl) (ea_cons (ev_var (r := rint (kdW cs e (i + 1)).2) rfl) (ea_cons (ev_op (ev_var (r := rint (i : Int)) rfl) ev_int od_int) ea_nil))) rfl (Nat.le_of_ble_eq_true rfl)) ?_
        intro F As σ H S
        refine s_end S ⟨rfl, some (rint (i : Int)), some (rint c.1), some (rint c.2), ?_⟩ (Ele.refl _)
        rw [kdB_succ, if_pos hb]; rfl
      · intro hb F As σ H S
        have hb := of_decide_eq_false hb
        refine s_next S ?_
        intro F As σ H S
        refine s_end S ⟨rfl, some (rint (i : Int)), some (rint c.1), some (rint c.2), ?_⟩ (Ele.refl _)
        rw [kdB_succ, if_neg hb]
end K78
set_option Elab.async false
set_option linter.all false
set_option maxRecDepth 100000
set_option maxHeartbeats 4000000
namespace K78
open PySem L2 DL
/-! ### the steps: one rule an expression, by its reading's head -/
local macro_rules | `(tactic| wtm_at "ev") => `(tactic| first
  | exact ev_var rfl
  | exact ev_int
  | exact ev_non
  | exact ev_bl
  | exact ev_str
  | exact ea_nil
  | with_reducible apply ea_cons
  | ((with_reducible refine' ev_isi ?a ?b ?c); (case' a => repeat' wtm_at "ev"); (case' b => exact rfl); (case' c => exact rfl))
  | with_reducible apply ev_cb
  | with_reducible apply ev_op
  | with_reducible apply ev_un
  | with_reducible apply et_test
  | with_reducible apply et_B
  | with_reducible apply et_not
  | with_reducible apply ev_isN
  | with_reducible apply ev_notN
  | with_reducible apply ev_notV
  | with_reducible apply et_and
  | with_reducible apply et_or
  | with_reducible apply ev_andV
  | with_reducible apply ev_orV
  | with_reducible apply ev_ifI
  | with_reducible apply ev_ifD
  | ((with_reducible refine' ev_dnotin ?a ?b ?c ?d); (case' a => repeat' wtm_at "ev"); (case' b => repeat' wtm_at "ev"); (case' c => exact rfl); (case' d => first | exact .inl rfl | exact .inr ⟨_, rfl, rfl⟩))
  | ((with_reducible refine' ev_din ?a ?b ?c ?d); (case' a => repeat' wtm_at "ev"); (case' b => repeat' wtm_at "ev"); (case' c => exact rfl); (case' d => first | exact .inl rfl | exact .inr ⟨_, rfl, rfl⟩))
  | with_reducible apply ev_lcLAI
  | with_reducible apply ev_lcLII
  | with_reducible apply ev_lcLA
  | with_reducible apply ev_lcLI
  | with_reducible apply ev_lcRAI
  | with_reducible apply ev_lcRI
  | with_reducible apply ev_lcRA
  | with_reducible apply ev_lcR
  | exact et_yes
  | with_reducible intro _
  | exact od_int
  | exact od_bool
  | exact od_eqI
  | exact od_neI
  | exact od_eqS
  | exact od_neS
  | exact ud_neg
  | exact cd_abs
  | exact cd_max2
  | exact cd_min2
  | exact cd_int
  | exact cd_intB
  | exact cd_lenScr
  | exact cd_lenT
  | exact cd_lenI (.inl rfl)
  | exact cd_lenI (.inr ⟨_, rfl, rfl⟩)
  | exact cd_len (.inl rfl)
  | exact cd_len (.inr ⟨_, rfl, rfl⟩)
  | exact cd_lenD (.inl rfl)
  | exact cd_lenD (.inr ⟨_, rfl, rfl⟩)
  | exact cd_sum (.inl rfl)
  | exact cd_sorted (.inl rfl)
  | exact cd_list (.inl rfl)
  | exact cd_listT
  | exact eo_none
  | with_reducible apply eo_some
  | with_reducible apply ev_sliceScr
  | refine' ev_sliceI ?_ ?_ ?_ (.inl rfl)
  | with_reducible apply od_intC
  | with_reducible apply od_ixScr
  | refine' od_ixI (.inl rfl) ?_ ?_
  | refine' od_ixI (.inr ⟨_, rfl, rfl⟩) ?_ ?_
  | exact od_ixT rfl
  | exact od_inI (.inl rfl)
  | exact od_notinI (.inl rfl)
  | refine' od_cat (.inl rfl) (.inl rfl) ?_
  | ((with_reducible refine' ev_tup ?h ?r ?l); (case' h => repeat' wtm_at "ev"); (case' r => exact rfl); (case' l => exact Nat.le_of_ble_eq_true rfl))
  | (refine (show CMul _ _ from .inl ⟨?_, ?_⟩) <;> decide)
  | (refine (show CMul _ _ from .inr ⟨?_, ?_⟩) <;> decide)
  | (refine (show (_ : Prop) from ?_); assumption)
  | (refine (show CDiv _ _ from ⟨?_, ?_⟩) <;> omega)
  | (refine (show CPow _ _ from ⟨?_, ?_, ?_⟩) <;> decide)
  | omega
  | (simp only [Pz.len]; done)
  | (simp only [Pz.len, List.length_map, List.length_append, List.length_range, List.length_set, List.length_reverse]; omega))
/-! a statement's step: its values are reckoned, what is left is the way on -/
local macro_rules | `(tactic| wtm_at "st") => `(tactic| first
  | (refine' q_set (by assumption) ?h ?k; (case' h => repeat' wtm_at "ev"); (case' k => (intro _ _ _ _ _; try dsimp only)))
  | (refine' s_set (by assumption) ?h ?k; (case' h => repeat' wtm_at "ev"); (case' k => (intro _ _ _ _ _; try dsimp only)))
  | (refine' q_augS (by assumption) ?h1 ?h2 ?h3 ?r1 ?r2 ?s1 ?s2 ?k; (case' h1 => repeat' wtm_at "ev"); (case' h2 => repeat' wtm_at "ev"); (case' h3 => repeat' wtm_at "ev"); (case' r1 => exact rfl); (case' r2 => exact rfl); (case' s1 => try wtm_at "ev"); (case' s2 => try wtm_at "ev"); (case' k => (intro _ _ _ _ _; try dsimp only)))
  | (refine' s_augS (by assumption) ?h1 ?h2 ?h3 ?r1 ?r2 ?s1 ?s2 ?k; (case' h1 => repeat' wtm_at "ev"); (case' h2 => repeat' wtm_at "ev"); (case' h3 => repeat' wtm_at "ev"); (case' r1 => exact rfl); (case' r2 => exact rfl); (case' s1 => try wtm_at "ev"); (case' s2 => try wtm_at "ev"); (case' k => (intro _ _ _ _ _; try dsimp only)))
  | (refine' q_setLI (by assumption) ?h ?h1 ?h2 ?r1 ?s1 ?s2 ?k; (case' h => repeat' wtm_at "ev"); (case' h1 => repeat' wtm_at "ev"); (case' h2 => repeat' wtm_at "ev"); (case' r1 => exact rfl); (case' s1 => try wtm_at "ev"); (case' s2 => try wtm_at "ev"); (case' k => (intro _ _ _ _ _; try dsimp only)))
  | (refine' q_setL (by assumption) ?h ?h1 ?h2 ?r1 ?s1 ?s2 ?k; (case' h => repeat' wtm_at "ev"); (case' h1 => repeat' wtm_at "ev"); (case' h2 => repeat' wtm_at "ev"); (case' r1 => exact rfl); (case' s1 => try wtm_at "ev"); (case' s2 => try wtm_at "ev"); (case' k => (intro _ _ _ _ _; try dsimp only)))
  | (refine' s_setLI (by assumption) ?h ?h1 ?h2 ?r1 ?s1 ?s2 ?k; (case' h => repeat' wtm_at "ev"); (case' h1 => repeat' wtm_at "ev"); (case' h2 => repeat' wtm_at "ev"); (case' r1 => exact rfl); (case' s1 => try wtm_at "ev"); (case' s2 => try wtm_at "ev"); (case' k => (intro _ _ _ _ _; try dsimp only)))
  | (refine' s_setL (by assumption) ?h ?h1 ?h2 ?r1 ?s1 ?s2 ?k; (case' h => repeat' wtm_at "ev"); (case' h1 => repeat' wtm_at "ev"); (case' h2 => repeat' wtm_at "ev"); (case' r1 => exact rfl); (case' s1 => try wtm_at "ev"); (case' s2 => try wtm_at "ev"); (case' k => (intro _ _ _ _ _; try dsimp only)))
  | (refine' q_appI (by assumption) ?h1 ?h ?r1 ?r2 ?s ?k; (case' h1 => repeat' wtm_at "ev"); (case' h => repeat' wtm_at "ev"); (case' r1 => exact rfl); (case' r2 => exact rfl); (case' s => try wtm_at "ev"); (case' k => (intro _ _ _ _ _; try dsimp only)))
  | (refine' q_app (by assumption) ?h1 ?h ?r1 ?r2 ?s ?k; (case' h1 => repeat' wtm_at "ev"); (case' h => repeat' wtm_at "ev"); (case' r1 => exact rfl); (case' r2 => exact rfl); (case' s => try wtm_at "ev"); (case' k => (intro _ _ _ _ _; try dsimp only)))
  | (refine' s_appI (by assumption) ?h1 ?h ?r1 ?r2 ?s ?k; (case' h1 => repeat' wtm_at "ev"); (case' h => repeat' wtm_at "ev"); (case' r1 => exact rfl); (case' r2 => exact rfl); (case' s => try wtm_at "ev"); (case' k => (intro _ _ _ _ _; try dsimp only)))
  | (refine' s_app (by assumption) ?h1 ?h ?r1 ?r2 ?s ?k; (case' h1 => repeat' wtm_at "ev"); (case' h => repeat' wtm_at "ev"); (case' r1 => exact rfl); (case' r2 => exact rfl); (case' s => try wtm_at "ev"); (case' k => (intro _ _ _ _ _; try dsimp only)))
  | (refine' q_dput (by assumption) ?h ?h1 ?h2 ?r1 ?r2 ?s ?k; (case' h => repeat' wtm_at "ev"); (case' h1 => repeat' wtm_at "ev"); (case' h2 => repeat' wtm_at "ev"); (case' r1 => exact rfl); (case' r2 => exact rfl); (case' s => try wtm_at "ev"); (case' k => (intro _ _ _ _ _; try dsimp only)))
  | (refine' s_dput (by assumption) ?h ?h1 ?h2 ?r1 ?r2 ?s ?k; (case' h => repeat' wtm_at "ev"); (case' h1 => repeat' wtm_at "ev"); (case' h2 => repeat' wtm_at "ev"); (case' r1 => exact rfl); (case' r2 => exact rfl); (case' s => try wtm_at "ev"); (case' k => (intro _ _ _ _ _; try dsimp only)))
  | (refine' q_tup2 (by assumption) ?h ?k; (case' h => repeat' wtm_at "ev"); (case' k => (intro _ _ _ _ _; try dsimp only)))
  | (refine' q_drop (by assumption) ?h ?k; (case' h => repeat' wtm_at "ev"); (case' k => (intro _ _ _ _ _; try dsimp only)))
  | (refine' q_if (by assumption) ?h ?k1 ?k2; (case' h => repeat' wtm_at "ev"))
  | (refine' s_if (by assumption) ?h ?k1 ?k2; (case' h => repeat' wtm_at "ev"))
  | (refine' s_ret (by assumption) ?h ?k; (case' h => repeat' wtm_at "ev"); (case' k => (intro _ _ _ _ _ _ _; try dsimp only)))
  | (refine' q_ret (by assumption) ?h ?k; (case' h => repeat' wtm_at "ev"); (case' k => (intro _ _ _ _ _ _ _; try dsimp only)))
  | ((with_reducible refine' s_next (by assumption) ?k); (case' k => (intro _ _ _ _ _; try dsimp only)))
  | (with_reducible refine q_next ?_))

/-! ### the rows of single levels -/
def XR (t : Int) (cs : List Beat) (i : Nat) : List Int := arr t.toNat fun k => X0 cs i ((k : Int) + 1)
def PR (t : Int) (cs : List Beat) (i : Nat) : List Int := arr t.toNat fun k => PK cs i ((k : Int) + 1)
theorem XR_zero {t : Int} {cs : List Beat} : XR t cs 0 = List.replicate t.toNat 0 := arr_rep.symm
theorem PR_zero {t : Int} {cs : List Beat} : PR t cs 0 = List.replicate t.toNat 0 := arr_rep.symm
theorem XR_len {t : Int} {cs : List Beat} {i : Nat} : (XR t cs i).length = t.toNat := arr_len
theorem PR_len {t : Int} {cs : List Beat} {i : Nat} : (PR t cs i).length = t.toNat := arr_len
theorem XR_at {t : Int} {cs : List Beat} {i k : Nat} (h : k < t.toNat) : gI (XR t cs i) (k : Int) = X0 cs i ((k : Int) + 1) := arr_at h
theorem PR_at {t : Int} {cs : List Beat} {i k : Nat} (h : k < t.toNat) : gI (PR t cs i) (k : Int) = PK cs i ((k : Int) + 1) := arr_at h
theorem ag_at {t : Int} {c : Beat} {k : Nat} (h : k < t.toNat) : gI (ag t c) (k : Int) = hit 0 c ((k : Int) + 1) + 1 := arr_at h
theorem ag_len {t : Int} {c : Beat} : (ag t c).length = t.toNat := arr_len
theorem X0_max {cs : List Beat} {i : Nat} {c : Beat} (h : cs[i]? = some c) {e : Int} : (if X0 cs i e + (hit 0 c e + 1) - 1 > 0 then X0 cs i e + (hit 0 c e + 1) - 1 else 0) = X0 cs (i + 1) e := by
  rw [X0_succ, getD_bt h]
  split <;> split <;> omega
theorem PK_max {cs : List Beat} {i : Nat} {e : Int} : (if X0 cs (i + 1) e > PK cs i e then X0 cs (i + 1) e else PK cs i e) = PK cs (i + 1) e := PK_succ.symm
/-! ### Excess -/
def exF (t : Int) (a b : List Int) : List (Str × D) := [("top_number", .int t), ("now_list", .lst (a.map D.int)), ("peak_list", .lst (b.map D.int))]
theorem putD_nil {f : Str} {d : D} : putD f d [] = [(f, d)] := rfl
theorem putD_ne {f g : Str} {d e : D} {r : List (Str × D)} (h : ¬ g = f) : putD f d ((g, e) :: r) = (g, e) :: putD f d r := if_neg h
theorem putD_eq {f : Str} {d e : D} {r : List (Str × D)} : putD f d ((f, e) :: r) = (f, d) :: r := if_pos rfl
theorem ex_top {t : Int} {a b : List Int} : (exF t a b).lookup ("top_number" : Str) = some (.int t) := by first | rfl | simp [exF, List.lookup]
theorem ex_now {t : Int} {a b : List Int} : (exF t a b).lookup ("now_list" : Str) = some (.lst (a.map D.int)) := by first | rfl | simp [exF, List.lookup]
theorem ex_peak {t : Int} {a b : List Int} : (exF t a b).lookup ("peak_list" : Str) = some (.lst (b.map D.int)) := by first | rfl | simp [exF, List.lookup]
theorem ex_mt1 {t : Int} {a b : List Int} : (exF t a b).lookup ("add_beat" : Str) = none := by first | rfl | simp [exF, List.lookup]
theorem ex_mt2 {t : Int} {a b : List Int} : (exF t a b).lookup ("peaks" : Str) = none := by first | rfl | simp [exF, List.lookup]
def ph_exi (ad : Ad) : List MC → List Rv → List MC → Out → Prop := fun M rs M' o => ∃ t, M = [.ins ad.C_Excess []] ∧ rs = [.cel 0, rint t] ∧ (1 ≤ t ∧ t ≤ 12) ∧ M' = [.ins ad.C_Excess (exF t (XR t [] 0) (PR t [] 0))] ∧ o = .ret .non
abbrev sp_Excess___init__ (K : PySem.W.Frag) (ad : Ad) : Sp := FSp K (ph_exi ad)
theorem ok_Excess___init__ {P : Program} {w : World} {K : PySem.W.Frag} {mg : Str → Option Value} {base : Heap} {ad : Ad} {fd : Fd} (T : Txt K mg w ad fd) : FnOk P w K mg base CX0 5 ad.a_Excess___init__ fd.d_Excess___init__ ["self", "top"] (sp_Excess___init__ K ad) := by
  have G_check_course_top := ok_check_course_top (P := P) (base := base) T
  have b_check_course_top := T.F_check_course_top.binds (ps := ["top"]) fun _ _ _ _ _ _ us hl => match us, hl with | [_], _ => rfl
  refine L2.Fun.ok (k := 4) T.F_Excess___init__ sc_Excess___init__ (fun vs H Q E h => ?_) (fun cdv A outer s H vs Q E hr h => ?_)
  · exact h.len fun M rs M' o ⟨_, _, e, _⟩ => by rw [e]; rfl
  · have hu := hu_of hr
    refine ⟨_, (pss_cons (ps_expr (pe_call G_check_course_top (hr.mono (by first | decide | omega)) rfl T.g_check_course_top T.F_check_course_top.kp b_check_course_top .nil pass0 (pa_cons (pv 1) pa_nil)))
  (pss_cons (ps_fldK (K := K) rfl (ps_fld (pv 0) (pv 1) rfl))
  (pss_cons (ps_fldK (K := K) rfl (ps_fld (pv 0) (pe_op op_rep (pe_lst (pa_cons (pe_int) pa_nil)) (pv 1)) rfl))
  (pss_one (ps_fldK (K := K) rfl (ps_fld (pv 0) (pe_op op_rep (pe_lst (pa_cons (pe_int) pa_nil)) (pv 1)) rfl)))))), ?_⟩
    try dsimp only [cxOf, Cx.nox, Cx.wish, List.map]
    refine h.reading fun F As M rs M' o hΦ hL B S hB hA post => ?_
    obtain ⟨t, rfl, rfl, ⟨h1, h2⟩, rfl, rfl⟩ := hΦ
    refine q_drop S (M' := [.ins ad.C_Excess []]) (ev_call0 (ea_cons (ev_var (r := rint t) rfl) ea_nil) (by intro z; cases z) ⟨_, rfl, rfl, ⟨h1, h2⟩, rfl, rfl⟩) ?_
    intro F As σ H S
    refine q_fldE S (k := 0) (fs := []) (gs := [("top_number", .int t)]) (ev_var (r := rint t) rfl) (ev_var (r := .cel 0) rfl) rfl T.cl_Excess T.na_top_number (Nat.le_of_ble_eq_true rfl) putD_nil ?_
    intro F As σ H S
    refine q_fldE S (k := 0) (fs := [("top_number", .int t)]) (d := .lst ((XR t [] 0).map D.int)) (gs := [("top_number", .int t), ("now_list", .lst ((XR t [] 0).map D.int))]) (ev_is (ev_op (ev_lst (ds := [D.int 0]) (ea_cons ev_int ea_nil) rfl (Nat.le_of_ble_eq_true rfl)) (ev_var (r := rint t) rfl) (od_rep (ds := [D.int 0]) (.inl rfl) ⟨by omega, by omega⟩ (by show 1 * _ ≤ _; omega))) (by rw [flat_rep, XR_zero, List.map_replicate])) (ev_var (r := .cel 0) rfl) rfl T.cl_Excess T.na_now_list (Nat.le_of_ble_eq_true rfl) (by rw [putD_ne (by decide +kernel), putD_nil]) ?_
    intro F As σ H S
    refine s_fldE S (k := 0) (fs := [("top_number", .int t), ("now_list", .lst ((XR t [] 0).map D.int))]) (d := .lst ((PR t [] 0).map D.int)) (gs := exF t (XR t [] 0) (PR t [] 0)) (ev_is (ev_op (ev_lst (ds := [D.int 0]) (ea_cons ev_int ea_nil) rfl (Nat.le_of_ble_eq_true rfl)) (ev_var (r := rint t) rfl) (od_rep (ds := [D.int 0]) (.inl rfl) ⟨by omega, by omega⟩ (by show 1 * _ ≤ _; omega))) (by rw [flat_rep, PR_zero, List.map_replicate])) (ev_var (r := .cel 0) rfl) rfl T.cl_Excess T.na_peak_list (Nat.le_of_ble_eq_true rfl) (by rw [putD_ne (by decide +kernel), putD_ne (by decide +kernel), putD_nil]; rfl) ?_
    intro F As σ H S
    exact post _ _ _ _ _ _ _ S rfl .non
def ph_exa (ad : Ad) : List MC → List Rv → List MC → Out → Prop := fun M rs M' o => ∃ t cs i c, M = [.ins ad.C_Excess (exF t (XR t cs i) (PR t cs i))] ∧ rs = [.cel 0, rint c.1, rint c.2] ∧ (1 ≤ t ∧ t ≤ 12) ∧ BeatOk t c ∧ cs[i]? = some c ∧ M' = [.ins ad.C_Excess (exF t (XR t cs (i + 1)) (PR t cs (i + 1)))] ∧ o = .ret .non
abbrev sp_Excess_add_beat (K : PySem.W.Frag) (ad : Ad) : Sp := FSp K (ph_exa ad)
theorem ok_Excess_add_beat {P : Program} {w : World} {K : PySem.W.Frag} {mg : Str → Option Value} {base : Heap} {ad : Ad} {fd : Fd} (T : Txt K mg w ad fd) : FnOk P w K mg base CX0 4 ad.a_Excess_add_beat fd.d_Excess_add_beat ["self", "bore", "pin"] (sp_Excess_add_beat K ad) := by
  have G_against := ok_against (P := P) (base := base) T
  have b_against := T.F_against.binds (ps := ["top", "bore", "pin"]) fun _ _ _ _ _ _ us hl => match us, hl with | [_, _, _], _ => rfl
  have G_check_beat := ok_check_beat (P := P) (base := base) T
  have b_check_beat := T.F_check_beat.binds (ps := ["top", "bore", "pin", "number"]) fun _ _ _ _ _ _ us hl => match us, hl with | [_, _, _, _], _ => rfl
  refine L2.Fun.ok (k := 3) T.F_Excess_add_beat sc_Excess_add_beat (fun vs H Q E h => ?_) (fun cdv A outer s H vs Q E hr h => ?_)
  · exact h.len fun M rs M' o ⟨_, _, _, _, _, e, _⟩ => by rw [e]; rfl
  · have hu := hu_of hr
    refine ⟨_, (pss_cons (ps_expr (pe_call G_check_beat (hr.mono (by first | decide | omega)) rfl T.g_check_beat T.F_check_beat.kp b_check_beat .nil passN (pa_cons (pe_fldK (K := K) rfl (pe_fld (pv 0) rfl)) (pa_cons (pv 1) (pa_cons (pv 2) (pa_cons (pe_int) pa_nil))))))
  (pss_cons (ps_set (i := 3) sc_Excess_add_beat.nd rfl (by first | exact Or.inl rfl | exact Or.inr rfl) (pe_call G_against (hr.mono (by first | decide | omega)) rfl T.g_against T.F_against.kp b_against .nil pass0 (pa_cons (pe_fldK (K := K) rfl (pe_fld (pv 0) rfl)) (pa_cons (pv 1) (pa_cons (pv 2) pa_nil)))))
  (pss_cons (ps_fldK (K := K) rfl (ps_fld (pv 0) (pe_lc rfl sc_Excess_add_beat.nd (pi_range1 (by rfl) T.n_range (pa_cons (pe_fldK (K := K) rfl (pe_fld (pv 0) rfl)) pa_nil)) (blkOk_by (own := [("k", 4)]) (N := N_Excess_add_beat) (sc := defScope s_Excess_add_beat) (by decide +kernel)) (fun _ _ _ _ _ => (pg_name (i := 4) sc_Excess_add_beat.nd rfl (by first | exact Or.inl rfl | exact Or.inr rfl))) (fun _ _ _ _ _ => pts_nil) (fun _ _ _ _ _ => (pe_callB (call_max2 rfl) (by rfl) T.n_max (by decide +kernel) (pa_cons (pe_int) (pa_cons (pe_op op_sub (pe_op op_add (pe_ix (ix_listK (K := K) rfl) (pe_fldK (K := K) rfl (pe_fld (pv 0) rfl)) (pv 4) (fun _ _ => rfl)) (pe_ix (ix_listK (K := K) rfl) (pv 3) (pv 4) (fun _ _ => rfl))) (pe_int)) pa_nil))))) rfl))
  (pss_one (ps_fldK (K := K) rfl (ps_fld (pv 0) (pe_lc rfl sc_Excess_add_beat.nd (pi_range1 (by rfl) T.n_range (pa_cons (pe_fldK (K := K) rfl (pe_fld (pv 0) rfl)) pa_nil)) (blkOk_by (own := [("k", 4)]) (N := N_Excess_add_beat) (sc := defScope s_Excess_add_beat) (by decide +kernel)) (fun _ _ _ _ _ => (pg_name (i := 4) sc_Excess_add_beat.nd rfl (by first | exact Or.inl rfl | exact Or.inr rfl))) (fun _ _ _ _ _ => pts_nil) (fun _ _ _ _ _ => (pe_callB (call_max2 rfl) (by rfl) T.n_max (by decide +kernel) (pa_cons (pe_ix (ix_listK (K := K) rfl) (pe_fldK (K := K) rfl (pe_fld (pv 0) rfl)) (pv 4) (fun _ _ => rfl)) (pa_cons (pe_ix (ix_listK (K := K) rfl) (pe_fldK (K := K) rfl (pe_fld (pv 0) rfl)) (pv 4) (fun _ _ => rfl)) pa_nil))))) rfl)))))), ?_⟩
    try dsimp only [cxOf, Cx.nox, Cx.wish, List.map]
    refine h.reading fun F As M rs M' o hΦ hL B S hB hA post => ?_
    obtain ⟨t, cs, i, c, rfl, rfl, ⟨h1, h2⟩, hc, hi, rfl, rfl⟩ := hΦ
    have vt : ∀ {E : List (Option Rv)} {a b : List Int}, E[0]? = some (some (.cel 0)) → EvD K (tFld K (tVar 0) "top_number") [.ins ad.C_Excess (exF t a b)] E [.ins ad.C_Excess (exF t a b)] (rint t) := fun {E a b} z => ev_fldC (ev_var z) rfl T.cl_Excess T.na_top_number ex_top
    have vn : ∀ {E : List (Option Rv)} {a b : List Int}, E[0]? = some (some (.cel 0)) → EvD K (tFld K (tVar 0) "now_list") [.ins ad.C_Excess (exF t a b)] E [.ins ad.C_Excess (exF t a b)] (rints a) := fun {E a b} z => ev_fldC (ev_var z) rfl T.cl_Excess T.na_now_list ex_now
    have vp : ∀ {E : List (Option Rv)} {a b : List Int}, E[0]? = some (some (.cel 0)) → EvD K (tFld K (tVar 0) "peak_list") [.ins ad.C_Excess (exF t a b)] E [.ins ad.C_Excess (exF t a b)] (rints b) := fun {E a b} z => ev_fldC (ev_var z) rfl T.cl_Excess T.na_peak_list ex_peak
    refine q_drop S (M' := [.ins ad.C_Excess (exF t (XR t cs i) (PR t cs i))]) (ev_call0 (ea_cons (vt rfl) (ea_cons (ev_var (r := rint c.1) rfl) (ea_cons (ev_var (r := rint c.2) rfl) (ea_cons ev_int ea_nil)))) (by intro z; cases z) ⟨_, _, _, rfl, rfl, hc, rfl, rfl⟩) ?_
    intro F As σ H S
    refine q_set S (r := rints (ag t c)) (M' := [.ins ad.C_Excess (exF t (XR t cs i) (PR t cs i))]) (ev_call0 (ea_cons (vt rfl) (ea_cons (ev_var (r := rint c.1) rfl) (ea_cons (ev_var (r := rint c.2) rfl) ea_nil))) (by intro z; cases z) ⟨_, _, rfl, rfl, ⟨h1, by omega⟩, rfl, rfl⟩) ?_
    intro F As σ H S
    try simp only [List.set_cons_zero, List.set_cons_succ] at S
    refine q_fldE S (k := 0) (fs := exF t (XR t cs i) (PR t cs i)) (d := .lst ((XR t cs (i + 1)).map D.int)) (gs := exF t (XR t cs (i + 1)) (PR t cs i)) (ev_lcRAI (n := t) (fun k => X0 cs (i + 1) ((k : Int) + 1)) (ea_cons (vt rfl) ea_nil) ⟨by omega, by omega⟩ fun k hk => ?_) (ev_var (r := .cel 0) rfl) rfl T.cl_Excess T.na_now_list (Nat.le_of_ble_eq_true rfl) (by
      unfold exF
      rw [putD_ne (by decide +kernel), putD_eq]) ?_
    · refine ev_is (ev_cb (ea_cons ev_int (ea_cons (ev_op (ev_op (ev_op (vn rfl) (ev_var (r := rint (k : Int)) rfl) (od_ixI (.inl rfl) (by omega) (by rw [XR_len]; omega))) (ev_op (ev_var (r := rints (ag t c)) rfl) (ev_var (r := rint (k : Int)) rfl) (od_ixI (.inl rfl) (by omega) (by rw [ag_len]; omega))) od_int) ev_int od_int) ea_nil)) cd_max2) ?_
      rw [XR_at (by omega), ag_at (by omega), X0_max hi]
    intro F As σ H S
    refine s_fldE S (k := 0) (fs := exF t (XR t cs (i + 1)) (PR t cs i)) (d := .lst ((PR t cs (i + 1)).map D.int)) (gs := exF t (XR t cs (i + 1)) (PR t cs (i + 1))) (ev_lcRAI (n := t) (fun k => PK cs (i + 1) ((k : Int) + 1)) (ea_cons (vt rfl) ea_nil) ⟨by omega, by omega⟩ fun k hk => ?_) (ev_var (r := .cel 0) rfl) rfl T.cl_Excess T.na_peak_list (Nat.le_of_ble_eq_true rfl) (by
      unfold exF
      rw [putD_ne (by decide +kernel), putD_ne (by decide +kernel), putD_eq]) ?_
    · refine ev_is (ev_cb (ea_cons (ev_op (vp rfl) (ev_var (r := rint (k : Int)) rfl) (od_ixI (.inl rfl) (by omega) (by rw [PR_len]; omega))) (ea_cons (ev_op (vn rfl) (ev_var (r := rint (k : Int)) rfl) (od_ixI (.inl rfl) (by omega) (by rw [XR_len]; omega))) ea_nil)) cd_max2) ?_
      rw [XR_at (by omega), PR_at (by omega), PK_max]
    intro F As σ H S
    exact post _ _ _ _ _ _ _ S rfl .non
def ph_exp (ad : Ad) : List MC → List Rv → List MC → Out → Prop := fun M rs M' o => ∃ t a b, M = [.ins ad.C_Excess (exF t a b)] ∧ rs = [.cel 0] ∧ b.length ≤ 1000 ∧ M' = [.ins ad.C_Excess (exF t a b)] ∧ o = .ret (.lst (b.map D.int))
abbrev sp_Excess_peaks (K : PySem.W.Frag) (ad : Ad) : Sp := FSp K (ph_exp ad)
theorem ok_Excess_peaks {P : Program} {w : World} {K : PySem.W.Frag} {mg : Str → Option Value} {base : Heap} {ad : Ad} {fd : Fd} (T : Txt K mg w ad fd) : FnOk P w K mg base CX0 1 ad.a_Excess_peaks fd.d_Excess_peaks ["self"] (sp_Excess_peaks K ad) := by
  refine L2.Fun.ok (k := 0) T.F_Excess_peaks sc_Excess_peaks (fun vs H Q E h => ?_) (fun cdv A outer s H vs Q E hr h => ?_)
  · exact h.len fun M rs M' o ⟨_, _, _, _, e, _⟩ => by rw [e]; rfl
  · have hu := hu_of hr
    refine ⟨_, (pss_one (ps_ret (pe_callTy (call_listK (K := K) rfl) (by rfl) T.n_list (by decide +kernel) (pa_cons (pe_fldK (K := K) rfl (pe_fld (pv 0) rfl)) pa_nil)))), ?_⟩
    try dsimp only [cxOf, Cx.nox, Cx.wish, List.map]
    refine h.reading fun F As M rs M' o hΦ hL B S hB hA post => ?_
    obtain ⟨t, a, b, rfl, rfl, hl, rfl, rfl⟩ := hΦ
    dsimp only at post
    refine s_ret S (r := rints b) (M' := [.ins ad.C_Excess (exF t a b)]) (ev_cb (ea_cons (ev_fldC (ev_var (r := .cel 0) rfl) rfl T.cl_Excess T.na_peak_list ex_peak) ea_nil) (cd_list (.inl rfl))) ?_
    intro v F As σ H S rv
    exact post _ _ _ _ _ _ _ S rfl rv
end K78
set_option Elab.async false
set_option linter.all false
set_option maxRecDepth 100000
set_option maxHeartbeats 4000000
namespace K78
open PySem L2 DL
/-! ### the steps: one rule an expression, by its reading's head -/
local macro_rules | `(tactic| wtm_at "ev") => `(tactic| first
  | exact ev_var rfl
  | exact ev_int
  | exact ev_non
  | exact ev_bl
  | exact ev_str
  | exact ea_nil
  | with_reducible apply ea_cons
  | ((with_reducible refine' ev_isi ?a ?b ?c); (case' a => repeat' wtm_at "ev"); (case' b => exact rfl); (case' c => exact rfl))
  | with_reducible apply ev_cb
  | with_reducible apply ev_op
  | with_reducible apply ev_un
  | with_reducible apply et_test
  | with_reducible apply et_B
  | with_reducible apply et_not
  | with_reducible apply ev_isN
  | with_reducible apply ev_notN
  | with_reducible apply ev_notV
  | with_reducible apply et_and
  | with_reducible apply et_or
  | with_reducible apply ev_andV
  | with_reducible apply ev_orV
  | with_reducible apply ev_ifI
  | with_reducible apply ev_ifD
  | ((with_reducible refine' ev_dnotin ?a ?b ?c ?d); (case' a => repeat' wtm_at "ev"); (case' b => repeat' wtm_at "ev"); (case' c => exact rfl); (case' d => first | exact .inl rfl | exact .inr ⟨_, rfl, rfl⟩))
  | ((with_reducible refine' ev_din ?a ?b ?c ?d); (case' a => repeat' wtm_at "ev"); (case' b => repeat' wtm_at "ev"); (case' c => exact rfl); (case' d => first | exact .inl rfl | exact .inr ⟨_, rfl, rfl⟩))
  | with_reducible apply ev_lcLAI
  | with_reducible apply ev_lcLII
  | with_reducible apply ev_lcLA
  | with_reducible apply ev_lcLI
  | with_reducible apply ev_lcRAI
  | with_reducible apply ev_lcRI
  | with_reducible apply ev_lcRA
  | with_reducible apply ev_lcR
  | exact et_yes
  | with_reducible intro _
  | exact od_int
  | exact od_bool
  | exact od_eqI
  | exact od_neI
  | exact od_eqS
  | exact od_neS
  | exact ud_neg
  | exact cd_abs
  | exact cd_max2
  | exact cd_min2
  | exact cd_int
  | exact cd_intB
  | exact cd_lenScr
  | exact cd_lenT
  | exact cd_lenI (.inl rfl)
  | exact cd_lenI (.inr ⟨_, rfl, rfl⟩)
  | exact cd_len (.inl rfl)
  | exact cd_len (.inr ⟨_, rfl, rfl⟩)
  | exact cd_lenD (.inl rfl)
  | exact cd_lenD (.inr ⟨_, rfl, rfl⟩)
  | exact cd_sum (.inl rfl)
  | exact cd_sorted (.inl rfl)
  | exact cd_list (.inl rfl)
  | exact cd_listT
  | exact eo_none
  | with_reducible apply eo_some
  | with_reducible apply ev_sliceScr
  | refine' ev_sliceI ?_ ?_ ?_ (.inl rfl)
  | with_reducible apply od_intC
  | with_reducible apply od_ixScr
  | refine' od_ixI (.inl rfl) ?_ ?_
  | refine' od_ixI (.inr ⟨_, rfl, rfl⟩) ?_ ?_
  | exact od_ixT rfl
  | exact od_inI (.inl rfl)
  | exact od_notinI (.inl rfl)
  | refine' od_cat (.inl rfl) (.inl rfl) ?_
  | ((with_reducible refine' ev_tup ?h ?r ?l); (case' h => repeat' wtm_at "ev"); (case' r => exact rfl); (case' l => exact Nat.le_of_ble_eq_true rfl))
  | (refine (show CMul _ _ from .inl ⟨?_, ?_⟩) <;> decide)
  | (refine (show CMul _ _ from .inr ⟨?_, ?_⟩) <;> decide)
  | (refine (show (_ : Prop) from ?_); assumption)
  | (refine (show CDiv _ _ from ⟨?_, ?_⟩) <;> omega)
  | (refine (show CPow _ _ from ⟨?_, ?_, ?_⟩) <;> decide)
  | omega
  | (simp only [Pz.len]; done)
  | (simp only [Pz.len, List.length_map, List.length_append, List.length_range, List.length_set, List.length_reverse]; omega))
/-! a statement's step: its values are reckoned, what is left is the way on -/
local macro_rules | `(tactic| wtm_at "st") => `(tactic| first
  | (refine' q_set (by assumption) ?h ?k; (case' h => repeat' wtm_at "ev"); (case' k => (intro _ _ _ _ _; try dsimp only)))
  | (refine' s_set (by assumption) ?h ?k; (case' h => repeat' wtm_at "ev"); (case' k => (intro _ _ _ _ _; try dsimp only)))
  | (refine' q_augS (by assumption) ?h1 ?h2 ?h3 ?r1 ?r2 ?s1 ?s2 ?k; (case' h1 => repeat' wtm_at "ev"); (case' h2 => repeat' wtm_at "ev"); (case' h3 => repeat' wtm_at "ev"); (case' r1 => exact rfl); (case' r2 => exact rfl); (case' s1 => try wtm_at "ev"); (case' s2 => try wtm_at "ev"); (case' k => (intro _ _ _ _ _; try dsimp only)))
  | (refine' s_augS (by assumption) ?h1 ?h2 ?h3 ?r1 ?r2 ?s1 ?s2 ?k; (case' h1 => repeat' wtm_at "ev"); (case' h2 => repeat' wtm_at "ev"); (case' h3 => repeat' wtm_at "ev"); (case' r1 => exact rfl); (case' r2 => exact rfl); (case' s1 => try wtm_at "ev"); (case' s2 => try wtm_at "ev"); (case' k => (intro _ _ _ _ _; try dsimp only)))
  | (refine' q_setLI (by assumption) ?h ?h1 ?h2 ?r1 ?s1 ?s2 ?k; (case' h => repeat' wtm_at "ev"); (case' h1 => repeat' wtm_at "ev"); (case' h2 => repeat' wtm_at "ev"); (case' r1 => exact rfl); (case' s1 => try wtm_at "ev"); (case' s2 => try wtm_at "ev"); (case' k => (intro _ _ _ _ _; try dsimp only)))
  | (refine' q_setL (by assumption) ?h ?h1 ?h2 ?r1 ?s1 ?s2 ?k; (case' h => repeat' wtm_at "ev"); (case' h1 => repeat' wtm_at "ev"); (case' h2 => repeat' wtm_at "ev"); (case' r1 => exact rfl); (case' s1 => try wtm_at "ev"); (case' s2 => try wtm_at "ev"); (case' k => (intro _ _ _ _ _; try dsimp only)))
  | (refine' s_setLI (by assumption) ?h ?h1 ?h2 ?r1 ?s1 ?s2 ?k; (case' h => repeat' wtm_at "ev"); (case' h1 => repeat' wtm_at "ev"); (case' h2 => repeat' wtm_at "ev"); (case' r1 => exact rfl); (case' s1 => try wtm_at "ev"); (case' s2 => try wtm_at "ev"); (case' k => (intro _ _ _ _ _; try dsimp only)))
  | (refine' s_setL (by assumption) ?h ?h1 ?h2 ?r1 ?s1 ?s2 ?k; (case' h => repeat' wtm_at "ev"); (case' h1 => repeat' wtm_at "ev"); (case' h2 => repeat' wtm_at "ev"); (case' r1 => exact rfl); (case' s1 => try wtm_at "ev"); (case' s2 => try wtm_at "ev"); (case' k => (intro _ _ _ _ _; try dsimp only)))
  | (refine' q_appI (by assumption) ?h1 ?h ?r1 ?r2 ?s ?k; (case' h1 => repeat' wtm_at "ev"); (case' h => repeat' wtm_at "ev"); (case' r1 => exact rfl); (case' r2 => exact rfl); (case' s => try wtm_at "ev"); (case' k => (intro _ _ _ _ _; try dsimp only)))
  | (refine' q_app (by assumption) ?h1 ?h ?r1 ?r2 ?s ?k; (case' h1 => repeat' wtm_at "ev"); (case' h => repeat' wtm_at "ev"); (case' r1 => exact rfl); (case' r2 => exact rfl); (case' s => try wtm_at "ev"); (case' k => (intro _ _ _ _ _; try dsimp only)))
  | (refine' s_appI (by assumption) ?h1 ?h ?r1 ?r2 ?s ?k; (case' h1 => repeat' wtm_at "ev"); (case' h => repeat' wtm_at "ev"); (case' r1 => exact rfl); (case' r2 => exact rfl); (case' s => try wtm_at "ev"); (case' k => (intro _ _ _ _ _; try dsimp only)))
  | (refine' s_app (by assumption) ?h1 ?h ?r1 ?r2 ?s ?k; (case' h1 => repeat' wtm_at "ev"); (case' h => repeat' wtm_at "ev"); (case' r1 => exact rfl); (case' r2 => exact rfl); (case' s => try wtm_at "ev"); (case' k => (intro _ _ _ _ _; try dsimp only)))
  | (refine' q_dput (by assumption) ?h ?h1 ?h2 ?r1 ?r2 ?s ?k; (case' h => repeat' wtm_at "ev"); (case' h1 => repeat' wtm_at "ev"); (case' h2 => repeat' wtm_at "ev"); (case' r1 => exact rfl); (case' r2 => exact rfl); (case' s => try wtm_at "ev"); (case' k => (intro _ _ _ _ _; try dsimp only)))
  | (refine' s_dput (by assumption) ?h ?h1 ?h2 ?r1 ?r2 ?s ?k; (case' h => repeat' wtm_at "ev"); (case' h1 => repeat' wtm_at "ev"); (case' h2 => repeat' wtm_at "ev"); (case' r1 => exact rfl); (case' r2 => exact rfl); (case' s => try wtm_at "ev"); (case' k => (intro _ _ _ _ _; try dsimp only)))
  | (refine' q_tup2 (by assumption) ?h ?k; (case' h => repeat' wtm_at "ev"); (case' k => (intro _ _ _ _ _; try dsimp only)))
  | (refine' q_drop (by assumption) ?h ?k; (case' h => repeat' wtm_at "ev"); (case' k => (intro _ _ _ _ _; try dsimp only)))
  | (refine' q_if (by assumption) ?h ?k1 ?k2; (case' h => repeat' wtm_at "ev"))
  | (refine' s_if (by assumption) ?h ?k1 ?k2; (case' h => repeat' wtm_at "ev"))
  | (refine' s_ret (by assumption) ?h ?k; (case' h => repeat' wtm_at "ev"); (case' k => (intro _ _ _ _ _ _ _; try dsimp only)))
  | (refine' q_ret (by assumption) ?h ?k; (case' h => repeat' wtm_at "ev"); (case' k => (intro _ _ _ _ _ _ _; try dsimp only)))
  | ((with_reducible refine' s_next (by assumption) ?k); (case' k => (intro _ _ _ _ _; try dsimp only)))
  | (with_reducible refine q_next ?_))

/-! ### the law's own readings -/
abbrev sp__law_f_hit (K : PySem.W.Frag) : Sp := FSp K ph_wob
theorem ok__law_f_hit {P : Program} {w : World} {K : PySem.W.Frag} {mg : Str → Option Value} {base : Heap} {ad : Ad} {fd : Fd} (T : Txt K mg w ad fd) : FnOk P w K mg base CX0 1 ad.a__law_f_hit fd.d__law_f_hit ["play", "beat", "e"] (sp__law_f_hit K) := by
  refine L2.Fun.ok (k := 0) T.F__law_f_hit sc__law_f_hit (fun vs H Q E h => ?_) (fun cdv A outer s H vs Q E hr h => ?_)
  · exact h.len fun M rs M' o ⟨_, _, _, _, e, _⟩ => by rw [e]; rfl
  · refine ⟨_, (pss_one (ps_ret (pe_op op_sub (pe_op op_add (pe_ifExp (pt_cmpR op_lt (pe_op op_add (pe_ix (ix_tupK (K := K) rfl) (pv 1) (pe_int) (fun _ _ => rfl)) (pv 0)) (pv 2) (nomark _)) (pe_int) (pe_int)) (pe_ifExp (pt_cmpR op_ge (pe_ix (ix_tupK (K := K) rfl) (pv 1) (pe_int) (fun _ _ => rfl)) (pv 2) (nomark _)) (pe_int) (pe_int))) (pe_int)))), ?_⟩
    try dsimp only [cxOf, Cx.nox, Cx.wish, List.map]
    refine h.reading fun F As M rs M' o hΦ hL B S hB hA post => ?_
    obtain ⟨pl, c, e, rfl, rfl, rfl, rfl⟩ := hΦ
    dsimp only at post
    refine s_ret S (r := rint (hit pl c e)) (M' := []) ?_ ?_
    · refine' ev_is ?h ?e
      case' h => repeat' wtm_at "ev"
      case e =>
        unfold hit
        simp only [decide_eq_true_eq]
    · intro v F As σ H S rv
      exact post _ _ _ _ _ _ _ S rfl rv
abbrev sp__law_f_worth (K : PySem.W.Frag) : Sp := FSp K ph_wos
theorem ok__law_f_worth {P : Program} {w : World} {K : PySem.W.Frag} {mg : Str → Option Value} {base : Heap} {ad : Ad} {fd : Fd} (T : Txt K mg w ad fd) : FnOk P w K mg base CX0 2 ad.a__law_f_worth fd.d__law_f_worth ["play", "course", "stretch"] (sp__law_f_worth K) := by
  have G__law_f_hit := ok__law_f_hit (P := P) (base := base) T
  have b__law_f_hit := T.F__law_f_hit.binds (ps := ["play", "beat", "e"]) fun _ _ _ _ _ _ us hl => match us, hl with | [_, _, _], _ => rfl
  refine L2.Fun.ok (k := 1) T.F__law_f_worth sc__law_f_worth (fun vs H Q E h => ?_) (fun cdv A outer s H vs Q E hr h => ?_)
  · exact h.len fun M rs M' o ⟨_, _, _, _, _, e, _⟩ => by rw [e]; rfl
  · refine ⟨_, (pss_cons (ps_set (i := 3) sc__law_f_worth.nd rfl (by first | exact Or.inl rfl | exact Or.inr rfl) (pe_int))
  (pss_cons (ps_for PassesOwn.never rfl (pi_range2 (by rfl) T.n_range (pa_cons (pe_op op_sub (pe_ix (ix_tupK (K := K) rfl) (pv 2) (pe_int) (fun _ _ => rfl)) (pe_int)) (pa_cons (pe_ix (ix_tupK (K := K) rfl) (pv 2) (pe_int) (fun _ _ => rfl)) pa_nil))) (pg_name (i := 4) sc__law_f_worth.nd rfl (by first | exact Or.inl rfl | exact Or.inr rfl))
  (pss_one (ps_aug (i := 3) sc__law_f_worth.nd rfl (by first | exact Or.inl rfl | exact Or.inr rfl) (pe_call G__law_f_hit (hr.mono (by first | decide | omega)) rfl T.g__law_f_hit T.F__law_f_hit.kp b__law_f_hit .nil pass0 (pa_cons (pv 0) (pa_cons (pe_ix (ix_listK (K := K) rfl) (pv 1) (pv 4) (fun _ _ => rfl)) (pa_cons (pe_ix (ix_tupK (K := K) rfl) (pv 2) (pe_int) (fun _ _ => rfl)) pa_nil)))) ip_add)))
  (pss_one (ps_ret (pv 3))))), ?_⟩
    try dsimp only [cxOf, Cx.nox, Cx.wish, List.map]
    refine h.reading fun F As M rs M' o hΦ hL B S hB hA post => ?_
    obtain ⟨t, pl, cs, s, rfl, rfl, h3, ⟨⟨f1, f2⟩, f3, f4, f5⟩, rfl, rfl⟩ := hΦ
    dsimp only at post
    refine q_set S (r := rint 0) ev_int ?_
    intro F As σ H S
    refine' q_forR2 S (a := s.2.1 - 1) (n := s.2.2) (ea_cons (ev_op (ev_op (ev_var (r := .dat (t3D s)) rfl) ev_int (od_ixT rfl)) ev_int od_int) (ea_cons (ev_op (ev_var (r := .dat (t3D s)) rfl) ev_int (od_ixT rfl)) ea_nil)) ⟨by omega, by omega, by omega, by omega⟩ (fun k M E => M = [] ∧ ∃ x, E = [some (rint pl), some (.dat (pairsD cs)), some (.dat (t3D s)), some (rint (opn pl cs s.1 (s.2.1 - 1).toNat k)), x]) ⟨rfl, _, rfl⟩ ?hb ?hd
    case hd =>
      rintro M E ⟨rfl, x, rfl⟩ F As σ H S
      refine s_ret S (r := rint (wsum pl cs s)) (M' := []) (ev_is (ev_var rfl) (by
        unfold wsum
        rw [show s.2.2 - (s.2.1 - 1) = s.2.2 - s.2.1 + 1 by omega])) ?_
      intro v F As σ H S rv
      exact post _ _ _ _ _ _ _ S rfl rv
    case hb =>
      rintro k M E hk ⟨rfl, x, rfl⟩ F As σ H S
      try simp only [List.set_cons_zero, List.set_cons_succ] at S
      refine s_aug S (M' := []) (a := opn pl cs s.1 (s.2.1 - 1).toNat k) (c := hit pl (gP cs (s.2.1 - 1 + (k : Int))) s.1) rfl (ev_call0 (ea_cons (ev_var (r := rint pl) rfl) (ea_cons (ev_op (ev_var (r := .dat (pairsD cs)) rfl) (ev_var (r := rint (s.2.1 - 1 + (k : Int))) rfl) (od_ixL (.inl rfl) (gP_at (by omega) (by omega)))) (ea_cons (ev_op (ev_var (r := .dat (t3D s)) rfl) ev_int (od_ixT rfl)) ea_nil))) (by intro z; cases z) ⟨_, _, _, rfl, rfl, rfl, rfl⟩) ?_
      intro F As σ H S
      refine s_end S ⟨rfl, some (rint (s.2.1 - 1 + (k : Int))), ?_⟩ (Ele.refl _)
      rw [opn_snoc]
      unfold gP
      rw [show (s.2.1 - 1 + (k : Int)).toNat = (s.2.1 - 1).toNat + k by omega]
      rfl
def ph_lword : List MC → List Rv → List MC → Out → Prop := fun M rs M' o => ∃ t pl cs g L, M = [] ∧ rs = [rint t, rint pl, .dat (pairsD cs), rint g, .dat (clmD g L)] ∧ Prm t pl cs ∧ Stw t cs.length L ∧ g = wall pl cs L ∧ M' = [] ∧ o = .ret .non
abbrev sp__law_f_stair_word (K : PySem.W.Frag) : Sp := FSp K ph_lword
theorem ok__law_f_stair_word {P : Program} {w : World} {K : PySem.W.Frag} {mg : Str → Option Value} {base : Heap} {ad : Ad} {fd : Fd} (T : Txt K mg w ad fd) : FnOk P w K mg base CX0 3 ad.a__law_f_stair_word fd.d__law_f_stair_word ["top", "play", "course", "greatest", "claim"] (sp__law_f_stair_word K) := by
  have G__law_f_worth := ok__law_f_worth (P := P) (base := base) T
  have b__law_f_worth := T.F__law_f_worth.binds (ps := ["play", "course", "stretch"]) fun _ _ _ _ _ _ us hl => match us, hl with | [_, _, _], _ => rfl
  refine L2.Fun.ok (k := 2) T.F__law_f_stair_word sc__law_f_stair_word (fun vs H Q E h => ?_) (fun cdv A outer s H vs Q E hr h => ?_)
  · exact h.len fun M rs M' o ⟨_, _, _, _, _, _, e, _⟩ => by rw [e]; rfl
  · refine ⟨_, (pss_cons (ps_asg (pv 4) (pg_tupK (K := K) rfl rfl (pgs_cons (pg_name (i := 5) sc__law_f_stair_word.nd rfl (by first | exact Or.inl rfl | exact Or.inr rfl)) (pgs_cons (pg_name (i := 6) sc__law_f_stair_word.nd rfl (by first | exact Or.inl rfl | exact Or.inr rfl)) pgs_nil))))
  (pss_cons (ps_for PassesOwn.never rfl (pi_listK (K := K) rfl (pv 6)) (pg_tupK (K := K) rfl rfl (pgs_cons (pg_name (i := 7) sc__law_f_stair_word.nd rfl (by first | exact Or.inl rfl | exact Or.inr rfl)) (pgs_cons (pg_name (i := 8) sc__law_f_stair_word.nd rfl (by first | exact Or.inl rfl | exact Or.inr rfl)) (pgs_cons (pg_name (i := 9) sc__law_f_stair_word.nd rfl (by first | exact Or.inl rfl | exact Or.inr rfl)) pgs_nil))))
  (pss_one (ps_if (PW.pt (pw_or (pt_cmpR op_lt (pv 7) (pe_int) (nomark _)) (pw_or (pt_cmpR op_gt (pv 7) (pv 0) (nomark _)) (pw_or (pt_cmpR op_lt (pv 8) (pe_int) (nomark _)) (pw_or (pt_cmpR op_gt (pv 9) (pe_callB (call_lenK (K := K) rfl) (by rfl) T.n_len (by decide +kernel) (pa_cons (pv 2) pa_nil)) (nomark _)) (pw_or1 (pt_cmpR op_gt (pv 8) (pv 9) (nomark _)))))))) (pss_one (ps_ret (pe_str))) pss_nil)))
  (pss_cons (ps_for PassesOwn.never rfl (pi_range2 (by rfl) T.n_range (pa_cons (pe_int) (pa_cons (pe_callB (call_lenK (K := K) rfl) (by rfl) T.n_len (by decide +kernel) (pa_cons (pv 6) pa_nil)) pa_nil))) (pg_name (i := 10) sc__law_f_stair_word.nd rfl (by first | exact Or.inl rfl | exact Or.inr rfl))
  (pss_one (ps_if (pt_cmpR op_ge (pe_ix (ix_tupK (K := K) rfl) (pe_ix (ix_listK (K := K) rfl) (pv 6) (pv 10) (fun _ _ => rfl)) (pe_int) (fun _ _ => rfl)) (pe_ix (ix_tupK (K := K) rfl) (pe_ix (ix_listK (K := K) rfl) (pv 6) (pe_op op_sub (pv 10) (pe_int)) (fun _ _ => rfl)) (pe_int) (fun _ _ => rfl)) (nomark _)) (pss_one (ps_ret (pe_str))) pss_nil)))
  (pss_cons (ps_for PassesOwn.never rfl (pi_range2 (by rfl) T.n_range (pa_cons (pe_int) (pa_cons (pe_callB (call_lenK (K := K) rfl) (by rfl) T.n_len (by decide +kernel) (pa_cons (pv 6) pa_nil)) pa_nil))) (pg_name (i := 10) sc__law_f_stair_word.nd rfl (by first | exact Or.inl rfl | exact Or.inr rfl))
  (pss_one (ps_if (pt_cmpR op_ne (pe_ix (ix_tupK (K := K) rfl) (pe_ix (ix_listK (K := K) rfl) (pv 6) (pv 10) (fun _ _ => rfl)) (pe_int) (fun _ _ => rfl)) (pe_op op_add (pe_ix (ix_tupK (K := K) rfl) (pe_ix (ix_listK (K := K) rfl) (pv 6) (pe_op op_sub (pv 10) (pe_int)) (fun _ _ => rfl)) (pe_int) (fun _ _ => rfl)) (pe_int)) (nomark _)) (pss_one (ps_ret (pe_str))) pss_nil)))
  (pss_cons (ps_if (PW.pt (pw_or (pt_cmpR op_ne (pv 5) (pe_callB (cr_sumK (K := K) rfl rfl) (by rfl) T.n_sum (by decide +kernel) (pa_cons (pe_lc rfl sc__law_f_stair_word.nd (pi_listK (K := K) rfl (pv 6)) (blkOk_by (own := [("one", 11)]) (N := N__law_f_stair_word) (sc := defScope s__law_f_stair_word) (by decide +kernel)) (fun _ _ _ _ _ => (pg_name (i := 11) sc__law_f_stair_word.nd rfl (by first | exact Or.inl rfl | exact Or.inr rfl))) (fun _ _ _ _ _ => pts_nil) (fun _ _ _ _ _ => (pe_call G__law_f_worth (hr.mono (by first | decide | omega)) rfl T.g__law_f_worth T.F__law_f_worth.kp b__law_f_worth .nil pass0 (pa_cons (pv 1) (pa_cons (pv 2) (pa_cons (pv 11) pa_nil)))))) pa_nil)) (nomark _)) (pw_or1 (pt_cmpR op_ne (pv 5) (pv 3) (nomark _))))) (pss_one (ps_ret (pe_str))) pss_nil)
  (pss_one (ps_ret (pe_non)))))))), ?_⟩
    try dsimp only [cxOf, Cx.nox, Cx.wish, List.map]
    refine h.reading fun F As M rs M' o hΦ hL B S hB hA post => ?_
    obtain ⟨t, pl, cs, w, L, rfl, rfl, ⟨⟨h1, h2⟩, h3, h4, h5⟩, hs, hw, rfl, rfl⟩ := hΦ
    dsimp only at post
    have hll := stw_len hs (by omega)
    refine q_tup2 S (M' := []) (d1 := .int w) (d2 := strD L) (ev_var (r := .dat (clmD w L)) rfl) ?_
    intro F As σ H S
    try simp only [List.set_cons_zero, List.set_cons_succ] at S
    refine' q_forT3 S (ds := L.map t3D) (ev_var (r := .dat (strD L)) rfl) (fun d hd => by
      obtain ⟨s, _, rfl⟩ := List.mem_map.mp hd
      exact ⟨_, _, _, rfl⟩) (fun i M E => M = [] ∧ ∃ x6 x7 x8, E = [some (rint t), some (rint pl), some (.dat (pairsD cs)), some (rint w), some (.dat (clmD w L)), some (rint w), some (.dat (strD L)), x6, x7, x8, none, none]) ⟨rfl, _, _, _, rfl⟩ ?b1 ?d1
    case b1 =>
      rintro B2 cv i d1 d2 d3 M E hn ⟨rfl, x6, x7, x8, rfl⟩ F As σ H S
      obtain ⟨s, hs1, hs2⟩ := t3_of hn
      cases hs2
      obtain ⟨⟨f1, f2⟩, f3, f4, f5⟩ := hs.form s (List.mem_of_getElem? hs1)
      try simp only [List.set_cons_zero, List.set_cons_succ] at S
      refine s_if S (b := false) (et_is (et_or (b := false) (et_is (et_test (ev_op (ev_var (r := rint s.1) rfl) ev_int od_bool)) (decide_eq_false (by omega))) (fun _ => et_or (b := false) (et_is (et_test (ev_op (ev_var (r := rint s.1) rfl) (ev_var (r := rint t) rfl) od_bool)) (decide_eq_false (by omega))) (fun _ => et_or (b := false) (et_is (et_test (ev_op (ev_var (r := rint s.2.1) rfl) ev_int od_bool)) (decide_eq_false (by omega))) (fun _ => et_or (b := false) (c := false) (et_is (et_test (ev_op (ev_var (r := rint s.2.2) rfl) (ev_cb (ea_cons (ev_var (r := .dat (pairsD cs)) rfl) ea_nil) (cd_len (.inl rfl))) od_bool)) (decide_eq_false (by rw [List.length_map]; omega))) (fun _ => et_is (et_test (ev_op (ev_var (r := rint s.2.1) rfl) (ev_var (r := rint s.2.2) rfl) od_bool)) (decide_eq_false (by omega))))))) rfl) (fun hc => by cases hc) ?_
      intro _ F As σ H S
      refine s_next S ?_
      intro F As σ H S
      exact s_end S ⟨rfl, _, _, _, rfl⟩ (Ele.refl _)
    case d1 =>
    rintro M E ⟨rfl, x6, x7, x8, rfl⟩ F As σ H S
    refine' q_forR2 S (a := 1) (n := (L.length : Int)) (ea_cons ev_int (ea_cons (ev_is (ev_cb (ea_cons (ev_var (r := .dat (strD L)) rfl) ea_nil) (cd_len (ds := L.map t3D) (.inl rfl))) (by rw [List.length_map])) ea_nil)) ⟨by omega, by omega, by omega, by omega⟩ (fun i M E => M = [] ∧ ∃ x9, E = [some (rint t), some (rint pl), some (.dat (pairsD cs)), some (rint w), some (.dat (clmD w L)), some (rint w), some (.dat (strD L)), x6, x7, x8, x9, none]) ⟨rfl, _, rfl⟩ ?b2 ?d2
    case b2 =>
      rintro i M E hi ⟨rfl, x9, rfl⟩ F As σ H S
      obtain ⟨l1, l2⟩ := link_at (L := L) (i := i) hs.link (by omega)
      try simp only [List.set_cons_zero, List.set_cons_succ] at S
      refine s_if S (b := false) (et_is (et_test (ev_op (ev_op (ev_op (ev_var (r := .dat (strD L)) rfl) (ev_var (r := rint (1 + (i : Int))) rfl) (od_ixL (.inl rfl) (t3_at (by omega) (by omega)))) ev_int (od_ixT rfl)) (ev_op (ev_op (ev_var (r := .dat (strD L)) rfl) (ev_op (ev_var (r := rint (1 + (i : Int))) rfl) ev_int od_int) (od_ixL (.inl rfl) (t3_at (by omega) (by omega)))) ev_int (od_ixT rfl)) od_bool)) (by
        rw [show (1 + (i : Int)).toNat = i + 1 by omega, show (1 + (i : Int) - 1).toNat = i by omega]
        exact decide_eq_false (by omega))) (fun hc => by cases hc) ?_
      intro _ F As σ H S
      refine s_next S ?_
      intro F As σ H S
      exact s_end S ⟨rfl, _, rfl⟩ (Ele.refl _)
    case d2 =>
    rintro M E ⟨rfl, x9, rfl⟩ F As σ H S
    refine' q_forR2 S (a := 1) (n := (L.length : Int)) (ea_cons ev_int (ea_cons (ev_is (ev_cb (ea_cons (ev_var (r := .dat (strD L)) rfl) ea_nil) (cd_len (ds := L.map t3D) (.inl rfl))) (by rw [List.length_map])) ea_nil)) ⟨by omega, by omega, by omega, by omega⟩ (fun i M E => M = [] ∧ ∃ x9, E = [some (rint t), some (rint pl), some (.dat (pairsD cs)), some (rint w), some (.dat (clmD w L)), some (rint w), some (.dat (strD L)), x6, x7, x8, x9, none]) ⟨rfl, _, rfl⟩ ?b3 ?d3
    case b3 =>
      rintro i M E hi ⟨rfl, x9, rfl⟩ F As σ H S
      obtain ⟨l1, l2⟩ := link_at (L := L) (i := i) hs.link (by omega)
      try simp only [List.set_cons_zero, List.set_cons_succ] at S
      refine s_if S (b := false) (et_is (et_test (ev_op (ev_op (ev_op (ev_var (r := .dat (strD L)) rfl) (ev_var (r := rint (1 + (i : Int))) rfl) (od_ixL (.inl rfl) (t3_at (by omega) (by omega)))) ev_int (od_ixT rfl)) (ev_op (ev_op (ev_op (ev_var (r := .dat (strD L)) rfl) (ev_op (ev_var (r := rint (1 + (i : Int))) rfl) ev_int od_int) (od_ixL (.inl rfl) (t3_at (by omega) (by omega)))) ev_int (od_ixT rfl)) ev_int od_int) od_neI)) (by
        rw [show (1 + (i : Int)).toNat = i + 1 by omega, show (1 + (i : Int) - 1).toNat = i by omega, l2]
        simp)) (fun hc => by cases hc) ?_
      intro _ F As σ H S
      refine s_next S ?_
      intro F As σ H S
      exact s_end S ⟨rfl, _, rfl⟩ (Ele.refl _)
    case d3 =>
    rintro M E ⟨rfl, x9, rfl⟩ F As σ H S
    refine q_if S (b := false) (et_is (et_or (b := false) (c := false) (et_is (et_test (ev_op (ev_var (r := rint w) rfl) (ev_cb (ea_cons (ev_lcDI (ds := L.map t3D) (fun i => wsum pl cs (L.getD i (0, 0, 0))) (ev_var (r := .dat (strD L)) rfl) (by rw [List.length_map]; omega) fun i d hi => ?_) ea_nil) (cd_sum (.inl rfl))) od_neI)) ?_) (fun _ => et_is (et_test (ev_op (ev_var (r := rint w) rfl) (ev_var (r := rint w) rfl) od_neI)) (by simp))) rfl) (fun hc => by cases hc) ?_
    · obtain ⟨s, hs1, rfl⟩ := t3_of hi
      rw [List.getD_eq_getElem?_getD, hs1]
      exact ev_call0 (ea_cons (ev_var (r := rint pl) rfl) (ea_cons (ev_var (r := .dat (pairsD cs)) rfl) (ea_cons (ev_var (r := .dat (t3D s)) rfl) ea_nil))) (by intro z; cases z) ⟨t, pl, cs, s, rfl, rfl, h4, hs.form s (List.mem_of_getElem? hs1), rfl, rfl⟩
    · rw [List.length_map, arr_map, hw]
      simp [wall]
    intro _ F As σ H S
    refine s_next S ?_
    intro F As σ H S
    try dsimp only
    refine s_ret S (r := .dat .non) (M' := []) ev_non ?_
    intro v F As σ H S r
    exact post _ _ _ _ _ _ _ S rfl r
def ph_lhits : List MC → List Rv → List MC → Out → Prop := fun M rs M' o => ∃ t c, M = [] ∧ rs = [rint t, .dat (pairD c)] ∧ (1 ≤ t ∧ t ≤ 60) ∧ M' = [] ∧ o = .ret (.lst ((ag t c).map D.int))
abbrev sp__law_hits (K : PySem.W.Frag) : Sp := FSp K ph_lhits
theorem ok__law_hits {P : Program} {w : World} {K : PySem.W.Frag} {mg : Str → Option Value} {base : Heap} {ad : Ad} {fd : Fd} (T : Txt K mg w ad fd) : FnOk P w K mg base CX0 1 ad.a__law_hits fd.d__law_hits ["top", "beat"] (sp__law_hits K) := by
  refine L2.Fun.ok (k := 0) T.F__law_hits sc__law_hits (fun vs H Q E h => ?_) (fun cdv A outer s H vs Q E hr h => ?_)
  · exact h.len fun M rs M' o ⟨_, _, _, e, _⟩ => by rw [e]; rfl
  · refine ⟨_, (pss_one (ps_ret (pe_lc rfl sc__law_hits.nd (pi_range2 (by rfl) T.n_range (pa_cons (pe_int) (pa_cons (pe_op op_add (pv 0) (pe_int)) pa_nil))) (blkOk_by (own := [("e", 2)]) (N := N__law_hits) (sc := defScope s__law_hits) (by decide +kernel)) (fun _ _ _ _ _ => (pg_name (i := 2) sc__law_hits.nd rfl (by first | exact Or.inl rfl | exact Or.inr rfl))) (fun _ _ _ _ _ => pts_nil) (fun _ _ _ _ _ => (pe_op op_add (pe_ifExp (pt_cmpR op_lt (pe_ix (ix_tupK (K := K) rfl) (pv 1) (pe_int) (fun _ _ => rfl)) (pv 2) (nomark _)) (pe_int) (pe_int)) (pe_ifExp (pt_cmpR op_ge (pe_ix (ix_tupK (K := K) rfl) (pv 1) (pe_int) (fun _ _ => rfl)) (pv 2) (nomark _)) (pe_int) (pe_int))))))), ?_⟩
    try dsimp only [cxOf, Cx.nox, Cx.wish, List.map]
    refine h.reading fun F As M rs M' o hΦ hL B S hB hA post => ?_
    obtain ⟨t, c, rfl, rfl, ⟨h1, h2⟩, rfl, rfl⟩ := hΦ
    dsimp only at post
    refine s_ret S (r := rints (ag t c)) (M' := []) (ev_is (ev_lcR2AI (a := 1) (n := t + 1) (fun k => hit 0 c ((k : Int) + 1) + 1) (ea_cons ev_int (ea_cons (ev_op (ev_var (r := rint t) rfl) ev_int od_int) ea_nil)) ⟨by omega, by omega, by omega, by omega⟩ fun k hk => ?_) ?_) ?_
    · rw [show (1 : Int) + (k : Int) = (k : Int) + 1 by omega, ← hit_add]
      refine' ev_is ?h ?e
      case' h => repeat' wtm_at "ev"
      case e => simp only [decide_eq_true_eq]
    · rw [show (t + 1 - 1).toNat = t.toNat by omega]; rfl
    · intro v F As σ H S rv
      exact post _ _ _ _ _ _ _ S rfl rv
def ph_lnex : List MC → List Rv → List MC → Out → Prop := fun M rs M' o => ∃ t cs i c, M = [] ∧ rs = [rints (XR t cs i), .dat (pairD c)] ∧ (1 ≤ t ∧ t ≤ 60) ∧ cs[i]? = some c ∧ M' = [] ∧ o = .ret (.lst ((XR t cs (i + 1)).map D.int))
abbrev sp__law_next_excess (K : PySem.W.Frag) : Sp := FSp K ph_lnex
theorem ok__law_next_excess {P : Program} {w : World} {K : PySem.W.Frag} {mg : Str → Option Value} {base : Heap} {ad : Ad} {fd : Fd} (T : Txt K mg w ad fd) : FnOk P w K mg base CX0 2 ad.a__law_next_excess fd.d__law_next_excess ["excess", "beat"] (sp__law_next_excess K) := by
  have G__law_hits := ok__law_hits (P := P) (base := base) T
  have b__law_hits := T.F__law_hits.binds (ps := ["top", "beat"]) fun _ _ _ _ _ _ us hl => match us, hl with | [_, _], _ => rfl
  refine L2.Fun.ok (k := 1) T.F__law_next_excess sc__law_next_excess (fun vs H Q E h => ?_) (fun cdv A outer s H vs Q E hr h => ?_)
  · exact h.len fun M rs M' o ⟨_, _, _, _, _, e, _⟩ => by rw [e]; rfl
  · refine ⟨_, (pss_cons (ps_set (i := 2) sc__law_next_excess.nd rfl (by first | exact Or.inl rfl | exact Or.inr rfl) (pe_call G__law_hits (hr.mono (by first | decide | omega)) rfl T.g__law_hits T.F__law_hits.kp b__law_hits .nil pass0 (pa_cons (pe_callB (call_lenK (K := K) rfl) (by rfl) T.n_len (by decide +kernel) (pa_cons (pv 0) pa_nil)) (pa_cons (pv 1) pa_nil))))
  (pss_one (ps_ret (pe_lc rfl sc__law_next_excess.nd (pi_range1 (by rfl) T.n_range (pa_cons (pe_callB (call_lenK (K := K) rfl) (by rfl) T.n_len (by decide +kernel) (pa_cons (pv 0) pa_nil)) pa_nil)) (blkOk_by (own := [("at", 3)]) (N := N__law_next_excess) (sc := defScope s__law_next_excess) (by decide +kernel)) (fun _ _ _ _ _ => (pg_name (i := 3) sc__law_next_excess.nd rfl (by first | exact Or.inl rfl | exact Or.inr rfl))) (fun _ _ _ _ _ => pts_nil) (fun _ _ _ _ _ => (pe_callB (call_max2 rfl) (by rfl) T.n_max (by decide +kernel) (pa_cons (pe_int) (pa_cons (pe_op op_sub (pe_op op_add (pe_ix (ix_listK (K := K) rfl) (pv 0) (pv 3) (fun _ _ => rfl)) (pe_ix (ix_listK (K := K) rfl) (pv 2) (pv 3) (fun _ _ => rfl))) (pe_int)) pa_nil)))))))), ?_⟩
    try dsimp only [cxOf, Cx.nox, Cx.wish, List.map]
    refine h.reading fun F As M rs M' o hΦ hL B S hB hA post => ?_
    obtain ⟨t, cs, i, c, rfl, rfl, ⟨h1, h2⟩, hc, rfl, rfl⟩ := hΦ
    dsimp only at post
    have el : (((XR t cs i).length : Nat) : Int) = t := by rw [XR_len]; omega
    have vl : ∀ {E : List (Option Rv)}, E[0]? = some (some (rints (XR t cs i))) → EvD K (tCB (fun xs H Q => ∃ p ys, xs = [V.ref p] ∧ (SqL K H p ys ∨ SqT K H p ys) ∧ Q (V.int (ys.length : Nat)) H) (tCons (tVar 0) tNil)) [] E [] (rint t) := fun {E} z => ev_is (ev_cb (ea_cons (ev_var z) ea_nil) (cd_lenI (.inl rfl))) (by rw [el])
    refine q_set S (r := rints (ag t c)) (M' := []) (ev_call0 (ea_cons (vl rfl) (ea_cons (ev_var (r := .dat (pairD c)) rfl) ea_nil)) (by intro z; cases z) ⟨_, _, rfl, rfl, ⟨h1, h2⟩, rfl, rfl⟩) ?_
    intro F As σ H S
    refine s_ret S (r := rints (XR t cs (i + 1))) (M' := []) (ev_lcRAI (n := t) (fun k => X0 cs (i + 1) ((k : Int) + 1)) (ea_cons (vl rfl) ea_nil) ⟨by omega, by omega⟩ fun k hk => ?_) ?_
    · refine ev_is (ev_cb (ea_cons ev_int (ea_cons (ev_op (ev_op (ev_op (ev_var (r := rints (XR t cs i)) rfl) (ev_var (r := rint (k : Int)) rfl) (od_ixI (.inl rfl) (by omega) (by omega))) (ev_op (ev_var (r := rints (ag t c)) rfl) (ev_var (r := rint (k : Int)) rfl) (od_ixI (.inl rfl) (by omega) (by rw [ag_len]; omega))) od_int) ev_int od_int) ea_nil)) cd_max2) ?_
      rw [XR_at (by omega), ag_at (by omega), X0_max hc]
    · intro v F As σ H S rv
      exact post _ _ _ _ _ _ _ S rfl rv
def xrD (t : Int) (cs : List Beat) (a n : Nat) : List D := (List.range n).map fun k => D.lst ((XR t cs (a + k)).map D.int)
theorem xrD_succ {t : Int} {cs : List Beat} {a n : Nat} : xrD t cs a (n + 1) = xrD t cs a n ++ [D.lst ((XR t cs (a + n)).map D.int)] := by
  unfold xrD
  rw [List.range_succ, List.map_append]; rfl
theorem xrD_cons {t : Int} {cs : List Beat} {a n : Nat} : D.lst ((XR t cs a).map D.int) :: xrD t cs (a + 1) n = xrD t cs a (n + 1) := by
  unfold xrD
  rw [List.range_succ_eq_map, List.map_cons, List.map_map]
  congr 1
  refine List.map_congr_left fun k _ => ?_
  show D.lst ((XR t cs (a + 1 + k)).map D.int) = D.lst ((XR t cs (a + (k + 1))).map D.int)
  rw [show a + 1 + k = a + (k + 1) by omega]
theorem xrD_len {t : Int} {cs : List Beat} {a n : Nat} : (xrD t cs a n).length = n := by unfold xrD; rw [List.length_map, List.length_range]
def ph_lexs : List MC → List Rv → List MC → Out → Prop := fun M rs M' o => ∃ t cs, M = [] ∧ rs = [rint t, .dat (pairsD cs)] ∧ (1 ≤ t ∧ t ≤ 60) ∧ cs.length ≤ 1000 ∧ M' = [] ∧ o = .ret (.lst (xrD t cs 1 cs.length))
abbrev sp__law_excesses (K : PySem.W.Frag) : Sp := FSp K ph_lexs
theorem ok__law_excesses {P : Program} {w : World} {K : PySem.W.Frag} {mg : Str → Option Value} {base : Heap} {ad : Ad} {fd : Fd} (T : Txt K mg w ad fd) : FnOk P w K mg base CX0 3 ad.a__law_excesses fd.d__law_excesses ["top", "course"] (sp__law_excesses K) := by
  have G__law_next_excess := ok__law_next_excess (P := P) (base := base) T
  have b__law_next_excess := T.F__law_next_excess.binds (ps := ["excess", "beat"]) fun _ _ _ _ _ _ us hl => match us, hl with | [_, _], _ => rfl
  refine L2.Fun.ok (k := 2) T.F__law_excesses sc__law_excesses (fun vs H Q E h => ?_) (fun cdv A outer s H vs Q E hr h => ?_)
  · exact h.len fun M rs M' o ⟨_, _, _, e, _⟩ => by rw [e]; rfl
  · refine ⟨_, (pss_cons (ps_set (i := 2) sc__law_excesses.nd rfl (by first | exact Or.inl rfl | exact Or.inr rfl) (pe_op op_rep (pe_lst (pa_cons (pe_int) pa_nil)) (pv 0)))
  (pss_cons (ps_set (i := 3) sc__law_excesses.nd rfl (by first | exact Or.inl rfl | exact Or.inr rfl) (pe_lst pa_nil))
  (pss_cons (ps_for PassesOwn.never rfl (pi_listK (K := K) rfl (pv 1)) (pg_name (i := 4) sc__law_excesses.nd rfl (by first | exact Or.inl rfl | exact Or.inr rfl))
  (pss_cons (ps_set (i := 2) sc__law_excesses.nd rfl (by first | exact Or.inl rfl | exact Or.inr rfl) (pe_call G__law_next_excess (hr.mono (by first | decide | omega)) rfl T.g__law_next_excess T.F__law_next_excess.kp b__law_next_excess .nil pass0 (pa_cons (pv 2) (pa_cons (pv 4) pa_nil))))
  (pss_one (ps_expr (pe_bmK (K := K) (id := "list.append") rfl (pe_bm PySem.F.plainAttrs_list PySem.F.slot_list_append PySem.F.type_list_append mt_append (pv 3) (pa_cons (pv 2) pa_nil)))))))
  (pss_one (ps_ret (pv 3)))))), ?_⟩
    try dsimp only [cxOf, Cx.nox, Cx.wish, List.map]
    refine h.reading fun F As M rs M' o hΦ hL B S hB hA post => ?_
    obtain ⟨t, cs, rfl, rfl, ⟨h1, h2⟩, h3, rfl, rfl⟩ := hΦ
    dsimp only at post
    refine q_set S (r := rints (XR t cs 0)) (M' := []) (ev_is (ev_op (ev_lst (ds := [D.int 0]) (ea_cons ev_int ea_nil) rfl (Nat.le_of_ble_eq_true rfl)) (ev_var (r := rint t) rfl) (od_rep (ds := [D.int 0]) (.inl rfl) ⟨by omega, by omega⟩ (by show 1 * _ ≤ _; omega))) (by rw [flat_rep, XR_zero, rints, List.map_replicate])) ?_
    intro F As σ H S
    refine q_set S (ev_lstM (ds := []) ea_nil rfl (Nat.zero_le _)) ?_
    intro F As σ H S
    refine' q_forL S (ds := cs.map pairD) (ev_var (r := .dat (pairsD cs)) rfl) (fun i M E => M = [.lst (xrD t cs 1 i)] ∧ ∃ x, E = [some (rint t), some (.dat (pairsD cs)), some (rints (XR t cs i)), some (.cel 0), x]) ⟨rfl, _, rfl⟩ ?hb ?hd
    case hd =>
      rintro M E ⟨rfl, x, rfl⟩ F As σ H S
      rw [List.length_map] at S
      exact s_retF S hB (ev_var rfl) rfl rfl (by rw [hA]; exact Nat.zero_le _) fun v F As σ E H S r => post _ _ _ _ _ _ _ S rfl r
    case hb =>
      rintro B2 cv i d M E hn ⟨rfl, x, rfl⟩ F As σ H S
      obtain ⟨c, hc, rfl⟩ := pair_of hn
      have hi := (List.getElem?_eq_some_iff.mp hc).1
      try simp only [List.set_cons_zero, List.set_cons_succ] at S
      refine q_set S (r := rints (XR t cs (i + 1))) (M' := [.lst (xrD t cs 1 i)]) (ev_call0 (ea_cons (ev_var (r := rints (XR t cs i)) rfl) (ea_cons (ev_var (r := .dat (pairD c)) rfl) ea_nil)) (by intro z; cases z) ⟨t, cs, i, c, rfl, rfl, ⟨h1, h2⟩, hc, rfl, rfl⟩) ?_
      intro F As σ H S
      refine s_app (ds := xrD t cs 1 i) S (ev_var (r := .cel 0) rfl) (ev_var (r := rints (XR t cs (i + 1))) rfl) rfl rfl (by rw [xrD_len]; omega) ?_
      intro F As σ H S
      refine s_end S ⟨?_, _, rfl⟩ (Ele.refl _)
      rw [xrD_succ, show 1 + i = i + 1 by omega]; rfl
theorem PK_mem {cs : List Beat} {e : Int} : ∀ n : Nat, ∃ j, j ≤ n ∧ PK cs n e = X0 cs j e
  | 0 => ⟨0, Nat.le_refl _, rfl⟩
  | n + 1 => by
    obtain ⟨j, hj, e1⟩ := PK_mem (cs := cs) (e := e) n
    rw [PK_succ]
    split
    · exact ⟨n + 1, Nat.le_refl _, rfl⟩
    · exact ⟨j, by omega, e1⟩
theorem mxI_PK {cs : List Beat} {e : Int} {n : Nat} : mxI (arr (n + 1) fun i => X0 cs i e) = PK cs n e := by
  refine Int.le_antisymm ?_ ?_
  · have ne : (arr (n + 1) fun i => X0 cs i e) ≠ [] := by
      intro z
      have := congrArg List.length z
      rw [arr_len] at this
      cases this
    obtain ⟨k, hk, e1⟩ := arr_mem.mp (mxI_mem ne)
    rw [← e1]
    exact PK_ge k (by omega)
  · obtain ⟨j, hj, e1⟩ := PK_mem (cs := cs) (e := e) n
    rw [e1]
    exact mxI_ge (arr_mem.mpr ⟨j, by omega, rfl⟩)
def ph_lpk : List MC → List Rv → List MC → Out → Prop := fun M rs M' o => ∃ t cs, M = [] ∧ rs = [rint t, .dat (pairsD cs)] ∧ (1 ≤ t ∧ t ≤ 60) ∧ cs.length ≤ 1000 ∧ M' = [] ∧ o = .ret (.lst ((PR t cs cs.length).map D.int))
abbrev sp__law_peaks (K : PySem.W.Frag) : Sp := FSp K ph_lpk
theorem ok__law_peaks {P : Program} {w : World} {K : PySem.W.Frag} {mg : Str → Option Value} {base : Heap} {ad : Ad} {fd : Fd} (T : Txt K mg w ad fd) : FnOk P w K mg base CX0 4 ad.a__law_peaks fd.d__law_peaks ["top", "course"] (sp__law_peaks K) := by
  have G__law_excesses := ok__law_excesses (P := P) (base := base) T
  have b__law_excesses := T.F__law_excesses.binds (ps := ["top", "course"]) fun _ _ _ _ _ _ us hl => match us, hl with | [_, _], _ => rfl
  refine L2.Fun.ok (k := 3) T.F__law_peaks sc__law_peaks (fun vs H Q E h => ?_) (fun cdv A outer s H vs Q E hr h => ?_)
  · exact h.len fun M rs M' o ⟨_, _, _, e, _⟩ => by rw [e]; rfl
  · refine ⟨_, (pss_cons (ps_set (i := 2) sc__law_peaks.nd rfl (by first | exact Or.inl rfl | exact Or.inr rfl) (pe_op op_cat (pe_lst (pa_cons (pe_op op_rep (pe_lst (pa_cons (pe_int) pa_nil)) (pv 0)) pa_nil)) (pe_call G__law_excesses (hr.mono (by first | decide | omega)) rfl T.g__law_excesses T.F__law_excesses.kp b__law_excesses .nil pass0 (pa_cons (pv 0) (pa_cons (pv 1) pa_nil)))))
  (pss_one (ps_ret (pe_lc rfl sc__law_peaks.nd (pi_range1 (by rfl) T.n_range (pa_cons (pv 0) pa_nil)) (blkOk_by (own := [("at", 4)]) (N := N__law_peaks) (sc := defScope s__law_peaks) (by decide +kernel)) (fun _ _ _ _ _ => (pg_name (i := 4) sc__law_peaks.nd rfl (by first | exact Or.inl rfl | exact Or.inr rfl))) (fun _ _ _ _ _ => pts_nil) (fun _ _ _ _ _ => (pe_callB (cr_maxK (K := K) rfl rfl) (by rfl) T.n_max (by decide +kernel) (pa_cons (pe_lc rfl sc__law_peaks.nd (pi_listK (K := K) rfl (pv 2)) (by exact blkOk_by (own := [("row", 3)]) (N := N__law_peaks) (Eq.refl true)) (fun _ _ _ _ _ => (pg_name (i := 3) sc__law_peaks.nd rfl (by first | exact Or.inl rfl | exact Or.inr rfl))) (fun _ _ _ _ _ => pts_nil) (fun _ _ _ _ _ => (pe_ix (ix_listK (K := K) rfl) (pv 3) (pv 4) (fun _ _ => rfl)))) pa_nil))))))), ?_⟩
    try dsimp only [cxOf, Cx.nox, Cx.wish, List.map]
    refine h.reading fun F As M rs M' o hΦ hL B S hB hA post => ?_
    obtain ⟨t, cs, rfl, rfl, ⟨h1, h2⟩, h3, rfl, rfl⟩ := hΦ
    dsimp only at post
    refine q_set S (r := .dat (.lst (xrD t cs 0 (cs.length + 1)))) (M' := []) (ev_is (ev_op (ev_lst (ds := [D.lst ((XR t cs 0).map D.int)]) (ea_cons (ev_is (ev_op (ev_lst (ds := [D.int 0]) (ea_cons ev_int ea_nil) rfl (Nat.le_of_ble_eq_true rfl)) (ev_var (r := rint t) rfl) (od_rep (ds := [D.int 0]) (.inl rfl) ⟨by omega, by omega⟩ (by show 1 * _ ≤ _; omega))) (r' := rints (XR t cs 0)) (by rw [flat_rep, XR_zero, rints, List.map_replicate])) ea_nil) rfl (Nat.le_of_ble_eq_true rfl)) (ev_call0 (ea_cons (ev_var (r := rint t) rfl) (ea_cons (ev_var (r := .dat (pairsD cs)) rfl) ea_nil)) (by intro z; cases z) ⟨t, cs, rfl, rfl, ⟨h1, h2⟩, h3, rfl, rfl⟩) (od_cat (ds := [D.lst ((XR t cs 0).map D.int)]) (es := xrD t cs 1 cs.length) (.inl rfl) (.inl rfl) (by rw [xrD_len]; show 1 + _ ≤ _; omega))) (by
      rw [← xrD_cons]; rfl)) ?_
    intro F As σ H S
    refine s_ret S (r := rints (PR t cs cs.length)) (M' := []) (ev_lcRAI (n := t) (fun k => PK cs cs.length ((k : Int) + 1)) (ea_cons (ev_var (r := rint t) rfl) ea_nil) ⟨by omega, by omega⟩ fun k hk => ?_) ?_
    · refine ev_is (ev_cb (ea_cons (ev_lcDI (ds := xrD t cs 0 (cs.length + 1)) (fun i => X0 cs i ((k : Int) + 1)) (ev_var (r := .dat (.lst (xrD t cs 0 (cs.length + 1)))) rfl) (by rw [xrD_len]; omega) fun i d hi => ?_) ea_nil) (cd_max (.inl rfl) (by rw [arr_len, xrD_len]; omega))) (by rw [xrD_len, mxI_PK])
      have hil := (List.getElem?_eq_some_iff.mp hi).1
      rw [xrD_len] at hil
      unfold xrD at hi
      rw [List.getElem?_map, List.getElem?_range hil] at hi
      have hi : D.lst ((XR t cs (0 + i)).map D.int) = d := Option.some.inj hi
      rw [Nat.zero_add] at hi
      subst hi
      refine ev_is (ev_op (ev_var (r := rints (XR t cs i)) rfl) (ev_var (r := rint (k : Int)) rfl) (od_ixI (.inl rfl) (by omega) (by rw [XR_len]; omega))) ?_
      rw [XR_at (by omega)]
    · intro v F As σ H S rv
      exact post _ _ _ _ _ _ _ S rfl rv
end K78
set_option Elab.async false
set_option linter.all false
set_option maxRecDepth 100000
set_option maxHeartbeats 4000000
namespace K78
open PySem L2 DL
/-! ### the steps: one rule an expression, by its reading's head -/
local macro_rules | `(tactic| wtm_at "ev") => `(tactic| first
  | exact ev_var rfl
  | exact ev_int
  | exact ev_non
  | exact ev_bl
  | exact ev_str
  | exact ea_nil
  | with_reducible apply ea_cons
  | ((with_reducible refine' ev_isi ?a ?b ?c); (case' a => repeat' wtm_at "ev"); (case' b => exact rfl); (case' c => exact rfl))
  | with_reducible apply ev_cb
  | with_reducible apply ev_op
  | with_reducible apply ev_un
  | with_reducible apply et_test
  | with_reducible apply et_B
  | with_reducible apply et_not
  | with_reducible apply ev_isN
  | with_reducible apply ev_notN
  | with_reducible apply ev_notV
  | with_reducible apply et_and
  | with_reducible apply et_or
  | with_reducible apply ev_andV
  | with_reducible apply ev_orV
  | with_reducible apply ev_ifI
  | with_reducible apply ev_ifD
  | ((with_reducible refine' ev_dnotin ?a ?b ?c ?d); (case' a => repeat' wtm_at "ev"); (case' b => repeat' wtm_at "ev"); (case' c => exact rfl); (case' d => first | exact .inl rfl | exact .inr ⟨_, rfl, rfl⟩))
  | ((with_reducible refine' ev_din ?a ?b ?c ?d); (case' a => repeat' wtm_at "ev"); (case' b => repeat' wtm_at "ev"); (case' c => exact rfl); (case' d => first | exact .inl rfl | exact .inr ⟨_, rfl, rfl⟩))
  | with_reducible apply ev_lcLAI
  | with_reducible apply ev_lcLII
  | with_reducible apply ev_lcLA
  | with_reducible apply ev_lcLI
  | with_reducible apply ev_lcRAI
  | with_reducible apply ev_lcRI
  | with_reducible apply ev_lcRA
  | with_reducible apply ev_lcR
  | exact et_yes
  | with_reducible intro _
  | exact od_int
  | exact od_bool
  | exact od_eqI
  | exact od_neI
  | exact od_eqS
  | exact od_neS
  | exact ud_neg
  | exact cd_abs
  | exact cd_max2
  | exact cd_min2
  | exact cd_int
  | exact cd_intB
  | exact cd_lenScr
  | exact cd_lenT
  | exact cd_lenI (.inl rfl)
  | exact cd_lenI (.inr ⟨_, rfl, rfl⟩)
  | exact cd_len (.inl rfl)
  | exact cd_len (.inr ⟨_, rfl, rfl⟩)
  | exact cd_lenD (.inl rfl)
  | exact cd_lenD (.inr ⟨_, rfl, rfl⟩)
  | exact cd_sum (.inl rfl)
  | exact cd_sorted (.inl rfl)
  | exact cd_list (.inl rfl)
  | exact cd_listT
  | exact eo_none
  | with_reducible apply eo_some
  | with_reducible apply ev_sliceScr
  | refine' ev_sliceI ?_ ?_ ?_ (.inl rfl)
  | with_reducible apply od_intC
  | with_reducible apply od_ixScr
  | refine' od_ixI (.inl rfl) ?_ ?_
  | refine' od_ixI (.inr ⟨_, rfl, rfl⟩) ?_ ?_
  | exact od_ixT rfl
  | exact od_inI (.inl rfl)
  | exact od_notinI (.inl rfl)
  | refine' od_cat (.inl rfl) (.inl rfl) ?_
  | ((with_reducible refine' ev_tup ?h ?r ?l); (case' h => repeat' wtm_at "ev"); (case' r => exact rfl); (case' l => exact Nat.le_of_ble_eq_true rfl))
  | (refine (show CMul _ _ from .inl ⟨?_, ?_⟩) <;> decide)
  | (refine (show CMul _ _ from .inr ⟨?_, ?_⟩) <;> decide)
  | (refine (show (_ : Prop) from ?_); assumption)
  | (refine (show CDiv _ _ from ⟨?_, ?_⟩) <;> omega)
  | (refine (show CPow _ _ from ⟨?_, ?_, ?_⟩) <;> decide)
  | omega
  | (simp only [Pz.len]; done)
  | (simp only [Pz.len, List.length_map, List.length_append, List.length_range, List.length_set, List.length_reverse]; omega))
/-! a statement's step: its values are reckoned, what is left is the way on -/
local macro_rules | `(tactic| wtm_at "st") => `(tactic| first
  | (refine' q_set (by assumption) ?h ?k; (case' h => repeat' wtm_at "ev"); (case' k => (intro _ _ _ _ _; try dsimp only)))
  | (refine' s_set (by assumption) ?h ?k; (case' h => repeat' wtm_at "ev"); (case' k => (intro _ _ _ _ _; try dsimp only)))
  | (refine' q_augS (by assumption) ?h1 ?h2 ?h3 ?r1 ?r2 ?s1 ?s2 ?k; (case' h1 => repeat' wtm_at "ev"); (case' h2 => repeat' wtm_at "ev"); (case' h3 => repeat' wtm_at "ev"); (case' r1 => exact rfl); (case' r2 => exact rfl); (case' s1 => try wtm_at "ev"); (case' s2 => try wtm_at "ev"); (case' k => (intro _ _ _ _ _; try dsimp only)))
  | (refine' s_augS (by assumption) ?h1 ?h2 ?h3 ?r1 ?r2 ?s1 ?s2 ?k; (case' h1 => repeat' wtm_at "ev"); (case' h2 => repeat' wtm_at "ev"); (case' h3 => repeat' wtm_at "ev"); (case' r1 => exact rfl); (case' r2 => exact rfl); (case' s1 => try wtm_at "ev"); (case' s2 => try wtm_at "ev"); (case' k => (intro _ _ _ _ _; try dsimp only)))
  | (refine' q_setLI (by assumption) ?h ?h1 ?h2 ?r1 ?s1 ?s2 ?k; (case' h => repeat' wtm_at "ev"); (case' h1 => repeat' wtm_at "ev"); (case' h2 => repeat' wtm_at "ev"); (case' r1 => exact rfl); (case' s1 => try wtm_at "ev"); (case' s2 => try wtm_at "ev"); (case' k => (intro _ _ _ _ _; try dsimp only)))
  | (refine' q_setL (by assumption) ?h ?h1 ?h2 ?r1 ?s1 ?s2 ?k; (case' h => repeat' wtm_at "ev"); (case' h1 => repeat' wtm_at "ev"); (case' h2 => repeat' wtm_at "ev"); (case' r1 => exact rfl); (case' s1 => try wtm_at "ev"); (case' s2 => try wtm_at "ev"); (case' k => (intro _ _ _ _ _; try dsimp only)))
  | (refine' s_setLI (by assumption) ?h ?h1 ?h2 ?r1 ?s1 ?s2 ?k; (case' h => repeat' wtm_at "ev"); (case' h1 => repeat' wtm_at "ev"); (case' h2 => repeat' wtm_at "ev"); (case' r1 => exact rfl); (case' s1 => try wtm_at "ev"); (case' s2 => try wtm_at "ev"); (case' k => (intro _ _ _ _ _; try dsimp only)))
  | (refine' s_setL (by assumption) ?h ?h1 ?h2 ?r1 ?s1 ?s2 ?k; (case' h => repeat' wtm_at "ev"); (case' h1 => repeat' wtm_at "ev"); (case' h2 => repeat' wtm_at "ev"); (case' r1 => exact rfl); (case' s1 => try wtm_at "ev"); (case' s2 => try wtm_at "ev"); (case' k => (intro _ _ _ _ _; try dsimp only)))
  | (refine' q_appI (by assumption) ?h1 ?h ?r1 ?r2 ?s ?k; (case' h1 => repeat' wtm_at "ev"); (case' h => repeat' wtm_at "ev"); (case' r1 => exact rfl); (case' r2 => exact rfl); (case' s => try wtm_at "ev"); (case' k => (intro _ _ _ _ _; try dsimp only)))
  | (refine' q_app (by assumption) ?h1 ?h ?r1 ?r2 ?s ?k; (case' h1 => repeat' wtm_at "ev"); (case' h => repeat' wtm_at "ev"); (case' r1 => exact rfl); (case' r2 => exact rfl); (case' s => try wtm_at "ev"); (case' k => (intro _ _ _ _ _; try dsimp only)))
  | (refine' s_appI (by assumption) ?h1 ?h ?r1 ?r2 ?s ?k; (case' h1 => repeat' wtm_at "ev"); (case' h => repeat' wtm_at "ev"); (case' r1 => exact rfl); (case' r2 => exact rfl); (case' s => try wtm_at "ev"); (case' k => (intro _ _ _ _ _; try dsimp only)))
  | (refine' s_app (by assumption) ?h1 ?h ?r1 ?r2 ?s ?k; (case' h1 => repeat' wtm_at "ev"); (case' h => repeat' wtm_at "ev"); (case' r1 => exact rfl); (case' r2 => exact rfl); (case' s => try wtm_at "ev"); (case' k => (intro _ _ _ _ _; try dsimp only)))
  | (refine' q_dput (by assumption) ?h ?h1 ?h2 ?r1 ?r2 ?s ?k; (case' h => repeat' wtm_at "ev"); (case' h1 => repeat' wtm_at "ev"); (case' h2 => repeat' wtm_at "ev"); (case' r1 => exact rfl); (case' r2 => exact rfl); (case' s => try wtm_at "ev"); (case' k => (intro _ _ _ _ _; try dsimp only)))
  | (refine' s_dput (by assumption) ?h ?h1 ?h2 ?r1 ?r2 ?s ?k; (case' h => repeat' wtm_at "ev"); (case' h1 => repeat' wtm_at "ev"); (case' h2 => repeat' wtm_at "ev"); (case' r1 => exact rfl); (case' r2 => exact rfl); (case' s => try wtm_at "ev"); (case' k => (intro _ _ _ _ _; try dsimp only)))
  | (refine' q_tup2 (by assumption) ?h ?k; (case' h => repeat' wtm_at "ev"); (case' k => (intro _ _ _ _ _; try dsimp only)))
  | (refine' q_drop (by assumption) ?h ?k; (case' h => repeat' wtm_at "ev"); (case' k => (intro _ _ _ _ _; try dsimp only)))
  | (refine' q_if (by assumption) ?h ?k1 ?k2; (case' h => repeat' wtm_at "ev"))
  | (refine' s_if (by assumption) ?h ?k1 ?k2; (case' h => repeat' wtm_at "ev"))
  | (refine' s_ret (by assumption) ?h ?k; (case' h => repeat' wtm_at "ev"); (case' k => (intro _ _ _ _ _ _ _; try dsimp only)))
  | (refine' q_ret (by assumption) ?h ?k; (case' h => repeat' wtm_at "ev"); (case' k => (intro _ _ _ _ _ _ _; try dsimp only)))
  | ((with_reducible refine' s_next (by assumption) ?k); (case' k => (intro _ _ _ _ _; try dsimp only)))
  | (with_reducible refine q_next ?_))

/-! ### the law's stair -/
def vR (f : Int → Int) (t : Int) (k : Nat) : List D := (List.range (t + 1).toNat).map fun (e : Nat) => if 1 ≤ e ∧ e ≤ k then D.int (f (e : Int)) else D.non
theorem vR_len {f : Int → Int} {t : Int} {k : Nat} : (vR f t k).length = (t + 1).toNat := by unfold vR; rw [List.length_map, List.length_range]
theorem vR_none {f : Int → Int} {t : Int} : vR f t 0 = List.replicate (t + 1).toNat D.non := by
  unfold vR
  refine List.eq_replicate_iff.mpr ⟨by rw [List.length_map, List.length_range], fun x hx => ?_⟩
  obtain ⟨k, hk, rfl⟩ := List.mem_map.mp hx
  rw [if_neg (by omega)]
theorem vR_at {f : Int → Int} {t : Int} {k e : Nat} (h : e < (t + 1).toNat) : (vR f t k)[e]? = some (if 1 ≤ e ∧ e ≤ k then D.int (f (e : Int)) else D.non) := by
  unfold vR
  rw [List.getElem?_map, List.getElem?_range h]; rfl
theorem vR_set {f : Int → Int} {t : Int} {k : Nat} : (vR f t k).set (k + 1) (D.int (f ((k : Int) + 1))) = vR f t (k + 1) := by
  refine List.ext_getElem? fun e => ?_
  rw [List.getElem?_set, vR_len]
  by_cases he : e < (t + 1).toNat
  · rw [vR_at he, vR_at he]
    by_cases c : k + 1 = e
    · rw [if_pos c, if_pos (by omega), if_pos (by omega), show (e : Int) = (k : Int) + 1 by omega]
    · rw [if_neg c]
      by_cases d : 1 ≤ e ∧ e ≤ k
      · rw [if_pos d, if_pos (by omega)]
      · rw [if_neg d, if_neg (by omega)]
  · rw [List.getElem?_eq_none (by rw [vR_len]; omega), List.getElem?_eq_none (by rw [vR_len]; omega)]
    split
    · rw [if_neg (by omega)]
    · rfl
theorem vR_drop {f : Int → Int} {t : Int} {e : Nat} (h1 : 1 ≤ e) : (vR f t t.toNat).drop e = (arr (t + 1 - (e : Int)).toNat fun j => f ((e : Int) + (j : Int))).map D.int := by
  refine List.ext_getElem? fun j => ?_
  rw [List.getElem?_drop, List.getElem?_map]
  unfold arr
  rw [List.getElem?_map]
  by_cases hj : e + j < (t + 1).toNat
  · rw [vR_at hj, List.getElem?_range (by omega), if_pos (by omega)]
    show some (D.int _) = some (D.int _)
    rw [show ((e + j : Nat) : Int) = (e : Int) + (j : Int) by omega]
  · rw [List.getElem?_eq_none (by rw [vR_len]; omega), List.getElem?_eq_none (by rw [List.length_range]; omega)]; rfl
theorem inS_mx {g : Int → Int} {a : Int} {f : T3} {t : Int} (ht : 0 ≤ t) (h0 : 0 ≤ f.1) : (inS g a f t.toNat).1 = if f.1 < mxU g t 1 then mxU g t 1 else f.1 := by
  obtain ⟨a1, a2, a3⟩ := inS_ok (g := g) (a := a) (f := f) t.toNat
  have u : mxU g t 1 ≤ (inS g a f t.toNat).1 := mxU_le.mpr ⟨by omega, fun e' b1 b2 => a2 e' b1 (by omega)⟩
  rcases a3 with a3 | ⟨e, b1, b2, b3, b4⟩
  · rw [a3] at u ⊢
    rw [if_neg (by omega)]
  · have l := mxU_ge (f := g) (t := t) b1 (show e ≤ t by omega)
    rw [b3] at u ⊢
    dsimp only at u ⊢
    rw [if_pos (by omega)]
    omega
theorem VV0_mx {t pl : Int} {cs : List Beat} {e : Int} : mxU (VV t pl cs 0) t e = 0 := Int.le_antisymm (mxU_le.mpr ⟨Int.le_refl _, fun e' _ _ => by show (-1 : Int) ≤ 0; omega⟩) mxU_nn
def nsB (t pl : Int) (cs : List Beat) (i : Nat) (e : Int) : List Int := if i = 0 then [] else arr (t + 1 - e).toNat fun j => VV t pl cs i (e + (j : Int))
theorem nsB_mx {t pl : Int} {cs : List Beat} {i : Nat} {e : Int} : mxI ([0] ++ nsB t pl cs i e) = mxU (VV t pl cs i) t e := by
  unfold nsB
  by_cases c : i = 0
  · subst c
    rw [if_pos rfl, VV0_mx]; rfl
  · rw [if_neg c]; rfl
def ph_lst (M : List MC) (rs : List Rv) (M' : List MC) (o : Out) : Prop := ∃ t pl cs, M = [] ∧ rs = [rint t, rint pl, .dat (pairsD cs)] ∧ (1 ≤ t ∧ t ≤ 60) ∧ cs.length ≤ 1000 ∧ M' = [] ∧ o = .ret (.int (worthV t pl cs))
abbrev sp__law_stair (K : PySem.W.Frag) : Sp := FSp K ph_lst
theorem ok__law_stair {P : Program} {w : World} {K : PySem.W.Frag} {mg : Str → Option Value} {base : Heap} {ad : Ad} {fd : Fd} (T : Txt K mg w ad fd) : FnOk P w K mg base CX0 1 ad.a__law_stair fd.d__law_stair ["top", "play", "course"] (sp__law_stair K) := by
  refine L2.Fun.ok (k := 0) T.F__law_stair sc__law_stair (fun vs H Q E h => ?_) (fun cdv A outer s H vs Q E hr h => ?_)
  · exact h.len fun M rs M' o ⟨_, _, _, _, e, _⟩ => by rw [e]; rfl
  · refine ⟨_, (pss_cons (ps_set (i := 3) sc__law_stair.nd rfl (by first | exact Or.inl rfl | exact Or.inr rfl) (pe_op op_rep (pe_lst (pa_cons (pe_non) pa_nil)) (pe_op op_add (pv 0) (pe_int))))
  (pss_cons (ps_set (i := 4) sc__law_stair.nd rfl (by first | exact Or.inl rfl | exact Or.inr rfl) (pe_int))
  (pss_cons (ps_for PassesOwn.never rfl (pi_listK (K := K) rfl (pv 2)) (pg_name (i := 5) sc__law_stair.nd rfl (by first | exact Or.inl rfl | exact Or.inr rfl))
  (pss_cons (ps_set (i := 6) sc__law_stair.nd rfl (by first | exact Or.inl rfl | exact Or.inr rfl) (pe_op op_rep (pe_lst (pa_cons (pe_non) pa_nil)) (pe_op op_add (pv 0) (pe_int))))
  (pss_cons (ps_for PassesOwn.never rfl (pi_range2 (by rfl) T.n_range (pa_cons (pe_int) (pa_cons (pe_op op_add (pv 0) (pe_int)) pa_nil))) (pg_name (i := 7) sc__law_stair.nd rfl (by first | exact Or.inl rfl | exact Or.inr rfl))
  (pss_cons (ps_set (i := 8) sc__law_stair.nd rfl (by first | exact Or.inl rfl | exact Or.inr rfl) (pe_op op_cat (pe_lst (pa_cons (pe_int) pa_nil)) (pe_lc rfl sc__law_stair.nd (pi_listK (K := K) rfl (pe_slice (sl_listK (K := K) rfl) (pv 3) (po_some (pv 7)) po_none)) (blkOk_by (own := [("one", 9)]) (N := N__law_stair) (sc := defScope s__law_stair) (by decide +kernel)) (fun _ _ _ _ _ => (pg_name (i := 9) sc__law_stair.nd rfl (by first | exact Or.inl rfl | exact Or.inr rfl))) (fun _ _ _ _ _ => (pts_one (pt_cmp (pc_notN (pv 9))))) (fun _ _ _ _ _ => (pv 9)))))
  (pss_cons (ps_set (i := 10) sc__law_stair.nd rfl (by first | exact Or.inl rfl | exact Or.inr rfl) (pe_op op_add (pe_ifExp (pt_cmpR op_lt (pe_op op_add (pe_ix (ix_tupK (K := K) rfl) (pv 5) (pe_int) (fun _ _ => rfl)) (pv 1)) (pv 7) (nomark _)) (pe_int) (pe_int)) (pe_ifExp (pt_cmpR op_ge (pe_ix (ix_tupK (K := K) rfl) (pv 5) (pe_int) (fun _ _ => rfl)) (pv 7) (nomark _)) (pe_int) (pe_int))))
  (pss_cons (ps_asg (pe_op op_sub (pe_op op_add (pe_callB (cr_maxK (K := K) rfl rfl) (by rfl) T.n_max (by decide +kernel) (pa_cons (pv 8) pa_nil)) (pv 10)) (pe_int)) (pg_sub (pv 6) (pv 7) set_list))
  (pss_one (ps_set (i := 4) sc__law_stair.nd rfl (by first | exact Or.inl rfl | exact Or.inr rfl) (pe_callB (call_max2 rfl) (by rfl) T.n_max (by decide +kernel) (pa_cons (pv 4) (pa_cons (pe_ix (ix_listK (K := K) rfl) (pv 6) (pv 7) (fun _ _ => rfl)) pa_nil)))))))))
  (pss_one (ps_set (i := 3) sc__law_stair.nd rfl (by first | exact Or.inl rfl | exact Or.inr rfl) (pv 6))))))
  (pss_one (ps_ret (pv 4)))))), ?_⟩
    try dsimp only [cxOf, Cx.nox, Cx.wish, List.map]
    refine h.reading fun F As M rs M' o hΦ hL B S hB hA post => ?_
    obtain ⟨t, pl, cs, rfl, rfl, ⟨h1, h2⟩, h3, rfl, rfl⟩ := hΦ
    dsimp only at post
    refine q_set S (r := .cel 0) (M' := [.lst (vR (VV t pl cs 0) t 0)]) (ev_isM (ev_op (ev_lst (ds := [D.non]) (ea_cons ev_non ea_nil) rfl (Nat.le_of_ble_eq_true rfl)) (ev_op (ev_var (r := rint t) rfl) ev_int od_int) (od_repM (ds := [D.non]) (.inl rfl) ⟨by omega, by omega⟩ (by show 1 * _ ≤ _; omega))) (by rw [flat_rep, vR_none]; rfl)) ?_
    intro F As σ H S
    refine q_set S (r := rint 0) ev_int ?_
    intro F As σ H S
    refine' q_forL S (ds := cs.map pairD) (ev_var (r := .dat (pairsD cs)) rfl) (fun i M E => M.length = i + 1 ∧ M[i]? = some (.lst (vR (VV t pl cs i) t (if i = 0 then 0 else t.toNat))) ∧ ∃ x5 x6 x7 x8 x9 x10, E = [some (rint t), some (rint pl), some (.dat (pairsD cs)), some (.cel i), some (rint (WW t pl cs i)), x5, x6, x7, x8, x9, x10]) ⟨rfl, rfl, _, _, _, _, _, _, rfl⟩ ?hb ?hd
    case hd =>
      rintro M E ⟨hl, hm, x5, x6, x7, x8, x9, x10, rfl⟩ F As σ H S
      rw [List.length_map, WW_all] at S
      refine s_ret S (ev_var rfl) ?_
      intro v F As σ H S r
      exact post _ _ _ _ _ _ _ S rfl r
    case hb =>
      rintro B2 cv i d M E hn ⟨hl, hm, x5, x6, x7, x8, x9, x10, rfl⟩ F As σ H S
      obtain ⟨c, hc, rfl⟩ := pair_of hn
      have hi := (List.getElem?_eq_some_iff.mp hc).1
      have gl : ∀ x : MC, (M ++ [x])[i + 1]? = some x := fun x => by rw [← hl]; exact get_last M x
      have sl : ∀ x y : MC, (M ++ [x]).set (i + 1) y = M ++ [y] := fun x y => by rw [← hl]; exact set_last M x y
      try simp only [List.set_cons_zero, List.set_cons_succ] at S
      refine q_set S (r := .cel (i + 1)) (M' := M ++ [.lst (vR (VV t pl cs (i + 1)) t 0)]) (ev_is (ev_isM (ev_op (ev_lst (ds := [D.non]) (ea_cons ev_non ea_nil) rfl (Nat.le_of_ble_eq_true rfl)) (ev_op (ev_var (r := rint t) rfl) ev_int od_int) (od_repM (ds := [D.non]) (.inl rfl) ⟨by omega, by omega⟩ (by show 1 * _ ≤ _; omega))) (by rw [flat_rep, vR_none])) (by rw [hl])) ?_
      intro F As σ H S
      try simp only [List.set_cons_zero, List.set_cons_succ] at S
      refine' q_forR2 S (a := 1) (n := t + 1) (ea_cons ev_int (ea_cons (ev_op (ev_var (r := rint t) rfl) ev_int od_int) ea_nil)) ⟨by omega, by omega, by omega, by omega⟩ (fun k M2 E => M2 = M ++ [.lst (vR (VV t pl cs (i + 1)) t k)] ∧ ∃ x7 x8 x9 x10, E = [some (rint t), some (rint pl), some (.dat (pairsD cs)), some (.cel i), some (rint (inS (VV t pl cs (i + 1)) 0 (WW t pl cs i, 0, 0) k).1), some (.dat (pairD c)), some (.cel (i + 1)), x7, x8, x9, x10]) ?u0 ?ub ?ud
      case u0 => exact ⟨rfl, x7, x8, x9, x10, rfl⟩
      case ud =>
        rintro M2 E ⟨rfl, x7, x8, x9, x10, rfl⟩ F As σ H S
        rw [show (t + 1 - 1).toNat = t.toNat by omega, inS_mx (by omega) WW_nn, ← WW_succ hc] at S
        refine s_set S (ev_var (r := .cel (i + 1)) rfl) ?_
        intro F As σ H S
        refine s_end S ⟨by rw [List.length_append, hl]; rfl, ?_, _, _, _, _, _, _, rfl⟩ (Ele.refl _)
        rw [if_neg (by omega)]
        exact gl _
      case ub =>
        rintro k M2 E hk ⟨rfl, x7, x8, x9, x10, rfl⟩ F As σ H S
        try simp only [List.set_cons_zero, List.set_cons_succ] at S
        have ek : (1 : Int) + (k : Int) = ((k + 1 : Nat) : Int) := by omega
        rw [ek] at S
        have hm' : (M ++ [MC.lst (vR (VV t pl cs (i + 1)) t k)])[i]? = some (.lst (vR (VV t pl cs i) t (if i = 0 then 0 else t.toNat))) := by
          rw [List.getElem?_append_left (by omega)]
          exact hm
        have src : ∀ {E : List (Option Rv)}, E[3]? = some (some (.cel i)) → E[7]? = some (some (rint ((k + 1 : Nat) : Int))) → EvD K (tSl (rSlL K) (tVar 3) (tPart (tVar 7)) tNoPart) (M ++ [MC.lst (vR (VV t pl cs (i + 1)) t k)]) E (M ++ [MC.lst (vR (VV t pl cs (i + 1)) t k)]) (.dat (.lst ((vR (VV t pl cs i) t (if i = 0 then 0 else t.toNat)).drop (k + 1)))) := fun {E} a b => ev_is (ev_slice (ev_var a) (eo_some (ev_var b)) eo_none (.inr ⟨i, rfl, hm'⟩)) (by rw [cut_drop (by rw [vR_len]; omega)])
        refine q_set S (r := rints ([0] ++ nsB t pl cs i ((k + 1 : Nat) : Int))) (M' := M ++ [MC.lst (vR (VV t pl cs (i + 1)) t k)]) ?_ ?_
        · have hns : (nsB t pl cs i ((k + 1 : Nat) : Int)).length ≤ 100 := by
            unfold nsB
            split
            · exact Nat.zero_le _
            · rw [arr_len]; omega
          have hcat : ∀ {Mx : List MC}, OpD K rCat Mx (.dat (.lst [D.int 0])) (rints (nsB t pl cs i ((k + 1 : Nat) : Int))) Mx (.dat (.lst ([D.int 0] ++ (nsB t pl cs i ((k + 1 : Nat) : Int)).map D.int))) := fun {Mx} => od_cat (ds := [D.int 0]) (.inl rfl) (.inl rfl) (by
            rw [List.length_map]
            show 1 + _ ≤ _
            omega)
          refine ev_op (ev_lst (ds := [D.int 0]) (ea_cons ev_int ea_nil) rfl (Nat.le_of_ble_eq_true rfl)) ?_ hcat
          by_cases c0 : i = 0
          · have e1 : nsB t pl cs i ((k + 1 : Nat) : Int) = [] := if_pos c0
            rw [e1]
            refine ev_lc0 (src rfl rfl) (by rw [List.length_drop, vR_len]; omega) fun d hd => ?_
            rw [if_pos c0, vR_none] at hd
            have := List.eq_of_mem_replicate (List.mem_of_mem_drop hd)
            subst this
            exact et_B (ev_notN (ev_var (r := .dat .non) rfl))
          · have e1 : nsB t pl cs i ((k + 1 : Nat) : Int) = arr (t + 1 - ((k + 1 : Nat) : Int)).toNat fun j => VV t pl cs i (((k + 1 : Nat) : Int) + (j : Int)) := if_neg c0
            have es : (vR (VV t pl cs i) t (if i = 0 then 0 else t.toNat)).drop (k + 1) = (nsB t pl cs i ((k + 1 : Nat) : Int)).map D.int := by rw [if_neg c0, vR_drop (by omega), e1]
            have sr : ∀ {E : List (Option Rv)}, E[3]? = some (some (.cel i)) → E[7]? = some (some (rint ((k + 1 : Nat) : Int))) → EvD K (tSl (rSlL K) (tVar 3) (tPart (tVar 7)) tNoPart) (M ++ [MC.lst (vR (VV t pl cs (i + 1)) t k)]) E (M ++ [MC.lst (vR (VV t pl cs (i + 1)) t k)]) (rints (nsB t pl cs i ((k + 1 : Nat) : Int))) := fun {E} a b => ev_is (src a b) (by rw [es])
            refine ev_is (ev_lcLII (ns := nsB t pl cs i ((k + 1 : Nat) : Int)) (fun _ => true) (fun z => z) (sr rfl rfl) (by rw [e1, arr_len]; omega) (fun z _ => et_B (ev_notN (ev_var (r := rint z) rfl))) (fun z _ _ => ev_var rfl)) ?_
            rw [List.filter_eq_self.mpr (fun _ _ => rfl), List.map_id']
        intro F As σ H S
        try simp only [List.set_cons_zero, List.set_cons_succ] at S
        refine q_set S (r := rint (hit pl c ((k + 1 : Nat) : Int) + 1)) (M' := M ++ [MC.lst (vR (VV t pl cs (i + 1)) t k)]) ?_ ?_
        · refine' ev_is ?h ?e
          case' h => repeat' wtm_at "ev"
          case e =>
            unfold hit
            simp only [decide_eq_true_eq]
            refine congrArg rint ?_
            omega
        intro F As σ H S
        try simp only [List.set_cons_zero, List.set_cons_succ] at S
        have ev1 : mxI ([0] ++ nsB t pl cs i ((k + 1 : Nat) : Int)) + (hit pl c ((k + 1 : Nat) : Int) + 1) - 1 = VV t pl cs (i + 1) ((k : Int) + 1) := by
          rw [nsB_mx, VV_succ hc, show ((k + 1 : Nat) : Int) = (k : Int) + 1 by omega]
          omega
        refine q_setL (k := i + 1) (ds := vR (VV t pl cs (i + 1)) t k) (i := ((k + 1 : Nat) : Int)) (d := .int (VV t pl cs (i + 1) ((k : Int) + 1))) S (ev_is (ev_op (ev_op (ev_cb (ea_cons (ev_var (r := rints ([0] ++ nsB t pl cs i ((k + 1 : Nat) : Int))) rfl) ea_nil) (cd_max (.inl rfl) (Nat.zero_lt_succ _))) (ev_var (r := rint (hit pl c ((k + 1 : Nat) : Int) + 1)) rfl) od_int) ev_int od_int) (by rw [ev1])) (ev_var (r := .cel (i + 1)) rfl) (ev_var (r := rint ((k + 1 : Nat) : Int)) rfl) (gl _) (by omega) (by rw [vR_len]; omega) ?_
        intro F As σ H S
        rw [Int.toNat_natCast, vR_set, sl] at S
        refine s_set S (r := rint (inS (VV t pl cs (i + 1)) 0 (WW t pl cs i, 0, 0) (k + 1)).1) (M' := M ++ [MC.lst (vR (VV t pl cs (i + 1)) t (k + 1))]) (ev_is (ev_cb (ea_cons (ev_var (r := rint (inS (VV t pl cs (i + 1)) 0 (WW t pl cs i, 0, 0) k).1) rfl) (ea_cons (ev_op (ev_var (r := .cel (i + 1)) rfl) (ev_var (r := rint ((k + 1 : Nat) : Int)) rfl) (od_ixL (d := .int (VV t pl cs (i + 1) ((k : Int) + 1))) (.inr ⟨i + 1, rfl, gl _⟩) (atI_of (by omega) ?_))) ea_nil)) cd_max2) ?_) ?_
        · rw [Int.toNat_natCast, vR_at (by omega), if_pos (by omega), show ((k + 1 : Nat) : Int) = (k : Int) + 1 by omega]
        · rw [inS_succ]
          show rint (if VV t pl cs (i + 1) ((k : Int) + 1) > _ then _ else _) = _
          split <;> rfl
        intro F As σ H S
        exact s_end S ⟨rfl, _, _, _, _, rfl⟩ (Ele.refl _)
end K78
set_option Elab.async false
set_option linter.all false
set_option maxRecDepth 100000
set_option maxHeartbeats 4000000
namespace K78
open PySem L2 DL
/-! ### the steps: one rule an expression, by its reading's head -/
local macro_rules | `(tactic| wtm_at "ev") => `(tactic| first
  | exact ev_var rfl
  | exact ev_int
  | exact ev_non
  | exact ev_bl
  | exact ev_str
  | exact ea_nil
  | with_reducible apply ea_cons
  | ((with_reducible refine' ev_isi ?a ?b ?c); (case' a => repeat' wtm_at "ev"); (case' b => exact rfl); (case' c => exact rfl))
  | with_reducible apply ev_cb
  | with_reducible apply ev_op
  | with_reducible apply ev_un
  | with_reducible apply et_test
  | with_reducible apply et_B
  | with_reducible apply et_not
  | with_reducible apply ev_isN
  | with_reducible apply ev_notN
  | with_reducible apply ev_notV
  | with_reducible apply et_and
  | with_reducible apply et_or
  | with_reducible apply ev_andV
  | with_reducible apply ev_orV
  | with_reducible apply ev_ifI
  | with_reducible apply ev_ifD
  | ((with_reducible refine' ev_dnotin ?a ?b ?c ?d); (case' a => repeat' wtm_at "ev"); (case' b => repeat' wtm_at "ev"); (case' c => exact rfl); (case' d => first | exact .inl rfl | exact .inr ⟨_, rfl, rfl⟩))
  | ((with_reducible refine' ev_din ?a ?b ?c ?d); (case' a => repeat' wtm_at "ev"); (case' b => repeat' wtm_at "ev"); (case' c => exact rfl); (case' d => first | exact .inl rfl | exact .inr ⟨_, rfl, rfl⟩))
  | with_reducible apply ev_lcLAI
  | with_reducible apply ev_lcLII
  | with_reducible apply ev_lcLA
  | with_reducible apply ev_lcLI
  | with_reducible apply ev_lcRAI
  | with_reducible apply ev_lcRI
  | with_reducible apply ev_lcRA
  | with_reducible apply ev_lcR
  | exact et_yes
  | with_reducible intro _
  | exact od_int
  | exact od_bool
  | exact od_eqI
  | exact od_neI
  | exact od_eqS
  | exact od_neS
  | exact ud_neg
  | exact cd_abs
  | exact cd_max2
  | exact cd_min2
  | exact cd_int
  | exact cd_intB
  | exact cd_lenScr
  | exact cd_lenT
  | exact cd_lenI (.inl rfl)
  | exact cd_lenI (.inr ⟨_, rfl, rfl⟩)
  | exact cd_len (.inl rfl)
  | exact cd_len (.inr ⟨_, rfl, rfl⟩)
  | exact cd_lenD (.inl rfl)
  | exact cd_lenD (.inr ⟨_, rfl, rfl⟩)
  | exact cd_sum (.inl rfl)
  | exact cd_sorted (.inl rfl)
  | exact cd_list (.inl rfl)
  | exact cd_listT
  | exact eo_none
  | with_reducible apply eo_some
  | with_reducible apply ev_sliceScr
  | refine' ev_sliceI ?_ ?_ ?_ (.inl rfl)
  | with_reducible apply od_intC
  | with_reducible apply od_ixScr
  | refine' od_ixI (.inl rfl) ?_ ?_
  | refine' od_ixI (.inr ⟨_, rfl, rfl⟩) ?_ ?_
  | exact od_ixT rfl
  | exact od_inI (.inl rfl)
  | exact od_notinI (.inl rfl)
  | refine' od_cat (.inl rfl) (.inl rfl) ?_
  | ((with_reducible refine' ev_tup ?h ?r ?l); (case' h => repeat' wtm_at "ev"); (case' r => exact rfl); (case' l => exact Nat.le_of_ble_eq_true rfl))
  | (refine (show CMul _ _ from .inl ⟨?_, ?_⟩) <;> decide)
  | (refine (show CMul _ _ from .inr ⟨?_, ?_⟩) <;> decide)
  | (refine (show (_ : Prop) from ?_); assumption)
  | (refine (show CDiv _ _ from ⟨?_, ?_⟩) <;> omega)
  | (refine (show CPow _ _ from ⟨?_, ?_, ?_⟩) <;> decide)
  | omega
  | (simp only [Pz.len]; done)
  | (simp only [Pz.len, List.length_map, List.length_append, List.length_range, List.length_set, List.length_reverse]; omega))
/-! a statement's step: its values are reckoned, what is left is the way on -/
local macro_rules | `(tactic| wtm_at "st") => `(tactic| first
  | (refine' q_set (by assumption) ?h ?k; (case' h => repeat' wtm_at "ev"); (case' k => (intro _ _ _ _ _; try dsimp only)))
  | (refine' s_set (by assumption) ?h ?k; (case' h => repeat' wtm_at "ev"); (case' k => (intro _ _ _ _ _; try dsimp only)))
  | (refine' q_augS (by assumption) ?h1 ?h2 ?h3 ?r1 ?r2 ?s1 ?s2 ?k; (case' h1 => repeat' wtm_at "ev"); (case' h2 => repeat' wtm_at "ev"); (case' h3 => repeat' wtm_at "ev"); (case' r1 => exact rfl); (case' r2 => exact rfl); (case' s1 => try wtm_at "ev"); (case' s2 => try wtm_at "ev"); (case' k => (intro _ _ _ _ _; try dsimp only)))
  | (refine' s_augS (by assumption) ?h1 ?h2 ?h3 ?r1 ?r2 ?s1 ?s2 ?k; (case' h1 => repeat' wtm_at "ev"); (case' h2 => repeat' wtm_at "ev"); (case' h3 => repeat' wtm_at "ev"); (case' r1 => exact rfl); (case' r2 => exact rfl); (case' s1 => try wtm_at "ev"); (case' s2 => try wtm_at "ev"); (case' k => (intro _ _ _ _ _; try dsimp only)))
  | (refine' q_setLI (by assumption) ?h ?h1 ?h2 ?r1 ?s1 ?s2 ?k; (case' h => repeat' wtm_at "ev"); (case' h1 => repeat' wtm_at "ev"); (case' h2 => repeat' wtm_at "ev"); (case' r1 => exact rfl); (case' s1 => try wtm_at "ev"); (case' s2 => try wtm_at "ev"); (case' k => (intro _ _ _ _ _; try dsimp only)))
  | (refine' q_setL (by assumption) ?h ?h1 ?h2 ?r1 ?s1 ?s2 ?k; (case' h => repeat' wtm_at "ev"); (case' h1 => repeat' wtm_at "ev"); (case' h2 => repeat' wtm_at "ev"); (case' r1 => exact rfl); (case' s1 => try wtm_at "ev"); (case' s2 => try wtm_at "ev"); (case' k => (intro _ _ _ _ _; try dsimp only)))
  | (refine' s_setLI (by assumption) ?h ?h1 ?h2 ?r1 ?s1 ?s2 ?k; (case' h => repeat' wtm_at "ev"); (case' h1 => repeat' wtm_at "ev"); (case' h2 => repeat' wtm_at "ev"); (case' r1 => exact rfl); (case' s1 => try wtm_at "ev"); (case' s2 => try wtm_at "ev"); (case' k => (intro _ _ _ _ _; try dsimp only)))
  | (refine' s_setL (by assumption) ?h ?h1 ?h2 ?r1 ?s1 ?s2 ?k; (case' h => repeat' wtm_at "ev"); (case' h1 => repeat' wtm_at "ev"); (case' h2 => repeat' wtm_at "ev"); (case' r1 => exact rfl); (case' s1 => try wtm_at "ev"); (case' s2 => try wtm_at "ev"); (case' k => (intro _ _ _ _ _; try dsimp only)))
  | (refine' q_appI (by assumption) ?h1 ?h ?r1 ?r2 ?s ?k; (case' h1 => repeat' wtm_at "ev"); (case' h => repeat' wtm_at "ev"); (case' r1 => exact rfl); (case' r2 => exact rfl); (case' s => try wtm_at "ev"); (case' k => (intro _ _ _ _ _; try dsimp only)))
  | (refine' q_app (by assumption) ?h1 ?h ?r1 ?r2 ?s ?k; (case' h1 => repeat' wtm_at "ev"); (case' h => repeat' wtm_at "ev"); (case' r1 => exact rfl); (case' r2 => exact rfl); (case' s => try wtm_at "ev"); (case' k => (intro _ _ _ _ _; try dsimp only)))
  | (refine' s_appI (by assumption) ?h1 ?h ?r1 ?r2 ?s ?k; (case' h1 => repeat' wtm_at "ev"); (case' h => repeat' wtm_at "ev"); (case' r1 => exact rfl); (case' r2 => exact rfl); (case' s => try wtm_at "ev"); (case' k => (intro _ _ _ _ _; try dsimp only)))
  | (refine' s_app (by assumption) ?h1 ?h ?r1 ?r2 ?s ?k; (case' h1 => repeat' wtm_at "ev"); (case' h => repeat' wtm_at "ev"); (case' r1 => exact rfl); (case' r2 => exact rfl); (case' s => try wtm_at "ev"); (case' k => (intro _ _ _ _ _; try dsimp only)))
  | (refine' q_dput (by assumption) ?h ?h1 ?h2 ?r1 ?r2 ?s ?k; (case' h => repeat' wtm_at "ev"); (case' h1 => repeat' wtm_at "ev"); (case' h2 => repeat' wtm_at "ev"); (case' r1 => exact rfl); (case' r2 => exact rfl); (case' s => try wtm_at "ev"); (case' k => (intro _ _ _ _ _; try dsimp only)))
  | (refine' s_dput (by assumption) ?h ?h1 ?h2 ?r1 ?r2 ?s ?k; (case' h => repeat' wtm_at "ev"); (case' h1 => repeat' wtm_at "ev"); (case' h2 => repeat' wtm_at "ev"); (case' r1 => exact rfl); (case' r2 => exact rfl); (case' s => try wtm_at "ev"); (case' k => (intro _ _ _ _ _; try dsimp only)))
  | (refine' q_tup2 (by assumption) ?h ?k; (case' h => repeat' wtm_at "ev"); (case' k => (intro _ _ _ _ _; try dsimp only)))
  | (refine' q_drop (by assumption) ?h ?k; (case' h => repeat' wtm_at "ev"); (case' k => (intro _ _ _ _ _; try dsimp only)))
  | (refine' q_if (by assumption) ?h ?k1 ?k2; (case' h => repeat' wtm_at "ev"))
  | (refine' s_if (by assumption) ?h ?k1 ?k2; (case' h => repeat' wtm_at "ev"))
  | (refine' s_ret (by assumption) ?h ?k; (case' h => repeat' wtm_at "ev"); (case' k => (intro _ _ _ _ _ _ _; try dsimp only)))
  | (refine' q_ret (by assumption) ?h ?k; (case' h => repeat' wtm_at "ev"); (case' k => (intro _ _ _ _ _ _ _; try dsimp only)))
  | ((with_reducible refine' s_next (by assumption) ?k); (case' k => (intro _ _ _ _ _; try dsimp only)))
  | (with_reducible refine q_next ?_))

/-! ### the drawn beats -/
def dbt (p : Pz) (t : Int) : Beat × Pz :=
  if (draw p 6).1 = 0 then ((1 + (draw (draw p 6).2 t).1 - 1, 1 + (draw (draw p 6).2 t).1), (draw (draw p 6).2 t).2)
  else if (draw p 6).1 = 1 then ((1 + (draw (draw p 6).2 t).1, 1 + (draw (draw p 6).2 t).1 - 1), (draw (draw p 6).2 t).2)
  else if (draw p 6).1 = 2 then ((1 + (draw (draw p 6).2 t).1, 1 + (draw (draw p 6).2 t).1), (draw (draw p 6).2 t).2)
  else (((draw (draw (draw p 6).2 t).2 (t + 1)).1, (draw (draw (draw (draw p 6).2 t).2 (t + 1)).2 (t + 1)).1), (draw (draw (draw (draw p 6).2 t).2 (t + 1)).2 (t + 1)).2)
theorem dbt_ok {p : Pz} {t : Int} (ht : 1 ≤ t) : BeatOk t (dbt p t).1 := by
  have h1 := draw_rng (p := (draw p 6).2) (m := t) (by omega)
  have h2 := draw_rng (p := (draw (draw p 6).2 t).2) (m := t + 1) (by omega)
  have h3 := draw_rng (p := (draw (draw (draw p 6).2 t).2 (t + 1)).2) (m := t + 1) (by omega)
  unfold dbt BeatOk
  split
  · dsimp only; omega
  · split
    · dsimp only; omega
    · split
      · dsimp only; omega
      · dsimp only; omega
def ph_db : List MC → List Rv → List MC → Out → Prop := fun M rs M' o => ∃ p t, M = [pmc p] ∧ rs = [.cel 0, rint t] ∧ (1 ≤ t ∧ t ≤ 60) ∧ M' = [pmc (dbt p t).2] ∧ o = .ret (pairD (dbt p t).1)
abbrev sp__law_drawn_beat (K : PySem.W.Frag) : Sp := FSp K ph_db
theorem ok__law_drawn_beat {P : Program} {w : World} {K : PySem.W.Frag} {mg : Str → Option Value} {base : Heap} {ad : Ad} {fd : Fd} (T : Txt K mg w ad fd) : FnOk P w K mg base CX0 2 ad.a__law_drawn_beat fd.d__law_drawn_beat ["purse", "top"] (sp__law_drawn_beat K) := by
  have G__law_draw := ok__law_draw (P := P) (base := base) T
  have b__law_draw := T.F__law_draw.binds (ps := ["purse", "many"]) fun _ _ _ _ _ _ us hl => match us, hl with | [_, _], _ => rfl
  refine L2.Fun.ok (k := 1) T.F__law_drawn_beat sc__law_drawn_beat (fun vs H Q E h => ?_) (fun cdv A outer s H vs Q E hr h => ?_)
  · exact h.len fun M rs M' o ⟨_, _, _, e, _⟩ => by rw [e]; rfl
  · refine ⟨_, (pss_cons (ps_set (i := 2) sc__law_drawn_beat.nd rfl (by first | exact Or.inl rfl | exact Or.inr rfl) (pe_call G__law_draw (hr.mono (by first | decide | omega)) rfl T.g__law_draw T.F__law_draw.kp b__law_draw .nil pass0 (pa_cons (pv 0) (pa_cons (pe_int) pa_nil))))
  (pss_cons (ps_set (i := 3) sc__law_drawn_beat.nd rfl (by first | exact Or.inl rfl | exact Or.inr rfl) (pe_op op_add (pe_int) (pe_call G__law_draw (hr.mono (by first | decide | omega)) rfl T.g__law_draw T.F__law_draw.kp b__law_draw .nil pass0 (pa_cons (pv 0) (pa_cons (pv 1) pa_nil)))))
  (pss_cons (ps_if (pt_cmpR op_eq (pv 2) (pe_int) (nomark _)) (pss_one (ps_ret (pe_tup (pa_cons (pe_op op_sub (pv 3) (pe_int)) (pa_cons (pv 3) pa_nil))))) pss_nil)
  (pss_cons (ps_if (pt_cmpR op_eq (pv 2) (pe_int) (nomark _)) (pss_one (ps_ret (pe_tup (pa_cons (pv 3) (pa_cons (pe_op op_sub (pv 3) (pe_int)) pa_nil))))) pss_nil)
  (pss_cons (ps_if (pt_cmpR op_eq (pv 2) (pe_int) (nomark _)) (pss_one (ps_ret (pe_tup (pa_cons (pv 3) (pa_cons (pv 3) pa_nil))))) pss_nil)
  (pss_one (ps_ret (pe_tup (pa_cons (pe_call G__law_draw (hr.mono (by first | decide | omega)) rfl T.g__law_draw T.F__law_draw.kp b__law_draw .nil pass0 (pa_cons (pv 0) (pa_cons (pe_op op_add (pv 1) (pe_int)) pa_nil))) (pa_cons (pe_call G__law_draw (hr.mono (by first | decide | omega)) rfl T.g__law_draw T.F__law_draw.kp b__law_draw .nil pass0 (pa_cons (pv 0) (pa_cons (pe_op op_add (pv 1) (pe_int)) pa_nil))) pa_nil)))))))))), ?_⟩
    try dsimp only [cxOf, Cx.nox, Cx.wish, List.map]
    refine h.reading fun F As M rs M' o hΦ hL B S hB hA post => ?_
    obtain ⟨p, t, rfl, rfl, ⟨h1, h2⟩, rfl, rfl⟩ := hΦ
    dsimp only at post
    refine q_set S (M' := [pmc (draw p 6).2]) (r := rint (draw p 6).1) (ev_drawC (Ms := []) (ea_cons (ev_var (r := .cel 0) rfl) (ea_cons ev_int ea_nil)) (by omega) (by omega)) ?_
    intro F As σ H S
    refine q_set S (M' := [pmc (draw (draw p 6).2 t).2]) (r := rint (1 + (draw (draw p 6).2 t).1)) (ev_op ev_int (ev_drawC (Ms := []) (ea_cons (ev_var (r := .cel 0) rfl) (ea_cons (ev_var (r := rint t) rfl) ea_nil)) (by omega) (by omega)) od_int) ?_
    intro F As σ H S
    try simp only [List.set_cons_zero, List.set_cons_succ] at S
    refine q_if S (b := decide ((draw p 6).1 = 0)) (et_test (ev_op (ev_var (r := rint (draw p 6).1) rfl) ev_int od_eqI)) ?_ ?_
    · intro hb F As σ H S
      have hb := of_decide_eq_true hb
      refine s_ret S (r := .dat (pairD (1 + (draw (draw p 6).2 t).1 - 1, 1 + (draw (draw p 6).2 t).1))) (ev_tup (ea_cons (ev_op (ev_var (r := rint (1 + (draw (draw p 6).2 t).1)) rfl) ev_int od_int) (ea_cons (ev_var (r := rint (1 + (draw (draw p 6).2 t).1)) rfl) ea_nil)) rfl (Nat.le_of_ble_eq_true rfl)) ?_
      intro v F As σ H S r
      have e : dbt p t = ((1 + (draw (draw p 6).2 t).1 - 1, 1 + (draw (draw p 6).2 t).1), (draw (draw p 6).2 t).2) := if_pos hb
      rw [e] at post
      exact post _ _ _ _ _ _ _ S rfl r
    intro hb F As σ H S
    have hb := of_decide_eq_false hb
    refine s_next S ?_
    intro F As σ H S
    refine q_if S (b := decide ((draw p 6).1 = 1)) (et_test (ev_op (ev_var (r := rint (draw p 6).1) rfl) ev_int od_eqI)) ?_ ?_
    · intro hc F As σ H S
      have hc := of_decide_eq_true hc
      refine s_ret S (r := .dat (pairD (1 + (draw (draw p 6).2 t).1, 1 + (draw (draw p 6).2 t).1 - 1))) (ev_tup (ea_cons (ev_var (r := rint (1 + (draw (draw p 6).2 t).1)) rfl) (ea_cons (ev_op (ev_var (r := rint (1 + (draw (draw p 6).2 t).1)) rfl) ev_int od_int) ea_nil)) rfl (Nat.le_of_ble_eq_true rfl)) ?_
      intro v F As σ H S r
      have e : dbt p t = ((1 + (draw (draw p 6).2 t).1, 1 + (draw (draw p 6).2 t).1 - 1), (draw (draw p 6).2 t).2) := (if_neg hb).trans (if_pos hc)
      rw [e] at post
      exact post _ _ _ _ _ _ _ S rfl r
    intro hc F As σ H S
    have hc := of_decide_eq_false hc
    refine s_next S ?_
    intro F As σ H S
    refine q_if S (b := decide ((draw p 6).1 = 2)) (et_test (ev_op (ev_var (r := rint (draw p 6).1) rfl) ev_int od_eqI)) ?_ ?_
    · intro hd F As σ H S
      have hd := of_decide_eq_true hd
      refine s_ret S (r := .dat (pairD (1 + (draw (draw p 6).2 t).1, 1 + (draw (draw p 6).2 t).1))) (ev_tup (ea_cons (ev_var (r := rint (1 + (draw (draw p 6).2 t).1)) rfl) (ea_cons (ev_var (r := rint (1 + (draw (draw p 6).2 t).1)) rfl) ea_nil)) rfl (Nat.le_of_ble_eq_true rfl)) ?_
      intro v F As σ H S r
      have e : dbt p t = ((1 + (draw (draw p 6).2 t).1, 1 + (draw (draw p 6).2 t).1), (draw (draw p 6).2 t).2) := (if_neg hb).trans ((if_neg hc).trans (if_pos hd))
      rw [e] at post
      exact post _ _ _ _ _ _ _ S rfl r
    intro hd F As σ H S
    have hd := of_decide_eq_false hd
    refine s_next S ?_
    intro F As σ H S
    try dsimp only
    have e : dbt p t = (((draw (draw (draw p 6).2 t).2 (t + 1)).1, (draw (draw (draw (draw p 6).2 t).2 (t + 1)).2 (t + 1)).1), (draw (draw (draw (draw p 6).2 t).2 (t + 1)).2 (t + 1)).2) := (if_neg hb).trans ((if_neg hc).trans (if_neg hd))
    rw [e] at post
    have dr : ∀ {p : Pz} {E : List (Option Rv)}, E[0]? = some (some (.cel 0)) → E[1]? = some (some (rint t)) → EvD K (tCall (FSp K ph_draw) [] E0 (tCons (tVar 0) (tCons (tOp (rI0 fun i j => V.int (i + j)) (tVar 1) (tC (.int 1))) tNil))) [pmc p] E [pmc (draw p (t + 1)).2] (rint (draw p (t + 1)).1) := fun {p E} a b => ev_drawC (Ms := []) (ea_cons (ev_var a) (ea_cons (ev_op (ev_var b) ev_int od_int) ea_nil)) (by omega) (by omega)
    refine s_ret S (r := .dat (pairD ((draw (draw (draw p 6).2 t).2 (t + 1)).1, (draw (draw (draw (draw p 6).2 t).2 (t + 1)).2 (t + 1)).1))) (M' := [pmc (draw (draw (draw (draw p 6).2 t).2 (t + 1)).2 (t + 1)).2]) (ev_tup (ea_cons (dr rfl rfl) (ea_cons (dr rfl rfl) ea_nil)) rfl (Nat.le_of_ble_eq_true rfl)) ?_
    intro v F As σ H S r
    exact post _ _ _ _ _ _ _ S rfl r
/-! ### busy courses -/
def bs1 (p : Pz) (t : Int) : Beat × Pz :=
  if (draw (dbt p t).2 3).1 = 0 then (((draw (draw (draw (dbt p t).2 3).2 t).2 (1 + (draw (draw (dbt p t).2 3).2 t).1)).1, 1 + (draw (draw (dbt p t).2 3).2 t).1 + (draw (draw (draw (draw (dbt p t).2 3).2 t).2 (1 + (draw (draw (dbt p t).2 3).2 t).1)).2 (t + 1 - (1 + (draw (draw (dbt p t).2 3).2 t).1))).1), (draw (draw (draw (draw (dbt p t).2 3).2 t).2 (1 + (draw (draw (dbt p t).2 3).2 t).1)).2 (t + 1 - (1 + (draw (draw (dbt p t).2 3).2 t).1))).2)
  else ((dbt p t).1, (draw (dbt p t).2 3).2)
theorem bs1_ok {p : Pz} {t : Int} (ht : 1 ≤ t) : BeatOk t (bs1 p t).1 := by
  unfold bs1
  split
  · have h1 := draw_rng (p := (draw (dbt p t).2 3).2) (m := t) (by omega)
    have h2 := draw_rng (p := (draw (draw (dbt p t).2 3).2 t).2) (m := 1 + (draw (draw (dbt p t).2 3).2 t).1) (by omega)
    have h3 := draw_rng (p := (draw (draw (draw (dbt p t).2 3).2 t).2 (1 + (draw (draw (dbt p t).2 3).2 t).1)).2) (m := t + 1 - (1 + (draw (draw (dbt p t).2 3).2 t).1)) (by omega)
    unfold BeatOk
    dsimp only
    omega
  · exact dbt_ok ht
def bsy (p : Pz) (t : Int) : Nat → List Beat × Pz
  | 0 => ([], p)
  | n + 1 => ((bsy p t n).1 ++ [(bs1 (bsy p t n).2 t).1], (bs1 (bsy p t n).2 t).2)
theorem bsy_ok {p : Pz} {t : Int} (ht : 1 ≤ t) : ∀ n : Nat, Crs t (bsy p t n).1 ∧ (bsy p t n).1.length = n
  | 0 => ⟨(fun c h => nomatch h), rfl⟩
  | n + 1 => by
    obtain ⟨a, b⟩ := bsy_ok (p := p) ht n
    refine ⟨fun c h => ?_, ?_⟩
    · rcases List.mem_append.mp h with h | h
      · exact a c h
      · rw [List.mem_singleton.mp h]; exact bs1_ok ht
    · show ((bsy p t n).1 ++ [_]).length = n + 1
      rw [List.length_append, b]; rfl
def ph_busy : List MC → List Rv → List MC → Out → Prop := fun M rs M' o => ∃ p t n, M = [pmc p] ∧ rs = [.cel 0, rint t, rint n] ∧ (1 ≤ t ∧ t ≤ 60) ∧ (0 ≤ n ∧ n ≤ 1000) ∧ M' = [pmc (bsy p t n.toNat).2] ∧ o = .ret (pairsD (bsy p t n.toNat).1)
abbrev sp__law_f_busy (K : PySem.W.Frag) : Sp := FSp K ph_busy
theorem ok__law_f_busy {P : Program} {w : World} {K : PySem.W.Frag} {mg : Str → Option Value} {base : Heap} {ad : Ad} {fd : Fd} (T : Txt K mg w ad fd) : FnOk P w K mg base CX0 3 ad.a__law_f_busy fd.d__law_f_busy ["purse", "top", "many"] (sp__law_f_busy K) := by
  have G__law_draw := ok__law_draw (P := P) (base := base) T
  have b__law_draw := T.F__law_draw.binds (ps := ["purse", "many"]) fun _ _ _ _ _ _ us hl => match us, hl with | [_, _], _ => rfl
  have G__law_drawn_beat := ok__law_drawn_beat (P := P) (base := base) T
  have b__law_drawn_beat := T.F__law_drawn_beat.binds (ps := ["purse", "top"]) fun _ _ _ _ _ _ us hl => match us, hl with | [_, _], _ => rfl
  refine L2.Fun.ok (k := 2) T.F__law_f_busy sc__law_f_busy (fun vs H Q E h => ?_) (fun cdv A outer s H vs Q E hr h => ?_)
  · exact h.len fun M rs M' o ⟨_, _, _, _, e, _⟩ => by rw [e]; rfl
  · refine ⟨_, (pss_cons (ps_set (i := 3) sc__law_f_busy.nd rfl (by first | exact Or.inl rfl | exact Or.inr rfl) (pe_lst pa_nil))
  (pss_cons (ps_for PassesOwn.never rfl (pi_range1 (by rfl) T.n_range (pa_cons (pv 2) pa_nil)) (pg_name (i := 4) sc__law_f_busy.nd rfl (by first | exact Or.inl rfl | exact Or.inr rfl))
  (pss_cons (ps_set (i := 5) sc__law_f_busy.nd rfl (by first | exact Or.inl rfl | exact Or.inr rfl) (pe_call G__law_drawn_beat (hr.mono (by first | decide | omega)) rfl T.g__law_drawn_beat T.F__law_drawn_beat.kp b__law_drawn_beat .nil pass0 (pa_cons (pv 0) (pa_cons (pv 1) pa_nil))))
  (pss_cons (ps_if (pt_cmpR op_eq (pe_call G__law_draw (hr.mono (by first | decide | omega)) rfl T.g__law_draw T.F__law_draw.kp b__law_draw .nil pass0 (pa_cons (pv 0) (pa_cons (pe_int) pa_nil))) (pe_int) (nomark _)) (pss_cons (ps_set (i := 6) sc__law_f_busy.nd rfl (by first | exact Or.inl rfl | exact Or.inr rfl) (pe_op op_add (pe_int) (pe_call G__law_draw (hr.mono (by first | decide | omega)) rfl T.g__law_draw T.F__law_draw.kp b__law_draw .nil pass0 (pa_cons (pv 0) (pa_cons (pv 1) pa_nil)))))
  (pss_one (ps_set (i := 5) sc__law_f_busy.nd rfl (by first | exact Or.inl rfl | exact Or.inr rfl) (pe_tup (pa_cons (pe_call G__law_draw (hr.mono (by first | decide | omega)) rfl T.g__law_draw T.F__law_draw.kp b__law_draw .nil pass0 (pa_cons (pv 0) (pa_cons (pv 6) pa_nil))) (pa_cons (pe_op op_add (pv 6) (pe_call G__law_draw (hr.mono (by first | decide | omega)) rfl T.g__law_draw T.F__law_draw.kp b__law_draw .nil pass0 (pa_cons (pv 0) (pa_cons (pe_op op_sub (pe_op op_add (pv 1) (pe_int)) (pv 6)) pa_nil)))) pa_nil)))))) pss_nil)
  (pss_one (ps_expr (pe_bmK (K := K) (id := "list.append") rfl (pe_bm PySem.F.plainAttrs_list PySem.F.slot_list_append PySem.F.type_list_append mt_append (pv 3) (pa_cons (pv 5) pa_nil))))))))
  (pss_one (ps_ret (pv 3))))), ?_⟩
    try dsimp only [cxOf, Cx.nox, Cx.wish, List.map]
    refine h.reading fun F As M rs M' o hΦ hL B S hB hA post => ?_
    obtain ⟨p, t, n, rfl, rfl, ⟨h1, h2⟩, ⟨n1, n2⟩, rfl, rfl⟩ := hΦ
    dsimp only at post
    refine q_set S (r := .cel 1) (M' := [pmc p, .lst []]) (ev_lstM (ds := []) ea_nil rfl (Nat.zero_le _)) ?_
    intro F As σ H S
    refine' q_forR1 S (n := n) (ea_cons (ev_var (r := rint n) rfl) ea_nil) ⟨by omega, by omega⟩ (fun i M E => M = [pmc (bsy p t i).2, .lst ((bsy p t i).1.map pairD)] ∧ ∃ x4 x5 x6, E = [some (.cel 0), some (rint t), some (rint n), some (.cel 1), x4, x5, x6]) ⟨rfl, none, none, none, rfl⟩ ?hb ?hd
    case hd =>
      rintro M E ⟨rfl, x4, x5, x6, rfl⟩ F As σ H S
      exact s_retF S hB (k := 1) (ev_var rfl) rfl rfl (by rw [hA]; exact Nat.le_refl _) fun v F As σ E H S r => post _ _ _ _ _ _ _ S rfl r
    case hb =>
      rintro i M E hi ⟨rfl, x4, x5, x6, rfl⟩ F As σ H S
      try simp only [List.set_cons_zero, List.set_cons_succ] at S
      have hll := (bsy_ok (p := p) h1 i).2
      have es : bsy p t (i + 1) = ((bsy p t i).1 ++ [(bs1 (bsy p t i).2 t).1], (bs1 (bsy p t i).2 t).2) := rfl
      obtain ⟨q, hq⟩ : ∃ q, (bsy p t i).2 = q := ⟨_, rfl⟩
      obtain ⟨L, hL2⟩ : ∃ L, (bsy p t i).1 = L := ⟨_, rfl⟩
      rw [hq, hL2] at S es
      rw [hL2] at hll
      refine q_set S (r := .dat (pairD (dbt q t).1)) (M' := [pmc (dbt q t).2, .lst (L.map pairD)]) (ev_call1 (k := 0) (ds := [rint t]) (mc := pmc q) (mc' := pmc (dbt q t).2) (ea_cons (ev_var (r := .cel 0) rfl) (ea_cons (ev_var (r := rint t) rfl) ea_nil)) (by intro z; cases z) rfl (by intro z; cases z) ⟨q, t, rfl, rfl, ⟨h1, h2⟩, rfl, rfl⟩) ?_
      intro F As σ H S
      try simp only [List.set_cons_zero, List.set_cons_succ] at S
      refine q_ifE [pmc (bs1 q t).2, .lst (L.map pairD)] [some (.cel 0), some (rint t), some (rint n), some (.cel 1), some (rint (i : Int)), some (.dat (pairD (bs1 q t).1)), none] S (b := decide ((draw (dbt q t).2 3).1 = 0)) (M1 := [pmc (draw (dbt q t).2 3).2, .lst (L.map pairD)]) (et_test (ev_op (ev_drawC (ea_cons (ev_var (r := .cel 0) rfl) (ea_cons ev_int ea_nil)) (by omega) (by omega)) ev_int od_eqI)) ?k1 ?k2 ?k3
      case k1 =>
        intro hb De kk F As σ H S
        have hb := of_decide_eq_true hb
        have e : bs1 q t = _ := if_pos hb
        rw [e] at kk
        have r1 := draw_rng (p := (draw (dbt q t).2 3).2) (m := t) (by omega)
        have r2 := draw_rng (p := (draw (draw (dbt q t).2 3).2 t).2) (m := 1 + (draw (draw (dbt q t).2 3).2 t).1) (by omega)
        refine q_set S (r := rint (1 + (draw (draw (dbt q t).2 3).2 t).1)) (M' := [pmc (draw (draw (dbt q t).2 3).2 t).2, .lst (L.map pairD)]) (ev_op ev_int (ev_drawC (ea_cons (ev_var (r := .cel 0) rfl) (ea_cons (ev_var (r := rint t) rfl) ea_nil)) (by omega) (by omega)) od_int) ?_
        intro F As σ H S
        try simp only [List.set_cons_zero, List.set_cons_succ] at S
        refine s_set S (r := .dat (pairD ((draw (draw (draw (dbt q t).2 3).2 t).2 (1 + (draw (draw (dbt q t).2 3).2 t).1)).1, 1 + (draw (draw (dbt q t).2 3).2 t).1 + (draw (draw (draw (draw (dbt q t).2 3).2 t).2 (1 + (draw (draw (dbt q t).2 3).2 t).1)).2 (t + 1 - (1 + (draw (draw (dbt q t).2 3).2 t).1))).1))) (M' := [pmc (draw (draw (draw (draw (dbt q t).2 3).2 t).2 (1 + (draw (draw (dbt q t).2 3).2 t).1)).2 (t + 1 - (1 + (draw (draw (dbt q t).2 3).2 t).1))).2, .lst (L.map pairD)]) (ev_tup (ea_cons (ev_drawC (ea_cons (ev_var (r := .cel 0) rfl) (ea_cons (ev_var (r := rint (1 + (draw (draw (dbt q t).2 3).2 t).1)) rfl) ea_nil)) (by omega) (by omega)) (ea_cons (ev_op (ev_var (r := rint (1 + (draw (draw (dbt q t).2 3).2 t).1)) rfl) (ev_drawC (ea_cons (ev_var (r := .cel 0) rfl) (ea_cons (ev_op (ev_op (ev_var (r := rint t) rfl) ev_int od_int) (ev_var (r := rint (1 + (draw (draw (dbt q t).2 3).2 t).1)) rfl) od_int) ea_nil)) (by omega) (by omega)) od_int) ea_nil)) rfl (Nat.le_of_ble_eq_true rfl)) ?_
        intro F As σ H S
        try simp only [List.set_cons_zero, List.set_cons_succ] at S
        exact kk _ _ _ _ (S.weak ⟨rfl, rfl, rfl, rfl, rfl, rfl, trivial⟩)
      case k2 =>
        intro hb De kk F As σ H S
        have hb := of_decide_eq_false hb
        have e : bs1 q t = ((dbt q t).1, (draw (dbt q t).2 3).2) := if_neg hb
        rw [e] at kk
        refine s_next S ?_
        intro F As σ H S
        exact kk _ _ _ _ (S.weak (by cases x6 <;> exact ⟨rfl, rfl, rfl, rfl, rfl, rfl, trivial⟩))
      case k3 =>
        intro F As σ H S
        refine s_app (ds := L.map pairD) S (ev_var (r := .cel 1) rfl) (ev_var (r := .dat (pairD (bs1 q t).1)) rfl) rfl rfl (by rw [List.length_map]; omega) ?_
        intro F As σ H S
        refine s_end S ⟨?_, _, _, _, rfl⟩ (Ele.refl _)
        rw [es, List.map_append]; rfl
end K78
set_option Elab.async false
set_option linter.all false
set_option maxRecDepth 100000
set_option maxHeartbeats 4000000
namespace K78
open PySem L2 DL
/-! ### the steps: one rule an expression, by its reading's head -/
local macro_rules | `(tactic| wtm_at "ev") => `(tactic| first
  | exact ev_var rfl
  | exact ev_int
  | exact ev_non
  | exact ev_bl
  | exact ev_str
  | exact ea_nil
  | with_reducible apply ea_cons
  | ((with_reducible refine' ev_isi ?a ?b ?c); (case' a => repeat' wtm_at "ev"); (case' b => exact rfl); (case' c => exact rfl))
  | with_reducible apply ev_cb
  | with_reducible apply ev_op
  | with_reducible apply ev_un
  | with_reducible apply et_test
  | with_reducible apply et_B
  | with_reducible apply et_not
  | with_reducible apply ev_isN
  | with_reducible apply ev_notN
  | with_reducible apply ev_notV
  | with_reducible apply et_and
  | with_reducible apply et_or
  | with_reducible apply ev_andV
  | with_reducible apply ev_orV
  | with_reducible apply ev_ifI
  | with_reducible apply ev_ifD
  | ((with_reducible refine' ev_dnotin ?a ?b ?c ?d); (case' a => repeat' wtm_at "ev"); (case' b => repeat' wtm_at "ev"); (case' c => exact rfl); (case' d => first | exact .inl rfl | exact .inr ⟨_, rfl, rfl⟩))
  | ((with_reducible refine' ev_din ?a ?b ?c ?d); (case' a => repeat' wtm_at "ev"); (case' b => repeat' wtm_at "ev"); (case' c => exact rfl); (case' d => first | exact .inl rfl | exact .inr ⟨_, rfl, rfl⟩))
  | with_reducible apply ev_lcLAI
  | with_reducible apply ev_lcLII
  | with_reducible apply ev_lcLA
  | with_reducible apply ev_lcLI
  | with_reducible apply ev_lcRAI
  | with_reducible apply ev_lcRI
  | with_reducible apply ev_lcRA
  | with_reducible apply ev_lcR
  | exact et_yes
  | with_reducible intro _
  | exact od_int
  | exact od_bool
  | exact od_eqI
  | exact od_neI
  | exact od_eqS
  | exact od_neS
  | exact ud_neg
  | exact cd_abs
  | exact cd_max2
  | exact cd_min2
  | exact cd_int
  | exact cd_intB
  | exact cd_lenScr
  | exact cd_lenT
  | exact cd_lenI (.inl rfl)
  | exact cd_lenI (.inr ⟨_, rfl, rfl⟩)
  | exact cd_len (.inl rfl)
  | exact cd_len (.inr ⟨_, rfl, rfl⟩)
  | exact cd_lenD (.inl rfl)
  | exact cd_lenD (.inr ⟨_, rfl, rfl⟩)
  | exact cd_sum (.inl rfl)
  | exact cd_sorted (.inl rfl)
  | exact cd_list (.inl rfl)
  | exact cd_listT
  | exact eo_none
  | with_reducible apply eo_some
  | with_reducible apply ev_sliceScr
  | refine' ev_sliceI ?_ ?_ ?_ (.inl rfl)
  | with_reducible apply od_intC
  | with_reducible apply od_ixScr
  | refine' od_ixI (.inl rfl) ?_ ?_
  | refine' od_ixI (.inr ⟨_, rfl, rfl⟩) ?_ ?_
  | exact od_ixT rfl
  | exact od_inI (.inl rfl)
  | exact od_notinI (.inl rfl)
  | refine' od_cat (.inl rfl) (.inl rfl) ?_
  | ((with_reducible refine' ev_tup ?h ?r ?l); (case' h => repeat' wtm_at "ev"); (case' r => exact rfl); (case' l => exact Nat.le_of_ble_eq_true rfl))
  | (refine (show CMul _ _ from .inl ⟨?_, ?_⟩) <;> decide)
  | (refine (show CMul _ _ from .inr ⟨?_, ?_⟩) <;> decide)
  | (refine (show (_ : Prop) from ?_); assumption)
  | (refine (show CDiv _ _ from ⟨?_, ?_⟩) <;> omega)
  | (refine (show CPow _ _ from ⟨?_, ?_, ?_⟩) <;> decide)
  | omega
  | (simp only [Pz.len]; done)
  | (simp only [Pz.len, List.length_map, List.length_append, List.length_range, List.length_set, List.length_reverse]; omega))
/-! a statement's step: its values are reckoned, what is left is the way on -/
local macro_rules | `(tactic| wtm_at "st") => `(tactic| first
  | (refine' q_set (by assumption) ?h ?k; (case' h => repeat' wtm_at "ev"); (case' k => (intro _ _ _ _ _; try dsimp only)))
  | (refine' s_set (by assumption) ?h ?k; (case' h => repeat' wtm_at "ev"); (case' k => (intro _ _ _ _ _; try dsimp only)))
  | (refine' q_augS (by assumption) ?h1 ?h2 ?h3 ?r1 ?r2 ?s1 ?s2 ?k; (case' h1 => repeat' wtm_at "ev"); (case' h2 => repeat' wtm_at "ev"); (case' h3 => repeat' wtm_at "ev"); (case' r1 => exact rfl); (case' r2 => exact rfl); (case' s1 => try wtm_at "ev"); (case' s2 => try wtm_at "ev"); (case' k => (intro _ _ _ _ _; try dsimp only)))
  | (refine' s_augS (by assumption) ?h1 ?h2 ?h3 ?r1 ?r2 ?s1 ?s2 ?k; (case' h1 => repeat' wtm_at "ev"); (case' h2 => repeat' wtm_at "ev"); (case' h3 => repeat' wtm_at "ev"); (case' r1 => exact rfl); (case' r2 => exact rfl); (case' s1 => try wtm_at "ev"); (case' s2 => try wtm_at "ev"); (case' k => (intro _ _ _ _ _; try dsimp only)))
  | (refine' q_setLI (by assumption) ?h ?h1 ?h2 ?r1 ?s1 ?s2 ?k; (case' h => repeat' wtm_at "ev"); (case' h1 => repeat' wtm_at "ev"); (case' h2 => repeat' wtm_at "ev"); (case' r1 => exact rfl); (case' s1 => try wtm_at "ev"); (case' s2 => try wtm_at "ev"); (case' k => (intro _ _ _ _ _; try dsimp only)))
  | (refine' q_setL (by assumption) ?h ?h1 ?h2 ?r1 ?s1 ?s2 ?k; (case' h => repeat' wtm_at "ev"); (case' h1 => repeat' wtm_at "ev"); (case' h2 => repeat' wtm_at "ev"); (case' r1 => exact rfl); (case' s1 => try wtm_at "ev"); (case' s2 => try wtm_at "ev"); (case' k => (intro _ _ _ _ _; try dsimp only)))
  | (refine' s_setLI (by assumption) ?h ?h1 ?h2 ?r1 ?s1 ?s2 ?k; (case' h => repeat' wtm_at "ev"); (case' h1 => repeat' wtm_at "ev"); (case' h2 => repeat' wtm_at "ev"); (case' r1 => exact rfl); (case' s1 => try wtm_at "ev"); (case' s2 => try wtm_at "ev"); (case' k => (intro _ _ _ _ _; try dsimp only)))
  | (refine' s_setL (by assumption) ?h ?h1 ?h2 ?r1 ?s1 ?s2 ?k; (case' h => repeat' wtm_at "ev"); (case' h1 => repeat' wtm_at "ev"); (case' h2 => repeat' wtm_at "ev"); (case' r1 => exact rfl); (case' s1 => try wtm_at "ev"); (case' s2 => try wtm_at "ev"); (case' k => (intro _ _ _ _ _; try dsimp only)))
  | (refine' q_appI (by assumption) ?h1 ?h ?r1 ?r2 ?s ?k; (case' h1 => repeat' wtm_at "ev"); (case' h => repeat' wtm_at "ev"); (case' r1 => exact rfl); (case' r2 => exact rfl); (case' s => try wtm_at "ev"); (case' k => (intro _ _ _ _ _; try dsimp only)))
  | (refine' q_app (by assumption) ?h1 ?h ?r1 ?r2 ?s ?k; (case' h1 => repeat' wtm_at "ev"); (case' h => repeat' wtm_at "ev"); (case' r1 => exact rfl); (case' r2 => exact rfl); (case' s => try wtm_at "ev"); (case' k => (intro _ _ _ _ _; try dsimp only)))
  | (refine' s_appI (by assumption) ?h1 ?h ?r1 ?r2 ?s ?k; (case' h1 => repeat' wtm_at "ev"); (case' h => repeat' wtm_at "ev"); (case' r1 => exact rfl); (case' r2 => exact rfl); (case' s => try wtm_at "ev"); (case' k => (intro _ _ _ _ _; try dsimp only)))
  | (refine' s_app (by assumption) ?h1 ?h ?r1 ?r2 ?s ?k; (case' h1 => repeat' wtm_at "ev"); (case' h => repeat' wtm_at "ev"); (case' r1 => exact rfl); (case' r2 => exact rfl); (case' s => try wtm_at "ev"); (case' k => (intro _ _ _ _ _; try dsimp only)))
  | (refine' q_dput (by assumption) ?h ?h1 ?h2 ?r1 ?r2 ?s ?k; (case' h => repeat' wtm_at "ev"); (case' h1 => repeat' wtm_at "ev"); (case' h2 => repeat' wtm_at "ev"); (case' r1 => exact rfl); (case' r2 => exact rfl); (case' s => try wtm_at "ev"); (case' k => (intro _ _ _ _ _; try dsimp only)))
  | (refine' s_dput (by assumption) ?h ?h1 ?h2 ?r1 ?r2 ?s ?k; (case' h => repeat' wtm_at "ev"); (case' h1 => repeat' wtm_at "ev"); (case' h2 => repeat' wtm_at "ev"); (case' r1 => exact rfl); (case' r2 => exact rfl); (case' s => try wtm_at "ev"); (case' k => (intro _ _ _ _ _; try dsimp only)))
  | (refine' q_tup2 (by assumption) ?h ?k; (case' h => repeat' wtm_at "ev"); (case' k => (intro _ _ _ _ _; try dsimp only)))
  | (refine' q_drop (by assumption) ?h ?k; (case' h => repeat' wtm_at "ev"); (case' k => (intro _ _ _ _ _; try dsimp only)))
  | (refine' q_if (by assumption) ?h ?k1 ?k2; (case' h => repeat' wtm_at "ev"))
  | (refine' s_if (by assumption) ?h ?k1 ?k2; (case' h => repeat' wtm_at "ev"))
  | (refine' s_ret (by assumption) ?h ?k; (case' h => repeat' wtm_at "ev"); (case' k => (intro _ _ _ _ _ _ _; try dsimp only)))
  | (refine' q_ret (by assumption) ?h ?k; (case' h => repeat' wtm_at "ev"); (case' k => (intro _ _ _ _ _ _ _; try dsimp only)))
  | ((with_reducible refine' s_next (by assumption) ?k); (case' k => (intro _ _ _ _ _; try dsimp only)))
  | (with_reducible refine q_next ?_))

theorem ev_match {K : PySem.W.Frag} {M M1 : List MC} {E : List (Option Rv)} {ta : TA} {n : Nat} {d : D} (ha : EvA K ta M E M1 [.dat d, .dat d]) (hp : Plain (n + 1) d) : EvD K (tCall (FSp K (ph_match (n + 1))) [] E0 ta) M E M1 (rbl true) := ev_call0 ha (by intro z; cases z) ⟨d, rfl, rfl, hp, rfl, rfl⟩
/-! ### eased courses -/
def evs (p : Pz) (t : Int) : Nat → List Beat × Pz
  | 0 => ([], p)
  | n + 1 => ((evs p t n).1 ++ [((draw (evs p t n).2 (t + 1)).1, (draw (evs p t n).2 (t + 1)).1)], (draw (evs p t n).2 (t + 1)).2)
def eaN (p : Pz) (t : Int) (cs : List Beat) : Nat → List Beat × Pz
  | 0 => ([], p)
  | i + 1 => ((eaN p t cs i).1 ++ (evs (draw (eaN p t cs i).2 3).2 t (draw (eaN p t cs i).2 3).1.toNat).1 ++ [cs.getD i (0, 0)], (evs (draw (eaN p t cs i).2 3).2 t (draw (eaN p t cs i).2 3).1.toNat).2)
theorem evs_ok {p : Pz} {t : Int} (ht : 1 ≤ t) {cs ds : List Beat} (h : Eas cs ds) (hc : Crs t ds) : ∀ n : Nat, Eas cs (ds ++ (evs p t n).1) ∧ Crs t (ds ++ (evs p t n).1) ∧ (evs p t n).1.length = n
  | 0 => ⟨by show Eas cs (ds ++ []); rwa [List.append_nil], by show Crs t (ds ++ []); rwa [List.append_nil], rfl⟩
  | n + 1 => by
    obtain ⟨a, b, c⟩ := evs_ok (p := p) ht h hc n
    have r := draw_rng (p := (evs p t n).2) (m := t + 1) (by omega)
    have e : (evs p t (n + 1)).1 = (evs p t n).1 ++ [((draw (evs p t n).2 (t + 1)).1, (draw (evs p t n).2 (t + 1)).1)] := rfl
    rw [e, ← List.append_assoc]
    refine ⟨.even _ a, fun x hx => ?_, by rw [List.length_append, c]; rfl⟩
    rcases List.mem_append.mp hx with hx | hx
    · exact b x hx
    · rw [List.mem_singleton.mp hx]
      unfold BeatOk
      dsimp only
      omega
theorem eaN_ok {p : Pz} {t : Int} (ht : 1 ≤ t) {cs : List Beat} (hc : Crs t cs) : ∀ i : Nat, i ≤ cs.length → Eas (cs.take i) (eaN p t cs i).1 ∧ Crs t (eaN p t cs i).1 ∧ (eaN p t cs i).1.length ≤ 3 * i
  | 0, _ => ⟨.nil, (fun c h => nomatch h), Nat.le_refl _⟩
  | i + 1, hi => by
    obtain ⟨a, b, c⟩ := eaN_ok (p := p) ht hc i (by omega)
    have hb : cs[i]? = some (cs[i]'(by omega)) := List.getElem?_eq_getElem (by omega)
    have r := draw_rng (p := (eaN p t cs i).2) (m := 3) (by omega)
    obtain ⟨a2, b2, c2⟩ := evs_ok (p := (draw (eaN p t cs i).2 3).2) ht a b (draw (eaN p t cs i).2 3).1.toNat
    have e : (eaN p t cs (i + 1)).1 = (eaN p t cs i).1 ++ (evs (draw (eaN p t cs i).2 3).2 t (draw (eaN p t cs i).2 3).1.toNat).1 ++ [cs.getD i (0, 0)] := rfl
    rw [e, getD_bt hb, take_bt hb]
    refine ⟨.beat _ a2, fun x hx => ?_, ?_⟩
    · rcases List.mem_append.mp hx with hx | hx
      · exact b2 x hx
      · rw [List.mem_singleton.mp hx]
        exact hc _ (List.mem_of_getElem? hb)
    · rw [List.length_append, List.length_append, c2]
      show _ + _ + 1 ≤ _
      omega
def ph_eas : List MC → List Rv → List MC → Out → Prop := fun M rs M' o => ∃ p t cs, M = [pmc p] ∧ rs = [.cel 0, .dat (pairsD cs), rint t] ∧ (1 ≤ t ∧ t ≤ 60) ∧ Crs t cs ∧ cs.length ≤ 1000 ∧ M' = [pmc (eaN p t cs cs.length).2] ∧ o = .ret (pairsD (eaN p t cs cs.length).1)
abbrev sp__law_k78_eased (K : PySem.W.Frag) : Sp := FSp K ph_eas
theorem ok__law_k78_eased {P : Program} {w : World} {K : PySem.W.Frag} {mg : Str → Option Value} {base : Heap} {ad : Ad} {fd : Fd} (T : Txt K mg w ad fd) : FnOk P w K mg base CX0 2 ad.a__law_k78_eased fd.d__law_k78_eased ["purse", "course", "top"] (sp__law_k78_eased K) := by
  have G__law_draw := ok__law_draw (P := P) (base := base) T
  have b__law_draw := T.F__law_draw.binds (ps := ["purse", "many"]) fun _ _ _ _ _ _ us hl => match us, hl with | [_, _], _ => rfl
  refine L2.Fun.ok (k := 1) T.F__law_k78_eased sc__law_k78_eased (fun vs H Q E h => ?_) (fun cdv A outer s H vs Q E hr h => ?_)
  · exact h.len fun M rs M' o ⟨_, _, _, _, e, _⟩ => by rw [e]; rfl
  · refine ⟨_, (pss_cons (ps_set (i := 3) sc__law_k78_eased.nd rfl (by first | exact Or.inl rfl | exact Or.inr rfl) (pe_lst pa_nil))
  (pss_cons (ps_for PassesOwn.never rfl (pi_listK (K := K) rfl (pv 1)) (pg_name (i := 4) sc__law_k78_eased.nd rfl (by first | exact Or.inl rfl | exact Or.inr rfl))
  (pss_cons (ps_for PassesOwn.never rfl (pi_range1 (by rfl) T.n_range (pa_cons (pe_call G__law_draw (hr.mono (by first | decide | omega)) rfl T.g__law_draw T.F__law_draw.kp b__law_draw .nil pass0 (pa_cons (pv 0) (pa_cons (pe_int) pa_nil))) pa_nil)) (pg_name (i := 5) sc__law_k78_eased.nd rfl (by first | exact Or.inl rfl | exact Or.inr rfl))
  (pss_cons (ps_set (i := 6) sc__law_k78_eased.nd rfl (by first | exact Or.inl rfl | exact Or.inr rfl) (pe_call G__law_draw (hr.mono (by first | decide | omega)) rfl T.g__law_draw T.F__law_draw.kp b__law_draw .nil pass0 (pa_cons (pv 0) (pa_cons (pe_op op_add (pv 2) (pe_int)) pa_nil))))
  (pss_one (ps_expr (pe_bmK (K := K) (id := "list.append") rfl (pe_bm PySem.F.plainAttrs_list PySem.F.slot_list_append PySem.F.type_list_append mt_append (pv 3) (pa_cons (pe_tup (pa_cons (pv 6) (pa_cons (pv 6) pa_nil))) pa_nil)))))))
  (pss_one (ps_expr (pe_bmK (K := K) (id := "list.append") rfl (pe_bm PySem.F.plainAttrs_list PySem.F.slot_list_append PySem.F.type_list_append mt_append (pv 3) (pa_cons (pv 4) pa_nil)))))))
  (pss_one (ps_ret (pv 3))))), ?_⟩
    try dsimp only [cxOf, Cx.nox, Cx.wish, List.map]
    refine h.reading fun F As M rs M' o hΦ hL B S hB hA post => ?_
    obtain ⟨p, t, cs, rfl, rfl, ⟨h1, h2⟩, hcr, h3, rfl, rfl⟩ := hΦ
    dsimp only at post
    refine q_set S (r := .cel 1) (M' := [pmc p, .lst []]) (ev_lstM (ds := []) ea_nil rfl (Nat.zero_le _)) ?_
    intro F As σ H S
    refine' q_forL S (ds := cs.map pairD) (ev_var (r := .dat (pairsD cs)) rfl) (fun i M E => M = [pmc (eaN p t cs i).2, .lst ((eaN p t cs i).1.map pairD)] ∧ ∃ x4 x5 x6, E = [some (.cel 0), some (.dat (pairsD cs)), some (rint t), some (.cel 1), x4, x5, x6]) ⟨rfl, none, none, none, rfl⟩ ?hb ?hd
    case hd =>
      rintro M E ⟨rfl, x4, x5, x6, rfl⟩ F As σ H S
      rw [List.length_map] at S
      exact s_retF S hB (k := 1) (ev_var rfl) rfl rfl (by rw [hA]; exact Nat.le_refl _) fun v F As σ E H S r => post _ _ _ _ _ _ _ S rfl r
    case hb =>
      rintro B2 cv i d M E hn ⟨rfl, x4, x5, x6, rfl⟩ F As σ H S
      obtain ⟨c, hc, rfl⟩ := pair_of hn
      have hi := (List.getElem?_eq_some_iff.mp hc).1
      obtain ⟨o1, o2, o3⟩ := eaN_ok (p := p) h1 hcr i (by omega)
      try simp only [List.set_cons_zero, List.set_cons_succ] at S
      have es : eaN p t cs (i + 1) = ((eaN p t cs i).1 ++ (evs (draw (eaN p t cs i).2 3).2 t (draw (eaN p t cs i).2 3).1.toNat).1 ++ [c], (evs (draw (eaN p t cs i).2 3).2 t (draw (eaN p t cs i).2 3).1.toNat).2) := by rw [← getD_bt hc]; rfl
      have r3 := draw_rng (p := (eaN p t cs i).2) (m := 3) (by omega)
      have el := fun j => (evs_ok (p := (draw (eaN p t cs i).2 3).2) h1 o1 o2 j).2.2
      obtain ⟨q, hq⟩ : ∃ q, (eaN p t cs i).2 = q := ⟨_, rfl⟩
      obtain ⟨L, hL2⟩ : ∃ L, (eaN p t cs i).1 = L := ⟨_, rfl⟩
      rw [hq, hL2] at S es
      rw [hq] at r3
      rw [hL2] at o3
      rw [hq] at el
      refine' q_forR1 S (n := (draw q 3).1) (M1 := [pmc (draw q 3).2, .lst (L.map pairD)]) (ea_cons (ev_drawC (ea_cons (ev_var (r := .cel 0) rfl) (ea_cons ev_int ea_nil)) (by omega) (by omega)) ea_nil) ⟨by omega, by omega⟩ (fun j M E => M = [pmc (evs (draw q 3).2 t j).2, .lst ((L ++ (evs (draw q 3).2 t j).1).map pairD)] ∧ ∃ x5 x6, E = [some (.cel 0), some (.dat (pairsD cs)), some (rint t), some (.cel 1), some (.dat (pairD c)), x5, x6]) ?u0 ?ub ?ud
      case u0 =>
        refine ⟨?_, x5, x6, rfl⟩
        show _ = [_, MC.lst ((L ++ []).map pairD)]
        rw [List.append_nil]; rfl
      case ud =>
        rintro M E ⟨rfl, x5, x6, rfl⟩ F As σ H S
        refine s_app (ds := (L ++ (evs (draw q 3).2 t (draw q 3).1.toNat).1).map pairD) S (ev_var (r := .cel 1) rfl) (ev_var (r := .dat (pairD c)) rfl) rfl rfl (by rw [List.length_map, List.length_append, el]; omega) ?_
        intro F As σ H S
        refine s_end S ⟨?_, _, _, _, rfl⟩ (Ele.refl _)
        rw [es, List.map_append (l₁ := L ++ _)]; rfl
      case ub =>
        rintro j M E hj ⟨rfl, x5, x6, rfl⟩ F As σ H S
        try simp only [List.set_cons_zero, List.set_cons_succ] at S
        refine q_set S (r := rint (draw (evs (draw q 3).2 t j).2 (t + 1)).1) (M' := [pmc (draw (evs (draw q 3).2 t j).2 (t + 1)).2, .lst ((L ++ (evs (draw q 3).2 t j).1).map pairD)]) (ev_drawC (ea_cons (ev_var (r := .cel 0) rfl) (ea_cons (ev_op (ev_var (r := rint t) rfl) ev_int od_int) ea_nil)) (by omega) (by omega)) ?_
        intro F As σ H S
        try simp only [List.set_cons_zero, List.set_cons_succ] at S
        refine s_app (ds := (L ++ (evs (draw q 3).2 t j).1).map pairD) (d := pairD ((draw (evs (draw q 3).2 t j).2 (t + 1)).1, (draw (evs (draw q 3).2 t j).2 (t + 1)).1)) S (ev_var (r := .cel 1) rfl) (ev_tup (ea_cons (ev_var (r := rint (draw (evs (draw q 3).2 t j).2 (t + 1)).1) rfl) (ea_cons (ev_var (r := rint (draw (evs (draw q 3).2 t j).2 (t + 1)).1) rfl) ea_nil)) rfl (Nat.le_of_ble_eq_true rfl)) rfl rfl (by rw [List.length_map, List.length_append, el]; omega) ?_
        intro F As σ H S
        refine s_end S ⟨?_, some (rint (j : Int)), some (rint (draw (evs (draw q 3).2 t j).2 (t + 1)).1), rfl⟩ (Ele.refl _)
        have e2 : evs (draw q 3).2 t (j + 1) = ((evs (draw q 3).2 t j).1 ++ [((draw (evs (draw q 3).2 t j).2 (t + 1)).1, (draw (evs (draw q 3).2 t j).2 (t + 1)).1)], (draw (evs (draw q 3).2 t j).2 (t + 1)).2) := rfl
        rw [e2]
        dsimp only
        rw [← List.append_assoc, List.map_append (l₁ := L ++ _)]; rfl
/-! ### the worth -/
def ph_kw : List MC → List Rv → List MC → Out → Prop := fun M rs M' o => ∃ t pl cs, M = [] ∧ rs = [rint t, rint pl, .dat (pairsD cs)] ∧ Prm t pl cs ∧ M' = [] ∧ o = .ret (.int (worthV t pl cs))
abbrev sp__law_k78_worth (K : PySem.W.Frag) : Sp := FSp K ph_kw
theorem ok__law_k78_worth {P : Program} {w : World} {K : PySem.W.Frag} {mg : Str → Option Value} {base : Heap} {ad : Ad} {fd : Fd} (T : Txt K mg w ad fd) : FnOk P w K mg base CX0 7 ad.a__law_k78_worth fd.d__law_k78_worth ["top", "play", "course"] (sp__law_k78_worth K) := by
  have G__law_f_stair_word := ok__law_f_stair_word (P := P) (base := base) T
  have b__law_f_stair_word := T.F__law_f_stair_word.binds (ps := ["top", "play", "course", "greatest", "claim"]) fun _ _ _ _ _ _ us hl => match us, hl with | [_, _, _, _, _], _ => rfl
  have G__law_matches := ok__law_matches (P := P) (base := base) T 5
  have b__law_matches := T.F__law_matches.binds (ps := ["answer", "due"]) fun _ _ _ _ _ _ us hl => match us, hl with | [_, _], _ => rfl
  have G__law_stair := ok__law_stair (P := P) (base := base) T
  have b__law_stair := T.F__law_stair.binds (ps := ["top", "play", "course"]) fun _ _ _ _ _ _ us hl => match us, hl with | [_, _, _], _ => rfl
  have G_judge_stair := ok_judge_stair (P := P) (base := base) T
  have b_judge_stair := T.F_judge_stair.binds (ps := ["top", "play", "course", "claim"]) fun _ _ _ _ _ _ us hl => match us, hl with | [_, _, _, _], _ => rfl
  have G_stair := ok_stair (P := P) (base := base) T
  have b_stair := T.F_stair.binds (ps := ["top", "play", "course"]) fun _ _ _ _ _ _ us hl => match us, hl with | [_, _, _], _ => rfl
  refine L2.Fun.ok (k := 6) T.F__law_k78_worth sc__law_k78_worth (fun vs H Q E h => ?_) (fun cdv A outer s H vs Q E hr h => ?_)
  · exact h.len fun M rs M' o ⟨_, _, _, _, e, _⟩ => by rw [e]; rfl
  · refine ⟨_, (pss_cons (ps_set (i := 3) sc__law_k78_worth.nd rfl (by first | exact Or.inl rfl | exact Or.inr rfl) (pe_call G_stair (hr.mono (by first | decide | omega)) rfl T.g_stair T.F_stair.kp b_stair .nil pass0 (pa_cons (pv 0) (pa_cons (pv 1) (pa_cons (pe_callTy (call_listK (K := K) rfl) (by rfl) T.n_list (by decide +kernel) (pa_cons (pv 2) pa_nil)) pa_nil)))))
  (pss_cons (ps_set (i := 4) sc__law_k78_worth.nd rfl (by first | exact Or.inl rfl | exact Or.inr rfl) (pe_call G__law_stair (hr.mono (by first | decide | omega)) rfl T.g__law_stair T.F__law_stair.kp b__law_stair .nil pass0 (pa_cons (pv 0) (pa_cons (pv 1) (pa_cons (pv 2) pa_nil)))))
  (pss_cons (ps_if (PW.pt (pw_or (pt_not (pt_val (pe_callB (call_isiK' (K := K) rfl) (by rfl) T.n_isinstance (by decide +kernel) (pa_cons (pv 3) (pa_cons (pe_bltn (v := .ty "tuple") rfl T.n_tuple (by decide +kernel) rfl) pa_nil))))) (pw_or (pt_cmpR op_ne (pe_callB (call_lenK (K := K) rfl) (by rfl) T.n_len (by decide +kernel) (pa_cons (pv 3) pa_nil)) (pe_int) (nomark _)) (pw_or (pt_not (pt_val (pe_call G__law_matches (hr.mono (by first | decide | omega)) rfl T.g__law_matches T.F__law_matches.kp b__law_matches .nil pass0 (pa_cons (pe_ix (ix_tupK (K := K) rfl) (pv 3) (pe_int) (fun _ _ => rfl)) (pa_cons (pv 4) pa_nil))))) (pw_or1 (pt_not (pt_val (pe_callB (call_isiK' (K := K) rfl) (by rfl) T.n_isinstance (by decide +kernel) (pa_cons (pe_ix (ix_tupK (K := K) rfl) (pv 3) (pe_int) (fun _ _ => rfl)) (pa_cons (pe_bltn (v := .ty "list") rfl T.n_list (by decide +kernel) rfl) pa_nil)))))))))) (pss_one (ps_ret (pe_un un_neg (pe_int)))) pss_nil)
  (pss_cons (ps_if (PW.pt (pw_or (pt_cmp (pc_notN (pe_call G_judge_stair (hr.mono (by first | decide | omega)) rfl T.g_judge_stair T.F_judge_stair.kp b_judge_stair .nil pass0 (pa_cons (pv 0) (pa_cons (pv 1) (pa_cons (pe_callTy (call_listK (K := K) rfl) (by rfl) T.n_list (by decide +kernel) (pa_cons (pv 2) pa_nil)) (pa_cons (pv 3) pa_nil))))))) (pw_or1 (pt_cmp (pc_notN (pe_call G__law_f_stair_word (hr.mono (by first | decide | omega)) rfl T.g__law_f_stair_word T.F__law_f_stair_word.kp b__law_f_stair_word .nil pass0 (pa_cons (pv 0) (pa_cons (pv 1) (pa_cons (pv 2) (pa_cons (pv 4) (pa_cons (pv 3) pa_nil))))))))))) (pss_one (ps_ret (pe_un un_neg (pe_int)))) pss_nil)
  (pss_one (ps_ret (pv 4))))))), ?_⟩
    try dsimp only [cxOf, Cx.nox, Cx.wish, List.map]
    refine h.reading fun F As M rs M' o hΦ hL B S hB hA post => ?_
    obtain ⟨t, pl, cs, rfl, rfl, hp, rfl, rfl⟩ := hΦ
    dsimp only at post
    obtain ⟨⟨h1, h2⟩, h3, h4, h5⟩ := id hp
    obtain ⟨s1, s2⟩ := stS_ok (t := t) (play := pl) (by omega) (cs := cs)
    have lc : ∀ {E : List (Option Rv)}, E[2]? = some (some (.dat (pairsD cs))) → EvD K _ [] E [] (.dat (pairsD cs)) := fun {E} z => ev_cb (ea_cons (ev_var z) ea_nil) (cd_list (.inl rfl))
    refine q_set S (r := .dat (clmD (worthV t pl cs) (stS t pl cs))) (M' := []) (ev_call0 (ea_cons (ev_var (r := rint t) rfl) (ea_cons (ev_var (r := rint pl) rfl) (ea_cons (lc rfl) ea_nil))) (by intro z; cases z) ⟨t, pl, cs, rfl, rfl, hp, rfl, rfl⟩) ?_
    intro F As σ H S
    refine q_set S (r := rint (worthV t pl cs)) (M' := []) (ev_call0 (ea_cons (ev_var (r := rint t) rfl) (ea_cons (ev_var (r := rint pl) rfl) (ea_cons (ev_var (r := .dat (pairsD cs)) rfl) ea_nil))) (by intro z; cases z) ⟨t, pl, cs, rfl, rfl, ⟨h1, by omega⟩, by omega, rfl, rfl⟩) ?_
    intro F As σ H S
    try simp only [List.set_cons_zero, List.set_cons_succ] at S
    refine q_if S (b := false) (et_is (et_or (b := false) (et_not (b := true) (et_B (ev_isi (t := "tuple") (ev_var (r := .dat (clmD (worthV t pl cs) (stS t pl cs))) rfl) rfl rfl))) (fun _ => et_or (b := false) (et_is (et_test (ev_op (ev_cb (ea_cons (ev_var (r := .dat (clmD (worthV t pl cs) (stS t pl cs))) rfl) ea_nil) cd_lenT) ev_int od_neI)) rfl) (fun _ => et_or (b := false) (c := false) (et_not (b := true) (et_B (ev_match (n := 4) (d := .int (worthV t pl cs)) (ea_cons (ev_op (ev_var (r := .dat (clmD (worthV t pl cs) (stS t pl cs))) rfl) ev_int (od_ixT rfl)) (ea_cons (ev_var (r := rint (worthV t pl cs)) rfl) ea_nil)) trivial))) (fun _ => et_not (b := true) (et_B (ev_isi (d := strD (stS t pl cs)) (t := "list") (ev_op (ev_var (r := .dat (clmD (worthV t pl cs) (stS t pl cs))) rfl) ev_int (od_ixT rfl)) rfl rfl)))))) rfl) (fun hc => by cases hc) ?_
    intro _ F As σ H S
    refine s_next S ?_
    intro F As σ H S
    try dsimp only
    refine q_if S (b := false) (et_is (et_or (b := false) (c := false) (et_B (ev_is (ev_notN (r := .dat .non) (ev_is (ev_call0 (ea_cons (ev_var (r := rint t) rfl) (ea_cons (ev_var (r := rint pl) rfl) (ea_cons (lc rfl) (ea_cons (ev_var (r := .dat (clmD (worthV t pl cs) (stS t pl cs))) rfl) ea_nil)))) (by intro z; cases z) ⟨t, pl, cs, _, _, rfl, rfl, hp, s1, s2.symm, rfl, rfl⟩) (by rw [decide_eq_true rfl]; rfl))) rfl)) (fun _ => et_B (ev_is (ev_notN (r := .dat .non) (ev_call0 (ea_cons (ev_var (r := rint t) rfl) (ea_cons (ev_var (r := rint pl) rfl) (ea_cons (ev_var (r := .dat (pairsD cs)) rfl) (ea_cons (ev_var (r := rint (worthV t pl cs)) rfl) (ea_cons (ev_var (r := .dat (clmD (worthV t pl cs) (stS t pl cs))) rfl) ea_nil))))) (by intro z; cases z) ⟨t, pl, cs, _, _, rfl, rfl, hp, s1, s2.symm, rfl, rfl⟩)) rfl))) rfl) (fun hc => by cases hc) ?_
    intro _ F As σ H S
    refine s_next S ?_
    intro F As σ H S
    try dsimp only
    refine s_ret S (ev_var (r := rint (worthV t pl cs)) rfl) ?_
    intro v F As σ H S r
    exact post _ _ _ _ _ _ _ S rfl r
end K78
set_option Elab.async false
set_option linter.all false
set_option maxRecDepth 100000
set_option maxHeartbeats 4000000
namespace K78
open PySem L2 DL
/-! ### the steps: one rule an expression, by its reading's head -/
local macro_rules | `(tactic| wtm_at "ev") => `(tactic| first
  | exact ev_var rfl
  | exact ev_int
  | exact ev_non
  | exact ev_bl
  | exact ev_str
  | exact ea_nil
  | with_reducible apply ea_cons
  | ((with_reducible refine' ev_isi ?a ?b ?c); (case' a => repeat' wtm_at "ev"); (case' b => exact rfl); (case' c => exact rfl))
  | with_reducible apply ev_cb
  | with_reducible apply ev_op
  | with_reducible apply ev_un
  | with_reducible apply et_test
  | with_reducible apply et_B
  | with_reducible apply et_not
  | with_reducible apply ev_isN
  | with_reducible apply ev_notN
  | with_reducible apply ev_notV
  | with_reducible apply et_and
  | with_reducible apply et_or
  | with_reducible apply ev_andV
  | with_reducible apply ev_orV
  | with_reducible apply ev_ifI
  | with_reducible apply ev_ifD
  | ((with_reducible refine' ev_dnotin ?a ?b ?c ?d); (case' a => repeat' wtm_at "ev"); (case' b => repeat' wtm_at "ev"); (case' c => exact rfl); (case' d => first | exact .inl rfl | exact .inr ⟨_, rfl, rfl⟩))
  | ((with_reducible refine' ev_din ?a ?b ?c ?d); (case' a => repeat' wtm_at "ev"); (case' b => repeat' wtm_at "ev"); (case' c => exact rfl); (case' d => first | exact .inl rfl | exact .inr ⟨_, rfl, rfl⟩))
  | with_reducible apply ev_lcLAI
  | with_reducible apply ev_lcLII
  | with_reducible apply ev_lcLA
  | with_reducible apply ev_lcLI
  | with_reducible apply ev_lcRAI
  | with_reducible apply ev_lcRI
  | with_reducible apply ev_lcRA
  | with_reducible apply ev_lcR
  | exact et_yes
  | with_reducible intro _
  | exact od_int
  | exact od_bool
  | exact od_eqI
  | exact od_neI
  | exact od_eqS
  | exact od_neS
  | exact ud_neg
  | exact cd_abs
  | exact cd_max2
  | exact cd_min2
  | exact cd_int
  | exact cd_intB
  | exact cd_lenScr
  | exact cd_lenT
  | exact cd_lenI (.inl rfl)
  | exact cd_lenI (.inr ⟨_, rfl, rfl⟩)
  | exact cd_len (.inl rfl)
  | exact cd_len (.inr ⟨_, rfl, rfl⟩)
  | exact cd_lenD (.inl rfl)
  | exact cd_lenD (.inr ⟨_, rfl, rfl⟩)
  | exact cd_sum (.inl rfl)
  | exact cd_sorted (.inl rfl)
  | exact cd_list (.inl rfl)
  | exact cd_listT
  | exact eo_none
  | with_reducible apply eo_some
  | with_reducible apply ev_sliceScr
  | refine' ev_sliceI ?_ ?_ ?_ (.inl rfl)
  | with_reducible apply od_intC
  | with_reducible apply od_ixScr
  | refine' od_ixI (.inl rfl) ?_ ?_
  | refine' od_ixI (.inr ⟨_, rfl, rfl⟩) ?_ ?_
  | exact od_ixT rfl
  | exact od_inI (.inl rfl)
  | exact od_notinI (.inl rfl)
  | refine' od_cat (.inl rfl) (.inl rfl) ?_
  | ((with_reducible refine' ev_tup ?h ?r ?l); (case' h => repeat' wtm_at "ev"); (case' r => exact rfl); (case' l => exact Nat.le_of_ble_eq_true rfl))
  | (refine (show CMul _ _ from .inl ⟨?_, ?_⟩) <;> decide)
  | (refine (show CMul _ _ from .inr ⟨?_, ?_⟩) <;> decide)
  | (refine (show (_ : Prop) from ?_); assumption)
  | (refine (show CDiv _ _ from ⟨?_, ?_⟩) <;> omega)
  | (refine (show CPow _ _ from ⟨?_, ?_, ?_⟩) <;> decide)
  | omega
  | (simp only [Pz.len]; done)
  | (simp only [Pz.len, List.length_map, List.length_append, List.length_range, List.length_set, List.length_reverse]; omega))
/-! a statement's step: its values are reckoned, what is left is the way on -/
local macro_rules | `(tactic| wtm_at "st") => `(tactic| first
  | (refine' q_set (by assumption) ?h ?k; (case' h => repeat' wtm_at "ev"); (case' k => (intro _ _ _ _ _; try dsimp only)))
  | (refine' s_set (by assumption) ?h ?k; (case' h => repeat' wtm_at "ev"); (case' k => (intro _ _ _ _ _; try dsimp only)))
  | (refine' q_augS (by assumption) ?h1 ?h2 ?h3 ?r1 ?r2 ?s1 ?s2 ?k; (case' h1 => repeat' wtm_at "ev"); (case' h2 => repeat' wtm_at "ev"); (case' h3 => repeat' wtm_at "ev"); (case' r1 => exact rfl); (case' r2 => exact rfl); (case' s1 => try wtm_at "ev"); (case' s2 => try wtm_at "ev"); (case' k => (intro _ _ _ _ _; try dsimp only)))
  | (refine' s_augS (by assumption) ?h1 ?h2 ?h3 ?r1 ?r2 ?s1 ?s2 ?k; (case' h1 => repeat' wtm_at "ev"); (case' h2 => repeat' wtm_at "ev"); (case' h3 => repeat' wtm_at "ev"); (case' r1 => exact rfl); (case' r2 => exact rfl); (case' s1 => try wtm_at "ev"); (case' s2 => try wtm_at "ev"); (case' k => (intro _ _ _ _ _; try dsimp only)))
  | (refine' q_setLI (by assumption) ?h ?h1 ?h2 ?r1 ?s1 ?s2 ?k; (case' h => repeat' wtm_at "ev"); (case' h1 => repeat' wtm_at "ev"); (case' h2 => repeat' wtm_at "ev"); (case' r1 => exact rfl); (case' s1 => try wtm_at "ev"); (case' s2 => try wtm_at "ev"); (case' k => (intro _ _ _ _ _; try dsimp only)))
  | (refine' q_setL (by assumption) ?h ?h1 ?h2 ?r1 ?s1 ?s2 ?k; (case' h => repeat' wtm_at "ev"); (case' h1 => repeat' wtm_at "ev"); (case' h2 => repeat' wtm_at "ev"); (case' r1 => exact rfl); (case' s1 => try wtm_at "ev"); (case' s2 => try wtm_at "ev"); (case' k => (intro _ _ _ _ _; try dsimp only)))
  | (refine' s_setLI (by assumption) ?h ?h1 ?h2 ?r1 ?s1 ?s2 ?k; (case' h => repeat' wtm_at "ev"); (case' h1 => repeat' wtm_at "ev"); (case' h2 => repeat' wtm_at "ev"); (case' r1 => exact rfl); (case' s1 => try wtm_at "ev"); (case' s2 => try wtm_at "ev"); (case' k => (intro _ _ _ _ _; try dsimp only)))
  | (refine' s_setL (by assumption) ?h ?h1 ?h2 ?r1 ?s1 ?s2 ?k; (case' h => repeat' wtm_at "ev"); (case' h1 => repeat' wtm_at "ev"); (case' h2 => repeat' wtm_at "ev"); (case' r1 => exact rfl); (case' s1 => try wtm_at "ev"); (case' s2 => try wtm_at "ev"); (case' k => (intro _ _ _ _ _; try dsimp only)))
  | (refine' q_appI (by assumption) ?h1 ?h ?r1 ?r2 ?s ?k; (case' h1 => repeat' wtm_at "ev"); (case' h => repeat' wtm_at "ev"); (case' r1 => exact rfl); (case' r2 => exact rfl); (case' s => try wtm_at "ev"); (case' k => (intro _ _ _ _ _; try dsimp only)))
  | (refine' q_app (by assumption) ?h1 ?h ?r1 ?r2 ?s ?k; (case' h1 => repeat' wtm_at "ev"); (case' h => repeat' wtm_at "ev"); (case' r1 => exact rfl); (case' r2 => exact rfl); (case' s => try wtm_at "ev"); (case' k => (intro _ _ _ _ _; try dsimp only)))
  | (refine' s_appI (by assumption) ?h1 ?h ?r1 ?r2 ?s ?k; (case' h1 => repeat' wtm_at "ev"); (case' h => repeat' wtm_at "ev"); (case' r1 => exact rfl); (case' r2 => exact rfl); (case' s => try wtm_at "ev"); (case' k => (intro _ _ _ _ _; try dsimp only)))
  | (refine' s_app (by assumption) ?h1 ?h ?r1 ?r2 ?s ?k; (case' h1 => repeat' wtm_at "ev"); (case' h => repeat' wtm_at "ev"); (case' r1 => exact rfl); (case' r2 => exact rfl); (case' s => try wtm_at "ev"); (case' k => (intro _ _ _ _ _; try dsimp only)))
  | (refine' q_dput (by assumption) ?h ?h1 ?h2 ?r1 ?r2 ?s ?k; (case' h => repeat' wtm_at "ev"); (case' h1 => repeat' wtm_at "ev"); (case' h2 => repeat' wtm_at "ev"); (case' r1 => exact rfl); (case' r2 => exact rfl); (case' s => try wtm_at "ev"); (case' k => (intro _ _ _ _ _; try dsimp only)))
  | (refine' s_dput (by assumption) ?h ?h1 ?h2 ?r1 ?r2 ?s ?k; (case' h => repeat' wtm_at "ev"); (case' h1 => repeat' wtm_at "ev"); (case' h2 => repeat' wtm_at "ev"); (case' r1 => exact rfl); (case' r2 => exact rfl); (case' s => try wtm_at "ev"); (case' k => (intro _ _ _ _ _; try dsimp only)))
  | (refine' q_tup2 (by assumption) ?h ?k; (case' h => repeat' wtm_at "ev"); (case' k => (intro _ _ _ _ _; try dsimp only)))
  | (refine' q_drop (by assumption) ?h ?k; (case' h => repeat' wtm_at "ev"); (case' k => (intro _ _ _ _ _; try dsimp only)))
  | (refine' q_if (by assumption) ?h ?k1 ?k2; (case' h => repeat' wtm_at "ev"))
  | (refine' s_if (by assumption) ?h ?k1 ?k2; (case' h => repeat' wtm_at "ev"))
  | (refine' s_ret (by assumption) ?h ?k; (case' h => repeat' wtm_at "ev"); (case' k => (intro _ _ _ _ _ _ _; try dsimp only)))
  | (refine' q_ret (by assumption) ?h ?k; (case' h => repeat' wtm_at "ev"); (case' k => (intro _ _ _ _ _ _ _; try dsimp only)))
  | ((with_reducible refine' s_next (by assumption) ?k); (case' k => (intro _ _ _ _ _; try dsimp only)))
  | (with_reducible refine q_next ?_))

/-! ### the peaks hold -/
theorem od_neW {K : PySem.W.Frag} {M : List MC} {b : Bool} : OpD K rNe M (.dat (wrdD b)) (.dat (wrdD b)) M (rbl false) := by
  cases b with
  | false =>
    have h := od_neS (K := K) (M := M) (i := "worth") (j := "worth")
    rw [show (!decide (("worth" : Str) = "worth")) = false by simp] at h
    exact h
  | true =>
    exact OpD.pure fun B F H As σ E v w S r1 r2 Q q => by
      cases R.non_inv r1; cases R.non_inv r2
      exact ⟨rfl, q _ (by
        rw [show (!decide (V.non = V.non)) = false by simp]
        exact .bl _)⟩
theorem sumP_arr {cs : List Beat} {i : Nat} {t : Int} : ∀ k : Nat, sumP cs i t k = (arr k fun j => PK cs i (t - (k : Int) + 1 + (j : Int))).sum
  | 0 => rfl
  | k + 1 => by
    have ih := sumP_arr (cs := cs) (i := i) (t := t) k
    show sumP cs i t k + PK cs i (t - (k : Int)) = _
    rw [arr_cons, List.sum_cons, ih, Int.add_comm]
    congr 1
    · congr 1
      omega
    · congr 1
      exact arr_ext fun j _ => by rw [show t - ((k + 1 : Nat) : Int) + 1 + ((j + 1 : Nat) : Int) = t - (k : Int) + 1 + (j : Int) by omega]
theorem PR_sum {t : Int} (ht : 1 ≤ t) {cs : List Beat} {i : Nat} : (PR t cs i).sum = sumP cs i t t.toNat := by
  rw [sumP_arr]
  unfold PR
  congr 1
  exact arr_ext fun j _ => by rw [show t - ((t.toNat : Nat) : Int) + 1 + (j : Int) = (j : Int) + 1 by omega]
theorem PR_max {t : Int} (ht : 1 ≤ t) {cs : List Beat} : mxI (PR t cs cs.length) ≤ worthV t 0 cs := by
  have ne : PR t cs cs.length ≠ [] := by
    intro z
    have := congrArg List.length z
    rw [PR_len] at this
    have : t.toNat = 0 := this
    omega
  obtain ⟨k, hk, e1⟩ := arr_mem.mp (mxI_mem ne)
  have e2 : PK cs cs.length ((k : Int) + 1) = mxI (PR t cs cs.length) := e1
  rw [← e2, ← WW_all]
  exact peak_le (Nat.le_refl _) _ (by omega) (by omega)
theorem PR_ge {t : Int} (ht : 1 ≤ t) {cs : List Beat} : worthV t 0 cs ≤ (PR t cs cs.length).sum := by
  rw [PR_sum ht, ← WW_all]
  exact worth_sum ht (Nat.le_refl _)
theorem PR_gI {t e : Int} (h1 : 1 ≤ e) (h2 : e ≤ t) {cs : List Beat} {i : Nat} : gI (PR t cs i) (e - 1) = PK cs i e := by
  have := PR_at (t := t) (cs := cs) (i := i) (k := (e - 1).toNat) (by omega)
  rw [show (((e - 1).toNat : Nat) : Int) = e - 1 by omega, show e - 1 + 1 = e by omega] at this
  exact this
def ph_pkh : List MC → List Rv → List MC → Out → Prop := fun M rs M' o => ∃ t cs, M = [] ∧ rs = [rint t, .dat (pairsD cs)] ∧ Prm t 0 cs ∧ M' = [] ∧ o = .ret (.bl true)
abbrev sp__law_k78_peaks_hold (K : PySem.W.Frag) : Sp := FSp K ph_pkh
theorem ok__law_k78_peaks_hold {P : Program} {w : World} {K : PySem.W.Frag} {mg : Str → Option Value} {base : Heap} {ad : Ad} {fd : Fd} (T : Txt K mg w ad fd) : FnOk P w K mg base CX0 8 ad.a__law_k78_peaks_hold fd.d__law_k78_peaks_hold ["top", "course"] (sp__law_k78_peaks_hold K) := by
  have G_Excess___init__ := ok_Excess___init__ (P := P) (base := base) T
  have b_Excess___init__ := T.F_Excess___init__.binds (ps := ["self", "top"]) fun _ _ _ _ _ _ us hl => match us, hl with | [_, _], _ => rfl
  have G_Excess_add_beat := ok_Excess_add_beat (P := P) (base := base) T
  have b_Excess_add_beat := T.F_Excess_add_beat.binds (ps := ["self", "bore", "pin"]) fun _ _ _ _ _ _ us hl => match us, hl with | [_, _, _], _ => rfl
  have G_Excess_peaks := ok_Excess_peaks (P := P) (base := base) T
  have b_Excess_peaks := T.F_Excess_peaks.binds (ps := ["self"]) fun _ _ _ _ _ _ us hl => match us, hl with | [_], _ => rfl
  have G__law_f_worth := ok__law_f_worth (P := P) (base := base) T
  have b__law_f_worth := T.F__law_f_worth.binds (ps := ["play", "course", "stretch"]) fun _ _ _ _ _ _ us hl => match us, hl with | [_, _, _], _ => rfl
  have G__law_k78_worth := ok__law_k78_worth (P := P) (base := base) T
  have b__law_k78_worth := T.F__law_k78_worth.binds (ps := ["top", "play", "course"]) fun _ _ _ _ _ _ us hl => match us, hl with | [_, _, _], _ => rfl
  have G__law_matches := ok__law_matches (P := P) (base := base) T 5
  have b__law_matches := T.F__law_matches.binds (ps := ["answer", "due"]) fun _ _ _ _ _ _ us hl => match us, hl with | [_, _], _ => rfl
  have G__law_peaks := ok__law_peaks (P := P) (base := base) T
  have b__law_peaks := T.F__law_peaks.binds (ps := ["top", "course"]) fun _ _ _ _ _ _ us hl => match us, hl with | [_, _], _ => rfl
  have G_greatest_stretch := ok_greatest_stretch (P := P) (base := base) T
  have b_greatest_stretch := T.F_greatest_stretch.binds (ps := ["top", "course", "level"]) fun _ _ _ _ _ _ us hl => match us, hl with | [_, _, _], _ => rfl
  have G_judge_stair := ok_judge_stair (P := P) (base := base) T
  have b_judge_stair := T.F_judge_stair.binds (ps := ["top", "play", "course", "claim"]) fun _ _ _ _ _ _ us hl => match us, hl with | [_, _, _, _], _ => rfl
  refine L2.Fun.ok (k := 7) T.F__law_k78_peaks_hold sc__law_k78_peaks_hold (fun vs H Q E h => ?_) (fun cdv A outer s H vs Q E hr h => ?_)
  · exact h.len fun M rs M' o ⟨_, _, _, e, _⟩ => by rw [e]; rfl
  · have hu := hu_of hr
    refine ⟨_, (pss_cons (ps_set (i := 2) sc__law_k78_peaks_hold.nd rfl (by first | exact Or.inl rfl | exact Or.inr rfl) (pe_call G__law_peaks (hr.mono (by first | decide | omega)) rfl T.g__law_peaks T.F__law_peaks.kp b__law_peaks .nil pass0 (pa_cons (pv 0) (pa_cons (pv 1) pa_nil))))
  (pss_cons (ps_set (i := 3) sc__law_k78_peaks_hold.nd rfl (by first | exact Or.inl rfl | exact Or.inr rfl) (pe_make T.mk_Excess G_Excess___init__ (hr.mono (by first | decide | omega)) rfl T.g_Excess b_Excess___init__ .nil pass0 (pa_cons (pv 0) pa_nil)))
  (pss_cons (ps_for PassesOwn.never rfl (pi_listK (K := K) rfl (pv 1)) (pg_name (i := 4) sc__law_k78_peaks_hold.nd rfl (by first | exact Or.inl rfl | exact Or.inr rfl))
  (pss_one (ps_expr (pe_meth (pv 3) T.cl_Excess T.m_Excess_add_beat G_Excess_add_beat (hr.mono (by decide)) b_Excess_add_beat .nil pass0 (pa_cons (pe_ix (ix_tupK (K := K) rfl) (pv 4) (pe_int) (fun _ _ => rfl)) (pa_cons (pe_ix (ix_tupK (K := K) rfl) (pv 4) (pe_int) (fun _ _ => rfl)) pa_nil))))))
  (pss_cons (ps_if (pt_not (pt_val (pe_call G__law_matches (hr.mono (by first | decide | omega)) rfl T.g__law_matches T.F__law_matches.kp b__law_matches .nil pass0 (pa_cons (pe_meth0 (pv 3) T.cl_Excess T.m_Excess_peaks G_Excess_peaks (hr.mono (by decide)) b_Excess_peaks .nil pass0) (pa_cons (pv 2) pa_nil))))) (pss_one (ps_ret (pe_bl))) pss_nil)
  (pss_cons (ps_set (i := 5) sc__law_k78_peaks_hold.nd rfl (by first | exact Or.inl rfl | exact Or.inr rfl) (pe_call G__law_k78_worth (hr.mono (by first | decide | omega)) rfl T.g__law_k78_worth T.F__law_k78_worth.kp b__law_k78_worth .nil pass0 (pa_cons (pv 0) (pa_cons (pe_int) (pa_cons (pv 1) pa_nil)))))
  (pss_cons (ps_if (PW.pt (pw_or (pt_cmpR op_lt (pv 5) (pe_callB (cr_maxK (K := K) rfl rfl) (by rfl) T.n_max (by decide +kernel) (pa_cons (pv 2) pa_nil)) (nomark _)) (pw_or1 (pt_cmpR op_gt (pv 5) (pe_callB (cr_sumK (K := K) rfl rfl) (by rfl) T.n_sum (by decide +kernel) (pa_cons (pv 2) pa_nil)) (nomark _))))) (pss_one (ps_ret (pe_bl))) pss_nil)
  (pss_cons (ps_for PassesOwn.never rfl (pi_range2 (by rfl) T.n_range (pa_cons (pe_int) (pa_cons (pe_op op_add (pv 0) (pe_int)) pa_nil))) (pg_name (i := 6) sc__law_k78_peaks_hold.nd rfl (by first | exact Or.inl rfl | exact Or.inr rfl))
  (pss_cons (ps_set (i := 7) sc__law_k78_peaks_hold.nd rfl (by first | exact Or.inl rfl | exact Or.inr rfl) (pe_call G_greatest_stretch (hr.mono (by first | decide | omega)) rfl T.g_greatest_stretch T.F_greatest_stretch.kp b_greatest_stretch .nil passN (pa_cons (pv 0) (pa_cons (pe_callTy (call_listK (K := K) rfl) (by rfl) T.n_list (by decide +kernel) (pa_cons (pv 1) pa_nil)) (pa_cons (pv 6) pa_nil)))))
  (pss_cons (ps_if (PW.pt (pw_or (pt_not (pt_val (pe_callB (call_isiK' (K := K) rfl) (by rfl) T.n_isinstance (by decide +kernel) (pa_cons (pv 7) (pa_cons (pe_bltn (v := .ty "tuple") rfl T.n_tuple (by decide +kernel) rfl) pa_nil))))) (pw_or (pt_cmpR op_ne (pe_callB (call_lenK (K := K) rfl) (by rfl) T.n_len (by decide +kernel) (pa_cons (pv 7) pa_nil)) (pe_int) (nomark _)) (pw_or1 (pt_not (pt_val (pe_call G__law_matches (hr.mono (by first | decide | omega)) rfl T.g__law_matches T.F__law_matches.kp b__law_matches .nil pass0 (pa_cons (pe_ix (ix_tupK (K := K) rfl) (pv 7) (pe_int) (fun _ _ => rfl)) (pa_cons (pe_ix (ix_listK (K := K) rfl) (pv 2) (pe_op op_sub (pv 6) (pe_int)) (fun _ _ => rfl)) pa_nil))))))))) (pss_one (ps_ret (pe_bl))) pss_nil)
  (pss_cons (ps_if (pt_cmpR op_eq (pe_ix (ix_listK (K := K) rfl) (pv 2) (pe_op op_sub (pv 6) (pe_int)) (fun _ _ => rfl)) (pe_int) (nomark _)) (pss_one (ps_continue)) pss_nil)
  (pss_cons (ps_set (i := 8) sc__law_k78_peaks_hold.nd rfl (by first | exact Or.inl rfl | exact Or.inr rfl) (pe_ifExp (pt_cmpR op_eq (pe_ix (ix_listK (K := K) rfl) (pv 2) (pe_op op_sub (pv 6) (pe_int)) (fun _ _ => rfl)) (pv 5) (nomark _)) (pe_non) (pe_str)))
  (pss_one (ps_if (PW.pt (pw_or (pt_cmpR op_ne (pe_call G__law_f_worth (hr.mono (by first | decide | omega)) rfl T.g__law_f_worth T.F__law_f_worth.kp b__law_f_worth .nil pass0 (pa_cons (pe_int) (pa_cons (pv 1) (pa_cons (pe_tup (pa_cons (pv 6) (pa_cons (pe_ix (ix_tupK (K := K) rfl) (pv 7) (pe_int) (fun _ _ => rfl)) (pa_cons (pe_ix (ix_tupK (K := K) rfl) (pv 7) (pe_int) (fun _ _ => rfl)) pa_nil)))) pa_nil)))) (pe_ix (ix_tupK (K := K) rfl) (pv 7) (pe_int) (fun _ _ => rfl)) (nomark _)) (pw_or1 (pt_cmpR op_ne (pe_call G_judge_stair (hr.mono (by first | decide | omega)) rfl T.g_judge_stair T.F_judge_stair.kp b_judge_stair .nil pass0 (pa_cons (pv 0) (pa_cons (pe_int) (pa_cons (pv 1) (pa_cons (pe_tup (pa_cons (pe_ix (ix_tupK (K := K) rfl) (pv 7) (pe_int) (fun _ _ => rfl)) (pa_cons (pe_lst (pa_cons (pe_tup (pa_cons (pv 6) (pa_cons (pe_ix (ix_tupK (K := K) rfl) (pv 7) (pe_int) (fun _ _ => rfl)) (pa_cons (pe_ix (ix_tupK (K := K) rfl) (pv 7) (pe_int) (fun _ _ => rfl)) pa_nil)))) pa_nil)) pa_nil))) pa_nil))))) (pv 8) (nomark _))))) (pss_one (ps_ret (pe_bl))) pss_nil)))))))
  (pss_one (ps_ret (pe_bl)))))))))), ?_⟩
    try dsimp only [cxOf, Cx.nox, Cx.wish, List.map]
    refine h.reading fun F As M rs M' o hΦ hL B S hB hA post => ?_
    obtain ⟨t, cs, rfl, rfl, hp, rfl, rfl⟩ := hΦ
    dsimp only at post
    obtain ⟨⟨h1, h2⟩, h3, h4, h5⟩ := id hp
    obtain ⟨Pk, hPk⟩ : ∃ Pk, PR t cs cs.length = Pk := ⟨_, rfl⟩
    have hlen : Pk.length = t.toNat := by rw [← hPk]; exact PR_len
    refine q_set S (r := rints (PR t cs cs.length)) (M' := []) (ev_call0 (ea_cons (ev_var (r := rint t) rfl) (ea_cons (ev_var (r := .dat (pairsD cs)) rfl) ea_nil)) (by intro z; cases z) ⟨t, cs, rfl, rfl, ⟨h1, by omega⟩, by omega, rfl, rfl⟩) ?_
    intro F As σ H S
    rw [hPk] at S
    refine q_set S (r := .cel 0) (M' := [.ins ad.C_Excess (exF t (XR t cs 0) (PR t cs 0))]) (ev_make (M1 := []) (fs := exF t (XR t [] 0) (PR t [] 0)) (ea_cons (ev_var (r := rint t) rfl) ea_nil) (by intro z; cases z) ⟨t, rfl, rfl, ⟨h1, h2⟩, rfl, rfl⟩) ?_
    intro F As σ H S
    try simp only [List.set_cons_zero, List.set_cons_succ] at S
    refine' q_forL S (ds := cs.map pairD) (ev_var (r := .dat (pairsD cs)) rfl) (fun i M E => M = [.ins ad.C_Excess (exF t (XR t cs i) (PR t cs i))] ∧ ∃ x, E = [some (rint t), some (.dat (pairsD cs)), some (rints Pk), some (.cel 0), x, none, none, none, none]) ⟨rfl, none, rfl⟩ ?ub ?ud
    case ub =>
      rintro B2 cv i d M E hn ⟨rfl, x, rfl⟩ F As σ H S
      obtain ⟨c, hc, rfl⟩ := pair_of hn
      try simp only [List.set_cons_zero, List.set_cons_succ] at S
      refine s_drop S (M' := [.ins ad.C_Excess (exF t (XR t cs (i + 1)) (PR t cs (i + 1)))]) (r := .dat .non) (ev_mtC (k := 0) (ev_var (r := .cel 0) rfl) rfl ex_mt1 (ea_cons (ev_op (ev_var (r := .dat (pairD c)) rfl) ev_int (od_ixT (d := .int c.1) rfl)) (ea_cons (ev_op (ev_var (r := .dat (pairD c)) rfl) ev_int (od_ixT (d := .int c.2) rfl)) ea_nil)) (cl_all ⟨t, cs, i, c, rfl, rfl, ⟨h1, h2⟩, h5 c (List.mem_of_getElem? hc), hc, rfl, rfl⟩ (fun j m hj => .inr (by
        cases j with
        | zero => cases hj; intro z; cases z
        | succ j => cases hj)))) ?_
      intro F As σ H S
      exact s_end S ⟨rfl, _, rfl⟩ (Ele.refl _)
    case ud =>
    rintro M E ⟨rfl, x, rfl⟩ F As σ H S
    rw [List.length_map, hPk] at S
    obtain ⟨ex, hex⟩ : ∃ ex, MC.ins ad.C_Excess (exF t (XR t cs cs.length) Pk) = ex := ⟨_, rfl⟩
    refine q_if S (b := false) (M' := [.ins ad.C_Excess (exF t (XR t cs cs.length) Pk)]) (et_not (b := true) (et_B (ev_match (n := 4) (d := .lst (Pk.map D.int)) (ea_cons (ev_mtC (k := 0) (ev_var (r := .cel 0) rfl) rfl ex_mt2 ea_nil (cl_read ⟨t, _, Pk, rfl, rfl, by omega, rfl, rfl⟩)) (ea_cons (ev_var (r := rints Pk) rfl) ea_nil)) (Plain.ints 3 (by omega))))) (fun hc => by cases hc) ?_
    intro _ F As σ H S
    refine s_next S ?_
    intro F As σ H S
    try dsimp only
    refine q_set S (r := rint (worthV t 0 cs)) (M' := [.ins ad.C_Excess (exF t (XR t cs cs.length) Pk)]) (ev_call0 (ea_cons (ev_var (r := rint t) rfl) (ea_cons ev_int (ea_cons (ev_var (r := .dat (pairsD cs)) rfl) ea_nil))) (by intro z; cases z) ⟨t, 0, cs, rfl, rfl, hp, rfl, rfl⟩) ?_
    intro F As σ H S
    try simp only [List.set_cons_zero, List.set_cons_succ] at S
    have b1 := PR_max h1 (cs := cs)
    have b2 := PR_ge h1 (cs := cs)
    rw [hPk] at b1 b2
    refine q_if S (b := false) (et_is (et_or (b := false) (c := false) (et_is (et_test (ev_op (ev_var (r := rint (worthV t 0 cs)) rfl) (ev_cb (ea_cons (ev_var (r := rints Pk) rfl) ea_nil) (cd_max (.inl rfl) (by omega))) od_bool)) (decide_eq_false (by omega))) (fun _ => et_is (et_test (ev_op (ev_var (r := rint (worthV t 0 cs)) rfl) (ev_cb (ea_cons (ev_var (r := rints Pk) rfl) ea_nil) (cd_sum (.inl rfl))) od_bool)) (decide_eq_false (by omega)))) rfl) (fun hc => by cases hc) ?_
    intro _ F As σ H S
    refine s_next S ?_
    intro F As σ H S
    try dsimp only
    refine' q_forR2 S (a := 1) (n := t + 1) (ea_cons ev_int (ea_cons (ev_op (ev_var (r := rint t) rfl) ev_int od_int) ea_nil)) ⟨by omega, by omega, by omega, by omega⟩ (fun k M E => M = [.ins ad.C_Excess (exF t (XR t cs cs.length) Pk)] ∧ ∃ x6 x7 x8, E = [some (rint t), some (.dat (pairsD cs)), some (rints Pk), some (.cel 0), x, some (rint (worthV t 0 cs)), x6, x7, x8]) ⟨rfl, none, none, none, rfl⟩ ?eb ?ed
    case ed =>
      rintro M E ⟨rfl, x6, x7, x8, rfl⟩ F As σ H S
      refine s_ret S (r := rbl true) ev_bl ?_
      intro v F As σ H S r
      exact post _ _ _ _ _ _ _ S rfl r
    case eb =>
      rintro k M E hk ⟨rfl, x6, x7, x8, rfl⟩ F As σ H S
      obtain ⟨e, he⟩ : ∃ e, (1 : Int) + (k : Int) = e := ⟨_, rfl⟩
      rw [he] at S hk
      have e1 : 1 ≤ e := by omega
      have e2 : e ≤ t := by omega
      have gp : gI Pk (e - 1) = PK cs cs.length e := by rw [← hPk]; exact PR_gI e1 e2
      obtain ⟨k1, k2⟩ := kdB_ok (cs := cs) (e := e) cs.length
      obtain ⟨bt, hbt⟩ : ∃ bt, kdB cs e cs.length = bt := ⟨_, rfl⟩
      rw [hbt] at k1 k2
      rw [← k1] at gp
      try simp only [List.set_cons_zero, List.set_cons_succ] at S
      have ixp : ∀ {M : List MC} {E : List (Option Rv)}, E[2]? = some (some (rints Pk)) → E[6]? = some (some (rint e)) → EvD K (tOp (rIxL K) (tVar 2) (tOp (rI0 fun i j => V.int (i - j)) (tVar 6) (tC (.int 1)))) M E M (rint bt.1) := fun {M E} a b => ev_is (ev_op (ev_var a) (ev_op (ev_var b) ev_int od_int) (od_ixI (.inl rfl) (by omega) (by omega))) (by rw [gp])
      refine q_set S (r := .dat (t3D bt)) (M' := [.ins ad.C_Excess (exF t (XR t cs cs.length) Pk)]) (ev_is (ev_call0 (ea_cons (ev_var (r := rint t) rfl) (ea_cons (ev_cb (ea_cons (ev_var (r := .dat (pairsD cs)) rfl) ea_nil) (cd_list (ds := cs.map pairD) (.inl rfl))) (ea_cons (ev_var (r := rint e) rfl) ea_nil))) (by intro z; cases z) ⟨t, cs, e, rfl, rfl, ⟨h1, h2⟩, h4, h5, ⟨e1, e2⟩, rfl, rfl⟩) (by rw [hbt])) ?_
      intro F As σ H S
      try simp only [List.set_cons_zero, List.set_cons_succ] at S
      refine q_if S (b := false) (et_is (et_or (b := false) (et_not (b := true) (et_B (ev_isi (t := "tuple") (ev_var (r := .dat (t3D bt)) rfl) rfl rfl))) (fun _ => et_or (b := false) (c := false) (et_is (et_test (ev_op (ev_cb (ea_cons (ev_var (r := .dat (t3D bt)) rfl) ea_nil) cd_lenT) ev_int od_neI)) rfl) (fun _ => et_not (b := true) (et_B (ev_match (n := 4) (d := .int bt.1) (ea_cons (ev_op (ev_var (r := .dat (t3D bt)) rfl) ev_int (od_ixT rfl)) (ea_cons (ixp rfl rfl) ea_nil)) trivial))))) rfl) (fun hc => by cases hc) ?_
      intro _ F As σ H S
      refine s_next S ?_
      intro F As σ H S
      try dsimp only
      refine q_if S (b := decide (bt.1 = 0)) (et_test (ev_op (ixp rfl rfl) ev_int od_eqI)) ?_ ?_
      · intro hb F As σ H S
        exact s_end S ⟨rfl, _, _, _, rfl⟩ (Ele.refl _)
      intro hb F As σ H S
      have hb := of_decide_eq_false hb
      obtain ⟨⟨f1, f2, f3⟩, f4⟩ := k2.resolve_left hb
      refine s_next S ?_
      intro F As σ H S
      try dsimp only
      refine q_set S (r := .dat (wrdD (decide (bt.1 = worthV t 0 cs)))) (M' := [.ins ad.C_Excess (exF t (XR t cs cs.length) Pk)]) (ev_ifD (et_test (ev_op (ixp rfl rfl) (ev_var (r := rint (worthV t 0 cs)) rfl) od_eqI)) (fun _ => ev_non) (fun _ => ev_str)) ?_
      intro F As σ H S
      try simp only [List.set_cons_zero, List.set_cons_succ] at S
      have fm : Form t cs.length (e, bt.2) := ⟨⟨e1, e2⟩, f1, f2, f3⟩
      have tp : ∀ {M : List MC} {E : List (Option Rv)}, E[6]? = some (some (rint e)) → E[7]? = some (some (.dat (t3D bt))) → EvD K (tTup (tCons (tVar 6) (tCons (tOp (rIxT K) (tVar 7) (tC (.int 1))) (tCons (tOp (rIxT K) (tVar 7) (tC (.int 2))) tNil)))) M E M (.dat (t3D (e, bt.2))) := fun {M E} a b => ev_tup (ea_cons (ev_var a) (ea_cons (ev_op (ev_var b) ev_int (od_ixT (d := .int bt.2.1) rfl)) (ea_cons (ev_op (ev_var b) ev_int (od_ixT (d := .int bt.2.2) rfl)) ea_nil))) rfl (Nat.le_of_ble_eq_true rfl)
      have sw : Stw t cs.length [(e, bt.2)] := ⟨(fun s hs => by rw [List.mem_singleton.mp hs]; exact fm), trivial⟩
      have wl : bt.1 = wall 0 cs [(e, bt.2)] := by
        rw [← f4]
        show _ = _ + 0
        omega
      refine s_if S (b := false) (et_is (et_or (b := false) (c := false) (et_is (et_test (ev_op (ev_call0 (ea_cons ev_int (ea_cons (ev_var (r := .dat (pairsD cs)) rfl) (ea_cons (tp rfl rfl) ea_nil))) (by intro z; cases z) ⟨t, 0, cs, (e, bt.2), rfl, rfl, h4, fm, rfl, rfl⟩) (ev_op (ev_var (r := .dat (t3D bt)) rfl) ev_int (od_ixT (d := .int bt.1) rfl)) od_neI)) (by rw [f4]; simp)) (fun _ => et_test (ev_op (ev_call0 (ea_cons (ev_var (r := rint t) rfl) (ea_cons ev_int (ea_cons (ev_var (r := .dat (pairsD cs)) rfl) (ea_cons (ev_tup (ds := [.int bt.1, strD [(e, bt.2)]]) (ea_cons (ev_op (ev_var (r := .dat (t3D bt)) rfl) ev_int (od_ixT (d := .int bt.1) rfl)) (ea_cons (ev_lst (ds := [t3D (e, bt.2)]) (ea_cons (tp rfl rfl) ea_nil) rfl (Nat.le_of_ble_eq_true rfl)) ea_nil)) rfl (Nat.le_of_ble_eq_true rfl)) ea_nil)))) (by intro z; cases z) ⟨t, 0, cs, bt.1, [(e, bt.2)], rfl, rfl, hp, sw, wl, rfl, rfl⟩) (ev_var (r := .dat (wrdD (decide (bt.1 = worthV t 0 cs)))) rfl) od_neW))) rfl) (fun hc => by cases hc) ?_
      intro _ F As σ H S
      refine s_next S ?_
      intro F As σ H S
      exact s_end S ⟨rfl, _, _, _, rfl⟩ (Ele.refl _)
end K78
set_option Elab.async false
set_option linter.all false
set_option maxRecDepth 100000
set_option maxHeartbeats 4000000
namespace K78
open PySem L2 DL
/-! ### the steps: one rule an expression, by its reading's head -/
local macro_rules | `(tactic| wtm_at "ev") => `(tactic| first
  | exact ev_var rfl
  | exact ev_int
  | exact ev_non
  | exact ev_bl
  | exact ev_str
  | exact ea_nil
  | with_reducible apply ea_cons
  | ((with_reducible refine' ev_isi ?a ?b ?c); (case' a => repeat' wtm_at "ev"); (case' b => exact rfl); (case' c => exact rfl))
  | with_reducible apply ev_cb
  | with_reducible apply ev_op
  | with_reducible apply ev_un
  | with_reducible apply et_test
  | with_reducible apply et_B
  | with_reducible apply et_not
  | with_reducible apply ev_isN
  | with_reducible apply ev_notN
  | with_reducible apply ev_notV
  | with_reducible apply et_and
  | with_reducible apply et_or
  | with_reducible apply ev_andV
  | with_reducible apply ev_orV
  | with_reducible apply ev_ifI
  | with_reducible apply ev_ifD
  | ((with_reducible refine' ev_dnotin ?a ?b ?c ?d); (case' a => repeat' wtm_at "ev"); (case' b => repeat' wtm_at "ev"); (case' c => exact rfl); (case' d => first | exact .inl rfl | exact .inr ⟨_, rfl, rfl⟩))
  | ((with_reducible refine' ev_din ?a ?b ?c ?d); (case' a => repeat' wtm_at "ev"); (case' b => repeat' wtm_at "ev"); (case' c => exact rfl); (case' d => first | exact .inl rfl | exact .inr ⟨_, rfl, rfl⟩))
  | with_reducible apply ev_lcLAI
  | with_reducible apply ev_lcLII
  | with_reducible apply ev_lcLA
  | with_reducible apply ev_lcLI
  | with_reducible apply ev_lcRAI
  | with_reducible apply ev_lcRI
  | with_reducible apply ev_lcRA
  | with_reducible apply ev_lcR
  | exact et_yes
  | with_reducible intro _
  | exact od_int
  | exact od_bool
  | exact od_eqI
  | exact od_neI
  | exact od_eqS
  | exact od_neS
  | exact ud_neg
  | exact cd_abs
  | exact cd_max2
  | exact cd_min2
  | exact cd_int
  | exact cd_intB
  | exact cd_lenScr
  | exact cd_lenT
  | exact cd_lenI (.inl rfl)
  | exact cd_lenI (.inr ⟨_, rfl, rfl⟩)
  | exact cd_len (.inl rfl)
  | exact cd_len (.inr ⟨_, rfl, rfl⟩)
  | exact cd_lenD (.inl rfl)
  | exact cd_lenD (.inr ⟨_, rfl, rfl⟩)
  | exact cd_sum (.inl rfl)
  | exact cd_sorted (.inl rfl)
  | exact cd_list (.inl rfl)
  | exact cd_listT
  | exact eo_none
  | with_reducible apply eo_some
  | with_reducible apply ev_sliceScr
  | refine' ev_sliceI ?_ ?_ ?_ (.inl rfl)
  | with_reducible apply od_intC
  | with_reducible apply od_ixScr
  | refine' od_ixI (.inl rfl) ?_ ?_
  | refine' od_ixI (.inr ⟨_, rfl, rfl⟩) ?_ ?_
  | exact od_ixT rfl
  | exact od_inI (.inl rfl)
  | exact od_notinI (.inl rfl)
  | refine' od_cat (.inl rfl) (.inl rfl) ?_
  | ((with_reducible refine' ev_tup ?h ?r ?l); (case' h => repeat' wtm_at "ev"); (case' r => exact rfl); (case' l => exact Nat.le_of_ble_eq_true rfl))
  | (refine (show CMul _ _ from .inl ⟨?_, ?_⟩) <;> decide)
  | (refine (show CMul _ _ from .inr ⟨?_, ?_⟩) <;> decide)
  | (refine (show (_ : Prop) from ?_); assumption)
  | (refine (show CDiv _ _ from ⟨?_, ?_⟩) <;> omega)
  | (refine (show CPow _ _ from ⟨?_, ?_, ?_⟩) <;> decide)
  | omega
  | (simp only [Pz.len]; done)
  | (simp only [Pz.len, List.length_map, List.length_append, List.length_range, List.length_set, List.length_reverse]; omega))
/-! a statement's step: its values are reckoned, what is left is the way on -/
local macro_rules | `(tactic| wtm_at "st") => `(tactic| first
  | (refine' q_set (by assumption) ?h ?k; (case' h => repeat' wtm_at "ev"); (case' k => (intro _ _ _ _ _; try dsimp only)))
  | (refine' s_set (by assumption) ?h ?k; (case' h => repeat' wtm_at "ev"); (case' k => (intro _ _ _ _ _; try dsimp only)))
  | (refine' q_augS (by assumption) ?h1 ?h2 ?h3 ?r1 ?r2 ?s1 ?s2 ?k; (case' h1 => repeat' wtm_at "ev"); (case' h2 => repeat' wtm_at "ev"); (case' h3 => repeat' wtm_at "ev"); (case' r1 => exact rfl); (case' r2 => exact rfl); (case' s1 => try wtm_at "ev"); (case' s2 => try wtm_at "ev"); (case' k => (intro _ _ _ _ _; try dsimp only)))
  | (refine' s_augS (by assumption) ?h1 ?h2 ?h3 ?r1 ?r2 ?s1 ?s2 ?k; (case' h1 => repeat' wtm_at "ev"); (case' h2 => repeat' wtm_at "ev"); (case' h3 => repeat' wtm_at "ev"); (case' r1 => exact rfl); (case' r2 => exact rfl); (case' s1 => try wtm_at "ev"); (case' s2 => try wtm_at "ev"); (case' k => (intro _ _ _ _ _; try dsimp only)))
  | (refine' q_setLI (by assumption) ?h ?h1 ?h2 ?r1 ?s1 ?s2 ?k; (case' h => repeat' wtm_at "ev"); (case' h1 => repeat' wtm_at "ev"); (case' h2 => repeat' wtm_at "ev"); (case' r1 => exact rfl); (case' s1 => try wtm_at "ev"); (case' s2 => try wtm_at "ev"); (case' k => (intro _ _ _ _ _; try dsimp only)))
  | (refine' q_setL (by assumption) ?h ?h1 ?h2 ?r1 ?s1 ?s2 ?k; (case' h => repeat' wtm_at "ev"); (case' h1 => repeat' wtm_at "ev"); (case' h2 => repeat' wtm_at "ev"); (case' r1 => exact rfl); (case' s1 => try wtm_at "ev"); (case' s2 => try wtm_at "ev"); (case' k => (intro _ _ _ _ _; try dsimp only)))
  | (refine' s_setLI (by assumption) ?h ?h1 ?h2 ?r1 ?s1 ?s2 ?k; (case' h => repeat' wtm_at "ev"); (case' h1 => repeat' wtm_at "ev"); (case' h2 => repeat' wtm_at "ev"); (case' r1 => exact rfl); (case' s1 => try wtm_at "ev"); (case' s2 => try wtm_at "ev"); (case' k => (intro _ _ _ _ _; try dsimp only)))
  | (refine' s_setL (by assumption) ?h ?h1 ?h2 ?r1 ?s1 ?s2 ?k; (case' h => repeat' wtm_at "ev"); (case' h1 => repeat' wtm_at "ev"); (case' h2 => repeat' wtm_at "ev"); (case' r1 => exact rfl); (case' s1 => try wtm_at "ev"); (case' s2 => try wtm_at "ev"); (case' k => (intro _ _ _ _ _; try dsimp only)))
  | (refine' q_appI (by assumption) ?h1 ?h ?r1 ?r2 ?s ?k; (case' h1 => repeat' wtm_at "ev"); (case' h => repeat' wtm_at "ev"); (case' r1 => exact rfl); (case' r2 => exact rfl); (case' s => try wtm_at "ev"); (case' k => (intro _ _ _ _ _; try dsimp only)))
  | (refine' q_app (by assumption) ?h1 ?h ?r1 ?r2 ?s ?k; (case' h1 => repeat' wtm_at "ev"); (case' h => repeat' wtm_at "ev"); (case' r1 => exact rfl); (case' r2 => exact rfl); (case' s => try wtm_at "ev"); (case' k => (intro _ _ _ _ _; try dsimp only)))
  | (refine' s_appI (by assumption) ?h1 ?h ?r1 ?r2 ?s ?k; (case' h1 => repeat' wtm_at "ev"); (case' h => repeat' wtm_at "ev"); (case' r1 => exact rfl); (case' r2 => exact rfl); (case' s => try wtm_at "ev"); (case' k => (intro _ _ _ _ _; try dsimp only)))
  | (refine' s_app (by assumption) ?h1 ?h ?r1 ?r2 ?s ?k; (case' h1 => repeat' wtm_at "ev"); (case' h => repeat' wtm_at "ev"); (case' r1 => exact rfl); (case' r2 => exact rfl); (case' s => try wtm_at "ev"); (case' k => (intro _ _ _ _ _; try dsimp only)))
  | (refine' q_dput (by assumption) ?h ?h1 ?h2 ?r1 ?r2 ?s ?k; (case' h => repeat' wtm_at "ev"); (case' h1 => repeat' wtm_at "ev"); (case' h2 => repeat' wtm_at "ev"); (case' r1 => exact rfl); (case' r2 => exact rfl); (case' s => try wtm_at "ev"); (case' k => (intro _ _ _ _ _; try dsimp only)))
  | (refine' s_dput (by assumption) ?h ?h1 ?h2 ?r1 ?r2 ?s ?k; (case' h => repeat' wtm_at "ev"); (case' h1 => repeat' wtm_at "ev"); (case' h2 => repeat' wtm_at "ev"); (case' r1 => exact rfl); (case' r2 => exact rfl); (case' s => try wtm_at "ev"); (case' k => (intro _ _ _ _ _; try dsimp only)))
  | (refine' q_tup2 (by assumption) ?h ?k; (case' h => repeat' wtm_at "ev"); (case' k => (intro _ _ _ _ _; try dsimp only)))
  | (refine' q_drop (by assumption) ?h ?k; (case' h => repeat' wtm_at "ev"); (case' k => (intro _ _ _ _ _; try dsimp only)))
  | (refine' q_if (by assumption) ?h ?k1 ?k2; (case' h => repeat' wtm_at "ev"))
  | (refine' s_if (by assumption) ?h ?k1 ?k2; (case' h => repeat' wtm_at "ev"))
  | (refine' s_ret (by assumption) ?h ?k; (case' h => repeat' wtm_at "ev"); (case' k => (intro _ _ _ _ _ _ _; try dsimp only)))
  | (refine' q_ret (by assumption) ?h ?k; (case' h => repeat' wtm_at "ev"); (case' k => (intro _ _ _ _ _ _ _; try dsimp only)))
  | ((with_reducible refine' s_next (by assumption) ?k); (case' k => (intro _ _ _ _ _; try dsimp only)))
  | (with_reducible refine q_next ?_))

/-! ### courses of one level -/
def sg (e d : Int) : Beat := if d = 0 then (e - 1, e) else if d = 1 then (e, e - 1) else (e, e)
def sgC (q : Pz) (e : Int) (n : Nat) : List Beat := (List.range n).map fun i => sg e (dAt q 3 i)
theorem sg_ok {t e d : Int} (h1 : 1 ≤ e) (h2 : e ≤ t) : BeatOk t (sg e d) := by
  unfold sg BeatOk
  split
  · dsimp only; omega
  · split
    · dsimp only; omega
    · dsimp only; omega
theorem sg_hit {e d e' : Int} (h : e' ≠ e) : hit 0 (sg e d) e' = 0 := by
  unfold sg hit
  split
  · dsimp only
    split <;> split <;> omega
  · split
    · dsimp only
      split <;> split <;> omega
    · dsimp only
      split <;> split <;> omega
theorem sgC_ok {q : Pz} {t e : Int} {n : Nat} (h1 : 1 ≤ e) (h2 : e ≤ t) : Crs t (sgC q e n) := fun c hc => by
  obtain ⟨i, _, rfl⟩ := List.mem_map.mp hc
  exact sg_ok h1 h2
theorem sgC_len {q : Pz} {e : Int} {n : Nat} : (sgC q e n).length = n := by unfold sgC; rw [List.length_map, List.length_range]
theorem one_X0 {cs : List Beat} {e' : Int} (h : ∀ c ∈ cs, hit 0 c e' = 0) : ∀ i : Nat, i ≤ cs.length → X0 cs i e' = 0
  | 0, _ => rfl
  | i + 1, hi => by
    have hc : cs[i]? = some (cs[i]'(by omega)) := List.getElem?_eq_getElem (by omega)
    rw [X0_succ, getD_bt hc, one_X0 h i (by omega), h _ (List.mem_of_getElem? hc)]
    rfl
theorem one_PK {cs : List Beat} {e' : Int} (h : ∀ c ∈ cs, hit 0 c e' = 0) : ∀ i : Nat, i ≤ cs.length → PK cs i e' = 0
  | 0, _ => rfl
  | i + 1, hi => by
    rw [PK_succ, one_PK h i (by omega), one_X0 h (i + 1) hi]
    rfl
theorem one_sum {cs : List Beat} {t e : Int} (h : ∀ e', e' ≠ e → ∀ c ∈ cs, hit 0 c e' = 0) : ∀ k : Nat, sumP cs cs.length t k = if t - (k : Int) < e ∧ e ≤ t then PK cs cs.length e else 0
  | 0 => by rw [if_neg (by omega)]; rfl
  | k + 1 => by
    show sumP cs cs.length t k + PK cs cs.length (t - (k : Int)) = _
    rw [one_sum h k]
    by_cases c : t - (k : Int) = e
    · rw [c, if_neg (by omega), if_pos (by omega)]
      omega
    · rw [one_PK (h _ c) cs.length (Nat.le_refl _)]
      by_cases d : t - (k : Int) < e ∧ e ≤ t
      · rw [if_pos d, if_pos (by omega)]; omega
      · rw [if_neg d, if_neg (by omega)]; rfl
theorem one_all {cs : List Beat} {t e : Int} (h1 : 1 ≤ e) (h2 : e ≤ t) (h : ∀ e', e' ≠ e → ∀ c ∈ cs, hit 0 c e' = 0) : (PR t cs cs.length).sum = PK cs cs.length e ∧ worthV t 0 cs = PK cs cs.length e := by
  have a : (PR t cs cs.length).sum = PK cs cs.length e := by
    rw [PR_sum (by omega), one_sum h, if_pos (by omega)]
  refine ⟨a, Int.le_antisymm ?_ ?_⟩
  · rw [← a]; exact PR_ge (by omega)
  · rw [← WW_all]; exact peak_le (Nat.le_refl _) e h1 h2
/-! ### the law -/
def ph_law : List MC → List Rv → List MC → Out → Prop := fun M rs M' o => ∃ ns, M = [] ∧ rs = [.dat (.scr ns)] ∧ ns.length ≤ 63 ∧ M' = [] ∧ o = .ret (.bl true)
abbrev spF_law (K : PySem.W.Frag) : Sp := FSp K ph_law
def sp_law (K : PySem.W.Frag) : Sp := fun vs H Q _ => ∃ (a : Addr) (ns : List Int), vs = [.ref a] ∧ SqL K H a (ns.map V.int) ∧ ns.length ≤ 63 ∧ ∀ H', Q (.bl true) H'
theorem law_in {K : PySem.W.Frag} {vs : List V} {H : Hp} {Q : VK} {X : XK} (h : sp_law K vs H Q X) : spF_law K vs H Q X := by
  obtain ⟨a, ns, rfl, hs, hl, q⟩ := h
  refine ⟨H, [], [], [.dat (.scr ns)], [], .ret (.bl true), ⟨fun _ _ z => z, rfl, List.nodup_nil, fun k a mc z => by simp at z, ⟨rfl, fun i r z => ?_⟩, fun _ _ z => z, fun a o z _ => z, fun a o _ z => z, fun a z => (by cases z), fun a o z => ⟨o, z⟩, fun a z => (by cases z), List.prefix_refl _⟩, Live.nil, ⟨ns, rfl, rfl, hl, rfl, rfl⟩, fun v F' As' M'' H' fin rv => ?_⟩
  · cases i with
    | zero => cases z; exact ⟨_, rfl, .scr hs⟩
    | succ i => simp at z
  · cases rv
    exact q H'
theorem ev_purse {K : PySem.W.Frag} {ta : TA} {M M1 : List MC} {E : List (Option Rv)} {ns : List Int} {k : Int} (ha : EvA K ta M E M1 [.dat (.scr ns), rint k]) (hk : 0 ≤ k) (hl : ns.length ≤ 63) : EvD K (tCall (FSp K ph_purse) [] E0 ta) M E (M1 ++ [pmc (purseOf ns k)]) (.cel M1.length) :=
  ev_callN (mc := pmc (purseOf ns k)) ha (by intro z; cases z) ⟨ns, k, rfl, rfl, hk, hl, rfl, rfl⟩
theorem okF_law {P : Program} {w : World} {K : PySem.W.Frag} {mg : Str → Option Value} {base : Heap} {ad : Ad} {fd : Fd} (T : Txt K mg w ad fd) : FnOk P w K mg base CX0 9 ad.a_law fd.d_law ["script"] (spF_law K) := by
  have G__law_draw := ok__law_draw (P := P) (base := base) T
  have b__law_draw := T.F__law_draw.binds (ps := ["purse", "many"]) fun _ _ _ _ _ _ us hl => match us, hl with | [_, _], _ => rfl
  have G__law_f_busy := ok__law_f_busy (P := P) (base := base) T
  have b__law_f_busy := T.F__law_f_busy.binds (ps := ["purse", "top", "many"]) fun _ _ _ _ _ _ us hl => match us, hl with | [_, _, _], _ => rfl
  have G__law_k78_eased := ok__law_k78_eased (P := P) (base := base) T
  have b__law_k78_eased := T.F__law_k78_eased.binds (ps := ["purse", "course", "top"]) fun _ _ _ _ _ _ us hl => match us, hl with | [_, _, _], _ => rfl
  have G__law_k78_peaks_hold := ok__law_k78_peaks_hold (P := P) (base := base) T
  have b__law_k78_peaks_hold := T.F__law_k78_peaks_hold.binds (ps := ["top", "course"]) fun _ _ _ _ _ _ us hl => match us, hl with | [_, _], _ => rfl
  have G__law_k78_worth := ok__law_k78_worth (P := P) (base := base) T
  have b__law_k78_worth := T.F__law_k78_worth.binds (ps := ["top", "play", "course"]) fun _ _ _ _ _ _ us hl => match us, hl with | [_, _, _], _ => rfl
  have G__law_peaks := ok__law_peaks (P := P) (base := base) T
  have b__law_peaks := T.F__law_peaks.binds (ps := ["top", "course"]) fun _ _ _ _ _ _ us hl => match us, hl with | [_, _], _ => rfl
  have G__law_purse := ok__law_purse (P := P) (base := base) T
  have b__law_purse := T.F__law_purse.binds (ps := ["script", "at"]) fun _ _ _ _ _ _ us hl => match us, hl with | [_, _], _ => rfl
  have G__law_stair := ok__law_stair (P := P) (base := base) T
  have b__law_stair := T.F__law_stair.binds (ps := ["top", "play", "course"]) fun _ _ _ _ _ _ us hl => match us, hl with | [_, _, _], _ => rfl
  refine L2.Fun.ok (k := 8) T.F_law sc_law (fun vs H Q E h => ?_) (fun cdv A outer s H vs Q E hr h => ?_)
  · exact h.len fun M rs M' o ⟨_, _, e, _⟩ => by rw [e]; rfl
  · have hu := hu_of hr
    refine ⟨_, (pss_cons (ps_set (i := 1) sc_law.nd rfl (by first | exact Or.inl rfl | exact Or.inr rfl) (pe_call G__law_purse (hr.mono (by first | decide | omega)) rfl T.g__law_purse T.F__law_purse.kp b__law_purse .nil pass0 (pa_cons (pv 0) (pa_cons (pe_int) pa_nil))))
  (pss_cons (ps_set (i := 2) sc_law.nd rfl (by first | exact Or.inl rfl | exact Or.inr rfl) (pe_op op_add (pe_int) (pe_call G__law_draw (hr.mono (by first | decide | omega)) rfl T.g__law_draw T.F__law_draw.kp b__law_draw .nil pass0 (pa_cons (pv 1) (pa_cons (pe_int) pa_nil)))))
  (pss_cons (ps_set (i := 3) sc_law.nd rfl (by first | exact Or.inl rfl | exact Or.inr rfl) (pe_call G__law_f_busy (hr.mono (by first | decide | omega)) rfl T.g__law_f_busy T.F__law_f_busy.kp b__law_f_busy .nil pass0 (pa_cons (pv 1) (pa_cons (pv 2) (pa_cons (pe_call G__law_draw (hr.mono (by first | decide | omega)) rfl T.g__law_draw T.F__law_draw.kp b__law_draw .nil pass0 (pa_cons (pv 1) (pa_cons (pe_int) pa_nil))) pa_nil)))))
  (pss_cons (ps_if (pt_not (pt_val (pe_call G__law_k78_peaks_hold (hr.mono (by first | decide | omega)) rfl T.g__law_k78_peaks_hold T.F__law_k78_peaks_hold.kp b__law_k78_peaks_hold .nil pass0 (pa_cons (pv 2) (pa_cons (pv 3) pa_nil))))) (pss_one (ps_ret (pe_bl))) pss_nil)
  (pss_cons (ps_set (i := 4) sc_law.nd rfl (by first | exact Or.inl rfl | exact Or.inr rfl) (pe_call G__law_k78_worth (hr.mono (by first | decide | omega)) rfl T.g__law_k78_worth T.F__law_k78_worth.kp b__law_k78_worth .nil pass0 (pa_cons (pv 2) (pa_cons (pe_int) (pa_cons (pv 3) pa_nil)))))
  (pss_cons (ps_for PassesOwn.never rfl (pi_range2 (by rfl) T.n_range (pa_cons (pe_int) (pa_cons (pe_op op_add (pv 2) (pe_int)) pa_nil))) (pg_name (i := 5) sc_law.nd rfl (by first | exact Or.inl rfl | exact Or.inr rfl))
  (pss_cons (ps_set (i := 6) sc_law.nd rfl (by first | exact Or.inl rfl | exact Or.inr rfl) (pe_call G__law_k78_worth (hr.mono (by first | decide | omega)) rfl T.g__law_k78_worth T.F__law_k78_worth.kp b__law_k78_worth .nil pass0 (pa_cons (pv 2) (pa_cons (pv 5) (pa_cons (pv 3) pa_nil)))))
  (pss_cons (ps_if (PW.pt (pw_or (pt_cmpR op_lt (pv 6) (pe_int) (nomark _)) (pw_or (pt_cmpR op_gt (pv 6) (pv 4) (nomark _)) (pw_or1 (PW.pt (pw_and (pt_cmpR op_ge (pv 5) (pv 2) (nomark _)) (pw_and1 (pt_cmpR op_ne (pv 6) (pe_int) (nomark _))))))))) (pss_one (ps_ret (pe_bl))) pss_nil)
  (pss_one (ps_set (i := 4) sc_law.nd rfl (by first | exact Or.inl rfl | exact Or.inr rfl) (pv 6))))))
  (pss_cons (ps_set (i := 7) sc_law.nd rfl (by first | exact Or.inl rfl | exact Or.inr rfl) (pe_call G__law_purse (hr.mono (by first | decide | omega)) rfl T.g__law_purse T.F__law_purse.kp b__law_purse .nil pass0 (pa_cons (pv 0) (pa_cons (pe_int) pa_nil))))
  (pss_cons (ps_set (i := 8) sc_law.nd rfl (by first | exact Or.inl rfl | exact Or.inr rfl) (pe_call G__law_k78_eased (hr.mono (by first | decide | omega)) rfl T.g__law_k78_eased T.F__law_k78_eased.kp b__law_k78_eased .nil pass0 (pa_cons (pv 7) (pa_cons (pv 3) (pa_cons (pv 2) pa_nil)))))
  (pss_cons (ps_if (PW.pt (pw_or (pt_cmpR op_ne (pe_call G__law_k78_worth (hr.mono (by first | decide | omega)) rfl T.g__law_k78_worth T.F__law_k78_worth.kp b__law_k78_worth .nil pass0 (pa_cons (pv 2) (pa_cons (pe_int) (pa_cons (pv 8) pa_nil)))) (pe_call G__law_stair (hr.mono (by first | decide | omega)) rfl T.g__law_stair T.F__law_stair.kp b__law_stair .nil pass0 (pa_cons (pv 2) (pa_cons (pe_int) (pa_cons (pv 3) pa_nil)))) (nomark _)) (pw_or1 (pt_not (pt_val (pe_call G__law_k78_peaks_hold (hr.mono (by first | decide | omega)) rfl T.g__law_k78_peaks_hold T.F__law_k78_peaks_hold.kp b__law_k78_peaks_hold .nil pass0 (pa_cons (pv 2) (pa_cons (pv 8) pa_nil)))))))) (pss_one (ps_ret (pe_bl))) pss_nil)
  (pss_cons (ps_set (i := 9) sc_law.nd rfl (by first | exact Or.inl rfl | exact Or.inr rfl) (pe_op op_add (pe_int) (pe_call G__law_draw (hr.mono (by first | decide | omega)) rfl T.g__law_draw T.F__law_draw.kp b__law_draw .nil pass0 (pa_cons (pv 7) (pa_cons (pv 2) pa_nil)))))
  (pss_cons (ps_setLc (i := 10) rfl sc_law.nd rfl rfl (sw_true rfl rfl rfl (by decide +kernel)) (pi_range1 (by rfl) T.n_range (pa_cons (pe_call G__law_draw (hr.mono (by first | decide | omega)) rfl T.g__law_draw T.F__law_draw.kp b__law_draw .nil pass0 (pa_cons (pv 7) (pa_cons (pe_int) pa_nil))) pa_nil)) (blkOk_by (own := [("turn", 11)]) (N := N_law) (sc := defScope s_law) (by decide +kernel)) (fun _ _ _ _ _ => (pg_name (i := 11) sc_law.nd rfl (by first | exact Or.inl rfl | exact Or.inr rfl))) (fun _ _ _ _ _ => pts_nil) (fun _ _ _ _ _ => (pe_ix (ix_listK (K := K) rfl) (pe_lst (pa_cons (pe_tup (pa_cons (pe_op op_sub (pv 9) (pe_int)) (pa_cons (pv 9) pa_nil))) (pa_cons (pe_tup (pa_cons (pv 9) (pa_cons (pe_op op_sub (pv 9) (pe_int)) pa_nil))) (pa_cons (pe_tup (pa_cons (pv 9) (pa_cons (pv 9) pa_nil))) pa_nil)))) (pe_call G__law_draw (hr.mono (by first | decide | omega)) rfl T.g__law_draw T.F__law_draw.kp b__law_draw .nil pass0 (pa_cons (pv 7) (pa_cons (pe_int) pa_nil))) (fun _ _ => rfl))))
  (pss_cons (ps_set (i := 12) sc_law.nd rfl (by first | exact Or.inl rfl | exact Or.inr rfl) (pe_call G__law_peaks (hr.mono (by first | decide | omega)) rfl T.g__law_peaks T.F__law_peaks.kp b__law_peaks .nil pass0 (pa_cons (pv 2) (pa_cons (pv 10) pa_nil))))
  (pss_one (ps_ret ((pe_and (pe_cmpR op_eq (pe_call G__law_k78_worth (hr.mono (by first | decide | omega)) rfl T.g__law_k78_worth T.F__law_k78_worth.kp b__law_k78_worth .nil pass0 (pa_cons (pv 2) (pa_cons (pe_int) (pa_cons (pv 10) pa_nil)))) (pe_ix (ix_listK (K := K) rfl) (pv 12) (pe_op op_sub (pv 9) (pe_int)) (fun _ _ => rfl)) (nomark _)) (pe_one (pe_cmpR op_eq (pe_callB (cr_sumK (K := K) rfl rfl) (by rfl) T.n_sum (by decide +kernel) (pa_cons (pv 12) pa_nil)) (pe_ix (ix_listK (K := K) rfl) (pv 12) (pe_op op_sub (pv 9) (pe_int)) (fun _ _ => rfl)) (nomark _))))))))))))))))))), ?_⟩
    try dsimp only [cxOf, Cx.nox, Cx.wish, List.map]
    refine h.reading fun F As M rs M' o hΦ hL B S hB hA post => ?_
    obtain ⟨ns, rfl, rfl, hl, rfl, rfl⟩ := hΦ
    dsimp only at post
    refine q_set S (ev_purse (k := 0) (ea_cons (ev_var (r := .dat (.scr ns)) rfl) (ea_cons ev_int ea_nil)) (by omega) hl) ?_
    intro F As σ H S
    try dsimp only
    generalize purseOf ns 0 = p at S
    refine q_set S (ev_op ev_int (ev_drawC (p := p) (m := 6) (Ms := []) (ea_cons (ev_var rfl) (ea_cons ev_int ea_nil)) (by omega) (by omega)) od_int) ?_
    intro F As σ H S
    try dsimp only
    have d6 := draw_rng (p := p) (m := 6) (by omega)
    have ht : 1 ≤ 1 + (draw p 6).1 ∧ 1 + (draw p 6).1 ≤ 6 := by omega
    generalize 1 + (draw p 6).1 = t at S ht
    obtain ⟨h1, h2⟩ := ht
    generalize (draw p 6).2 = p1 at S
    have d41 := draw_rng (p := p1) (m := 41) (by omega)
    refine q_set S (r := .dat (pairsD (bsy (draw p1 41).2 t (draw p1 41).1.toNat).1)) (M' := [pmc (bsy (draw p1 41).2 t (draw p1 41).1.toNat).2]) (ev_call1 (k := 0) (ds := [rint t, rint (draw p1 41).1]) (mc := pmc (draw p1 41).2) (mc' := pmc (bsy (draw p1 41).2 t (draw p1 41).1.toNat).2) (ea_cons (ev_var (r := .cel 0) rfl) (ea_cons (ev_var (r := rint t) rfl) (ea_cons (ev_drawC (p := p1) (m := 41) (Ms := []) (ea_cons (ev_var rfl) (ea_cons ev_int ea_nil)) (by omega) (by omega)) ea_nil))) (by intro z; cases z) rfl (by intro z; cases z) ⟨_, t, _, rfl, rfl, ⟨h1, by omega⟩, ⟨by omega, by omega⟩, rfl, rfl⟩) ?_
    intro F As σ H S
    try dsimp only
    obtain ⟨c1, c2⟩ := bsy_ok (p := (draw p1 41).2) h1 (draw p1 41).1.toNat
    have cl : (bsy (draw p1 41).2 t (draw p1 41).1.toNat).1.length ≤ 40 := by rw [c2]; omega
    generalize (bsy (draw p1 41).2 t (draw p1 41).1.toNat).2 = q at S
    obtain ⟨cs, hcs⟩ : ∃ cs, (bsy (draw p1 41).2 t (draw p1 41).1.toNat).1 = cs := ⟨_, rfl⟩
    rw [hcs] at S c1 cl
    have S : Sta K B F As [pmc q] σ [some (.dat (.scr ns)), some (.cel 0), some (rint t), some (.dat (pairsD cs)), none, none, none, none, none, none, none, none, none] H := S
    have pr : ∀ {pl : Int}, pl ≤ 60 → Prm t pl cs := fun {pl} z => ⟨⟨h1, by omega⟩, z, by omega, c1⟩
    refine q_if S (b := false) (M' := [pmc q]) (et_not (b := true) (et_B (ev_call0 (d := .bl true) (ea_cons (ev_var (r := rint t) rfl) (ea_cons (ev_var (r := .dat (pairsD cs)) rfl) ea_nil)) (by intro z; cases z) ⟨t, cs, rfl, rfl, pr (by omega), rfl, rfl⟩))) (fun hc => by cases hc) ?_
    intro _ F As σ H S
    refine s_next S ?_
    intro F As σ H S
    try dsimp only
    refine q_set S (r := rint (worthV t 0 cs)) (M' := [pmc q]) (ev_call0 (ea_cons (ev_var (r := rint t) rfl) (ea_cons ev_int (ea_cons (ev_var (r := .dat (pairsD cs)) rfl) ea_nil))) (by intro z; cases z) ⟨t, 0, cs, rfl, rfl, pr (by omega), rfl, rfl⟩) ?_
    intro F As σ H S
    try simp only [List.set_cons_zero, List.set_cons_succ] at S
    refine' q_forR2 S (a := 1) (n := t + 3) (ea_cons ev_int (ea_cons (ev_op (ev_var (r := rint t) rfl) ev_int od_int) ea_nil)) ⟨by omega, by omega, by omega, by omega⟩ (fun k M E => M = [pmc q] ∧ ∃ x5 x6, E = [some (.dat (.scr ns)), some (.cel 0), some (rint t), some (.dat (pairsD cs)), some (rint (worthV t (k : Int) cs)), x5, x6, none, none, none, none, none, none]) ⟨rfl, none, none, rfl⟩ ?pb ?pd
    case pb =>
      rintro k M E hk ⟨rfl, x5, x6, rfl⟩ F As σ H S
      try simp only [List.set_cons_zero, List.set_cons_succ] at S
      have ek : (1 : Int) + (k : Int) = ((k + 1 : Nat) : Int) := by omega
      rw [ek] at S
      refine q_set S (r := rint (worthV t ((k + 1 : Nat) : Int) cs)) (M' := [pmc q]) (ev_call0 (ea_cons (ev_var (r := rint t) rfl) (ea_cons (ev_var (r := rint ((k + 1 : Nat) : Int)) rfl) (ea_cons (ev_var (r := .dat (pairsD cs)) rfl) ea_nil))) (by intro z; cases z) ⟨t, _, cs, rfl, rfl, pr (by omega), rfl, rfl⟩) ?_
      intro F As σ H S
      try simp only [List.set_cons_zero, List.set_cons_succ] at S
      have w1 := worth_nn (t := t) (play := ((k + 1 : Nat) : Int)) (cs := cs)
      have w2 := worth_play (t := t) (play := (k : Int)) (q := ((k + 1 : Nat) : Int)) (cs := cs) (by omega)
      refine q_if S (b := false) (et_is (et_or (b := false) (et_is (et_test (ev_op (ev_var (r := rint (worthV t ((k + 1 : Nat) : Int) cs)) rfl) ev_int od_bool)) (decide_eq_false (by omega))) (fun _ => et_or (b := false) (c := false) (et_is (et_test (ev_op (ev_var (r := rint (worthV t ((k + 1 : Nat) : Int) cs)) rfl) (ev_var (r := rint (worthV t (k : Int) cs)) rfl) od_bool)) (decide_eq_false (by omega))) (fun _ => et_is (et_and (et_test (ev_op (ev_var (r := rint ((k + 1 : Nat) : Int)) rfl) (ev_var (r := rint t) rfl) od_bool)) (fun _ => et_test (ev_op (ev_var (r := rint (worthV t ((k + 1 : Nat) : Int) cs)) rfl) ev_int od_neI))) (by
        by_cases c : t ≤ ((k + 1 : Nat) : Int)
        · rw [worth_top c cs (fun c hc => (c1 c hc).1.1)]
          simp
        · rw [decide_eq_false c]; rfl)))) rfl) (fun hc => by cases hc) ?_
      intro _ F As σ H S
      refine s_next S ?_
      intro F As σ H S
      try dsimp only
      refine s_set S (ev_var (r := rint (worthV t ((k + 1 : Nat) : Int) cs)) rfl) ?_
      intro F As σ H S
      exact s_end S ⟨rfl, _, _, rfl⟩ (Ele.refl _)
    case pd =>
    rintro M E ⟨rfl, x5, x6, rfl⟩ F As σ H S
    obtain ⟨bw, hbw⟩ : ∃ bw, worthV t (((t + 3 - 1).toNat : Nat) : Int) cs = bw := ⟨_, rfl⟩
    rw [hbw] at S
    refine q_set S (r := .cel 1) (M' := [pmc q, pmc (purseOf ns 1)]) (ev_purse (k := 1) (ea_cons (ev_var (r := .dat (.scr ns)) rfl) (ea_cons ev_int ea_nil)) (by omega) hl) ?_
    intro F As σ H S
    generalize purseOf ns 1 = u at S
    try simp only [List.set_cons_zero, List.set_cons_succ] at S
    refine q_set S (r := .dat (pairsD (eaN u t cs cs.length).1)) (M' := [pmc q, pmc (eaN u t cs cs.length).2]) (ev_call1 (k := 1) (ds := [.dat (pairsD cs), rint t]) (mc := pmc u) (mc' := pmc (eaN u t cs cs.length).2) (ea_cons (ev_var (r := .cel 1) rfl) (ea_cons (ev_var (r := .dat (pairsD cs)) rfl) (ea_cons (ev_var (r := rint t) rfl) ea_nil))) (by intro z; cases z) rfl (by intro z; cases z) ⟨u, t, cs, rfl, rfl, ⟨h1, by omega⟩, c1, by omega, rfl, rfl⟩) ?_
    intro F As σ H S
    try simp only [List.set_cons_zero, List.set_cons_succ] at S
    obtain ⟨l1, l2, l3⟩ := eaN_ok (p := u) h1 c1 cs.length (Nat.le_refl _)
    rw [List.take_length] at l1
    generalize (eaN u t cs cs.length).2 = u1 at S
    obtain ⟨ls, hls⟩ : ∃ ls, (eaN u t cs cs.length).1 = ls := ⟨_, rfl⟩
    rw [hls] at S l1 l2 l3
    have pl : Prm t 0 ls := ⟨⟨h1, by omega⟩, by omega, by omega, l2⟩
    refine q_if S (b := false) (M' := [pmc q, pmc u1]) (et_is (et_or (b := false) (c := false) (et_is (et_test (ev_op (ev_call0 (d := .int (worthV t 0 ls)) (ea_cons (ev_var (r := rint t) rfl) (ea_cons ev_int (ea_cons (ev_var (r := .dat (pairsD ls)) rfl) ea_nil))) (by intro z; cases z) ⟨t, 0, ls, rfl, rfl, pl, rfl, rfl⟩) (ev_call0 (d := .int (worthV t 0 cs)) (ea_cons (ev_var (r := rint t) rfl) (ea_cons ev_int (ea_cons (ev_var (r := .dat (pairsD cs)) rfl) ea_nil))) (by intro z; cases z) ⟨t, 0, cs, rfl, rfl, ⟨h1, by omega⟩, by omega, rfl, rfl⟩) od_neI)) (by rw [worth_eas l1]; simp)) (fun _ => et_not (b := true) (et_B (ev_call0 (d := .bl true) (ea_cons (ev_var (r := rint t) rfl) (ea_cons (ev_var (r := .dat (pairsD ls)) rfl) ea_nil)) (by intro z; cases z) ⟨t, ls, rfl, rfl, pl, rfl, rfl⟩)))) rfl) (fun hc => by cases hc) ?_
    intro _ F As σ H S
    refine s_next S ?_
    intro F As σ H S
    try dsimp only
    have d1 : ∀ {ta : TA} {E : List (Option Rv)} {m : Int} {u : Pz}, EvA K ta [pmc q, pmc u] E [pmc q, pmc u] [.cel 1, rint m] → 0 < m → m < 1073741824 → EvD K (tCall (FSp K ph_draw) [] E0 ta) [pmc q, pmc u] E [pmc q, pmc (draw u m).2] (rint (draw u m).1) := fun ha h0 h1 => ev_draw (k := 1) ha rfl h0 h1
    have dt := draw_rng (p := u1) (m := t) (by omega)
    refine q_set S (r := rint (1 + (draw u1 t).1)) (M' := [pmc q, pmc (draw u1 t).2]) (ev_op ev_int (d1 (u := u1) (m := t) (ea_cons (ev_var rfl) (ea_cons (ev_var (r := rint t) rfl) ea_nil)) (by omega) (by omega)) od_int) ?_
    intro F As σ H S
    try simp only [List.set_cons_zero, List.set_cons_succ] at S
    have he : 1 ≤ 1 + (draw u1 t).1 ∧ 1 + (draw u1 t).1 ≤ t := by omega
    generalize 1 + (draw u1 t).1 = e at S he
    obtain ⟨e1, e2⟩ := he
    generalize (draw u1 t).2 = u2 at S
    have d30 := draw_rng (p := u2) (m := 30) (by omega)
    refine q_set S (r := .dat (pairsD (sgC (draw u2 30).2 e (draw u2 30).1.toNat))) (M' := [pmc q, pmc (pAft (draw u2 30).2 3 (draw u2 30).1.toNat)]) ?sev ?_
    case sev =>
      refine ev_is (ev_lcR1 (n := (draw u2 30).1) (fun i => [pmc q, pmc (pAft (draw u2 30).2 3 i)]) (fun _ => true) (fun i => pairD (sg e (dAt (draw u2 30).2 3 i))) (ea_cons (d1 (u := u2) (m := 30) (ea_cons (ev_var rfl) (ea_cons ev_int ea_nil)) (by omega) (by omega)) ea_nil) ⟨by omega, by omega⟩ rfl (fun i hi => LcT.moved ?_)) ?_
      · have r := dAt_rng (p := (draw u2 30).2) (m := 3) (by omega) i
        refine ev_op (ev_lst (ds := [pairD (e - 1, e), pairD (e, e - 1), pairD (e, e)]) (ea_cons (ev_tup (ea_cons (ev_op (ev_var (r := rint e) rfl) ev_int od_int) (ea_cons (ev_var (r := rint e) rfl) ea_nil)) rfl (Nat.le_of_ble_eq_true rfl)) (ea_cons (ev_tup (ea_cons (ev_var (r := rint e) rfl) (ea_cons (ev_op (ev_var (r := rint e) rfl) ev_int od_int) ea_nil)) rfl (Nat.le_of_ble_eq_true rfl)) (ea_cons (ev_tup (ea_cons (ev_var (r := rint e) rfl) (ea_cons (ev_var (r := rint e) rfl) ea_nil)) rfl (Nat.le_of_ble_eq_true rfl)) ea_nil))) rfl (Nat.le_of_ble_eq_true rfl)) (d1 (u := pAft (draw u2 30).2 3 i) (m := 3) (ea_cons (ev_var rfl) (ea_cons ev_int ea_nil)) (by omega) (by omega)) (od_ixL (.inl rfl) ?_)
        show atI _ (dAt (draw u2 30).2 3 i) = _
        unfold sg
        rcases (show dAt (draw u2 30).2 3 i = 0 ∨ dAt (draw u2 30).2 3 i = 1 ∨ dAt (draw u2 30).2 3 i = 2 by omega) with z | z | z
        · rw [z]; rfl
        · rw [z]; rfl
        · rw [z]; rfl
      · rw [givD_all]
        show Rv.dat (.lst _) = Rv.dat (.lst ((sgC _ _ _).map pairD))
        unfold sgC
        rw [List.map_map]; rfl
    intro F As σ H S
    try simp only [List.set_cons_zero, List.set_cons_succ] at S
    have k1 := sgC_ok (q := (draw u2 30).2) (n := (draw u2 30).1.toNat) e1 e2
    have k2 := sgC_len (q := (draw u2 30).2) (e := e) (n := (draw u2 30).1.toNat)
    have k3 : ∀ e', e' ≠ e → ∀ c ∈ sgC (draw u2 30).2 e (draw u2 30).1.toNat, hit 0 c e' = 0 := fun e' z c hc => by
      obtain ⟨i, _, rfl⟩ := List.mem_map.mp hc
      exact sg_hit z
    generalize pAft (draw u2 30).2 3 (draw u2 30).1.toNat = u3 at S
    obtain ⟨gs, hgs⟩ : ∃ gs, sgC (draw u2 30).2 e (draw u2 30).1.toNat = gs := ⟨_, rfl⟩
    rw [hgs] at S k1 k2 k3
    obtain ⟨o1, o2⟩ := one_all e1 e2 k3
    have pg : Prm t 0 gs := ⟨⟨h1, by omega⟩, by omega, by omega, k1⟩
    refine q_set S (r := rints (PR t gs gs.length)) (M' := [pmc q, pmc u3]) (ev_call0 (ea_cons (ev_var (r := rint t) rfl) (ea_cons (ev_var (r := .dat (pairsD gs)) rfl) ea_nil)) (by intro z; cases z) ⟨t, gs, rfl, rfl, ⟨h1, by omega⟩, by omega, rfl, rfl⟩) ?_
    intro F As σ H S
    try simp only [List.set_cons_zero, List.set_cons_succ] at S
    have ixp : ∀ {M : List MC} {E : List (Option Rv)}, E[12]? = some (some (rints (PR t gs gs.length))) → E[9]? = some (some (rint e)) → EvD K (tOp (rIxL K) (tVar 12) (tOp (rI0 fun i j => V.int (i - j)) (tVar 9) (tC (.int 1)))) M E M (rint (PK gs gs.length e)) := fun {M E} a b => ev_is (ev_op (ev_var a) (ev_op (ev_var b) ev_int od_int) (od_ixI (.inl rfl) (by omega) (by rw [PR_len]; omega))) (by rw [PR_gI e1 e2])
    refine s_ret S (r := rbl true) (M' := [pmc q, pmc u3]) (ev_is (ev_andV (ev_op (ev_call0 (d := .int (worthV t 0 gs)) (ea_cons (ev_var (r := rint t) rfl) (ea_cons ev_int (ea_cons (ev_var (r := .dat (pairsD gs)) rfl) ea_nil))) (by intro z; cases z) ⟨t, 0, gs, rfl, rfl, pg, rfl, rfl⟩) (ixp rfl rfl) od_eqI) (fun _ => ev_op (ev_cb (ea_cons (ev_var (r := rints (PR t gs gs.length)) rfl) ea_nil) (cd_sum (.inl rfl))) (ixp rfl rfl) od_eqI)) (by rw [o1, o2]; simp)) ?_
    intro v F As σ H S r
    exact post _ _ _ _ _ _ _ S rfl r
theorem ok_law {P : Program} {w : World} {K : PySem.W.Frag} {mg : Str → Option Value} {base : Heap} {ad : Ad} {fd : Fd} (T : Txt K mg w ad fd) : FnOk P w K mg base CX0 9 ad.a_law fd.d_law ["script"] (sp_law K) :=
  (okF_law T).imp fun _ _ _ _ h => law_in h
end K78
set_option Elab.async false
set_option linter.all false
set_option maxRecDepth 100000
set_option maxHeartbeats 4000000
namespace K78
open PySem L2 DL
theorem all_mk {P : Program} {w : World} {K : PySem.W.Frag} {h : Heap} {mg : Str → Option Value} {fa : Addr} (X : K.In h) (G : h.Ns mainGlobals mg) (hfa : mg "law" = some (.ref fa))
    {f_TooMany___init__ f_BadSize___init__ f_BadBeat___init__ f_check f_check_within f_check_counter f_worth_of_beat f_next_row f_rows_of f_best_end f_stretches_to f_stair f_worth_of_stretch f_judge_stair f_against f_check_top f_check_beat f_check_course f_check_course_top f_greatest_stretch f_Excess___init__ f_Excess_add_beat f_Excess_peaks f__law_f_busy f__law_f_hit f__law_f_worth f__law_f_stair_word f__law_purse f__law_draw f__law_matches f__law_hits f__law_next_excess f__law_excesses f__law_peaks f__law_drawn_beat f__law_stair f__law_k78_worth f__law_k78_peaks_hold f__law_k78_eased f_law C_BadBeat C_BadSize C_Excess C_PairError C_TooMany c_LIMITS : Addr}
    {es_L : Array DictEntry} {nx_L : Nat} {tk_top tk_beats tk_play : Tok}
    {nm_TooMany q_TooMany : Str} {N_TooMany : Addr} {bs_TooMany bm_TooMany sub_TooMany : List Value} {sn_TooMany : List Str} {ab_TooMany : Bool} {col_TooMany : Option Bool} {dd_TooMany : Option Addr} {k0_TooMany k1_TooMany k2_TooMany k3_TooMany k5_TooMany : Option Value}
    {nm_BadSize q_BadSize : Str} {N_BadSize : Addr} {bs_BadSize bm_BadSize sub_BadSize : List Value} {sn_BadSize : List Str} {ab_BadSize : Bool} {col_BadSize : Option Bool} {dd_BadSize : Option Addr} {k0_BadSize k1_BadSize k2_BadSize k3_BadSize k5_BadSize : Option Value}
    {nm_BadBeat q_BadBeat : Str} {N_BadBeat : Addr} {bs_BadBeat bm_BadBeat sub_BadBeat : List Value} {sn_BadBeat : List Str} {ab_BadBeat : Bool} {col_BadBeat : Option Bool} {dd_BadBeat : Option Addr} {k0_BadBeat k1_BadBeat k2_BadBeat k3_BadBeat k5_BadBeat : Option Value}
    {od0 an0 od1 an1 od2 an2 od3 an3 od4 an4 od5 an5 od6 an6 od7 an7 od8 an8 od9 an9 od10 an10 od11 an11 od12 an12 od13 an13 od14 an14 od15 an15 od16 an16 od17 an17 od18 an18 od19 an19 od20 an20 od21 an21 od22 an22 od23 an23 od24 an24 od25 an25 od26 an26 od27 an27 od28 an28 od29 an29 od30 an30 od31 an31 od32 an32 od33 an33 od34 an34 od35 an35 od36 an36 od37 an37 od38 an38 od39 an39 : Option Addr} {sl0 sl1 sl2 sl3 sl4 sl5 sl6 sl7 sl8 sl9 sl10 sl11 sl12 sl13 sl14 sl15 sl16 sl17 sl18 sl19 sl20 sl21 sl22 sl23 sl24 sl25 sl26 sl27 sl28 sl29 sl30 sl31 sl32 sl33 sl34 sl35 sl36 sl37 sl38 sl39 : Array (Option Value)} {oc0 kV0 dc0 pm0 cd0 ct0 oc1 kV1 dc1 pm1 cd1 ct1 oc2 kV2 dc2 pm2 cd2 ct2 oc3 kV3 dc3 pm3 cd3 ct3 oc4 kV4 dc4 pm4 cd4 ct4 oc5 kV5 dc5 pm5 cd5 ct5 oc6 kV6 dc6 pm6 cd6 ct6 oc7 kV7 dc7 pm7 cd7 ct7 oc8 kV8 dc8 pm8 cd8 ct8 oc9 kV9 dc9 pm9 cd9 ct9 oc10 kV10 dc10 pm10 cd10 ct10 oc11 kV11 dc11 pm11 cd11 ct11 oc12 kV12 dc12 pm12 cd12 ct12 oc13 kV13 dc13 pm13 cd13 ct13 oc14 kV14 dc14 pm14 cd14 ct14 oc15 kV15 dc15 pm15 cd15 ct15 oc16 kV16 dc16 pm16 cd16 ct16 oc17 kV17 dc17 pm17 cd17 ct17 oc18 kV18 dc18 pm18 cd18 ct18 oc19 kV19 dc19 pm19 cd19 ct19 oc20 kV20 dc20 pm20 cd20 ct20 oc21 kV21 dc21 pm21 cd21 ct21 oc22 kV22 dc22 pm22 cd22 ct22 oc23 kV23 dc23 pm23 cd23 ct23 oc24 kV24 dc24 pm24 cd24 ct24 oc25 kV25 dc25 pm25 cd25 ct25 oc26 kV26 dc26 pm26 cd26 ct26 oc27 kV27 dc27 pm27 cd27 ct27 oc28 kV28 dc28 pm28 cd28 ct28 oc29 kV29 dc29 pm29 cd29 ct29 oc30 kV30 dc30 pm30 cd30 ct30 oc31 kV31 dc31 pm31 cd31 ct31 oc32 kV32 dc32 pm32 cd32 ct32 oc33 kV33 dc33 pm33 cd33 ct33 oc34 kV34 dc34 pm34 cd34 ct34 oc35 kV35 dc35 pm35 cd35 ct35 oc36 kV36 dc36 pm36 cd36 ct36 oc37 kV37 dc37 pm37 cd37 ct37 oc38 kV38 dc38 pm38 cd38 ct38 oc39 kV39 dc39 pm39 cd39 ct39 : Value}
    (a_TooMany___init__ : PySem.W.findIn K (.ref C_TooMany) "__init__" = some (some (.ref f_TooMany___init__)))
    (i_TooMany___init__ : PySem.W.isFn K (.ref f_TooMany___init__) = true)
    (l_TooMany___init__ : K.lookup f_TooMany___init__ = some ⟨oc0, od0, .func (PySem.W.fnOf "__init__" "TooMany.__init__" (defArgs s_TooMany___init__) (defBody s_TooMany___init__) (defScope s_TooMany___init__) .none kV0 dc0 pm0 an0 cd0 ct0), sl0⟩)
    (c_TooMany___init__ : PySem.W.codeIn K cd0 "TooMany.__init__" = true)
    (k_TooMany___init__ : PySem.W.keepIn K (.ref f_TooMany___init__) = true)
    (a_BadSize___init__ : PySem.W.findIn K (.ref C_BadSize) "__init__" = some (some (.ref f_BadSize___init__)))
    (i_BadSize___init__ : PySem.W.isFn K (.ref f_BadSize___init__) = true)
    (l_BadSize___init__ : K.lookup f_BadSize___init__ = some ⟨oc1, od1, .func (PySem.W.fnOf "__init__" "BadSize.__init__" (defArgs s_BadSize___init__) (defBody s_BadSize___init__) (defScope s_BadSize___init__) .none kV1 dc1 pm1 an1 cd1 ct1), sl1⟩)
    (c_BadSize___init__ : PySem.W.codeIn K cd1 "BadSize.__init__" = true)
    (k_BadSize___init__ : PySem.W.keepIn K (.ref f_BadSize___init__) = true)
    (a_BadBeat___init__ : PySem.W.findIn K (.ref C_BadBeat) "__init__" = some (some (.ref f_BadBeat___init__)))
    (i_BadBeat___init__ : PySem.W.isFn K (.ref f_BadBeat___init__) = true)
    (l_BadBeat___init__ : K.lookup f_BadBeat___init__ = some ⟨oc2, od2, .func (PySem.W.fnOf "__init__" "BadBeat.__init__" (defArgs s_BadBeat___init__) (defBody s_BadBeat___init__) (defScope s_BadBeat___init__) .none kV2 dc2 pm2 an2 cd2 ct2), sl2⟩)
    (c_BadBeat___init__ : PySem.W.codeIn K cd2 "BadBeat.__init__" = true)
    (k_BadBeat___init__ : PySem.W.keepIn K (.ref f_BadBeat___init__) = true)
    (a_check : PySem.W.nsIn K mainGlobals "check" = some (some (.ref f_check)))
    (l_check : K.lookup f_check = some ⟨oc3, od3, .func (PySem.W.fnOf "check" "check" (defArgs s_check) (defBody s_check) (defScope s_check) .none kV3 dc3 pm3 an3 cd3 ct3), sl3⟩)
    (c_check : PySem.W.codeIn K cd3 "check" = true)
    (k_check : PySem.W.keepIn K (.ref f_check) = true)
    (a_check_within : PySem.W.nsIn K mainGlobals "check_within" = some (some (.ref f_check_within)))
    (l_check_within : K.lookup f_check_within = some ⟨oc4, od4, .func (PySem.W.fnOf "check_within" "check_within" (defArgs s_check_within) (defBody s_check_within) (defScope s_check_within) .none kV4 dc4 pm4 an4 cd4 ct4), sl4⟩)
    (c_check_within : PySem.W.codeIn K cd4 "check_within" = true)
    (k_check_within : PySem.W.keepIn K (.ref f_check_within) = true)
    (a_check_counter : PySem.W.nsIn K mainGlobals "check_counter" = some (some (.ref f_check_counter)))
    (l_check_counter : K.lookup f_check_counter = some ⟨oc5, od5, .func (PySem.W.fnOf "check_counter" "check_counter" (defArgs s_check_counter) (defBody s_check_counter) (defScope s_check_counter) .none kV5 dc5 pm5 an5 cd5 ct5), sl5⟩)
    (c_check_counter : PySem.W.codeIn K cd5 "check_counter" = true)
    (k_check_counter : PySem.W.keepIn K (.ref f_check_counter) = true)
    (a_worth_of_beat : PySem.W.nsIn K mainGlobals "worth_of_beat" = some (some (.ref f_worth_of_beat)))
    (l_worth_of_beat : K.lookup f_worth_of_beat = some ⟨oc6, od6, .func (PySem.W.fnOf "worth_of_beat" "worth_of_beat" (defArgs s_worth_of_beat) (defBody s_worth_of_beat) (defScope s_worth_of_beat) .none kV6 dc6 pm6 an6 cd6 ct6), sl6⟩)
    (c_worth_of_beat : PySem.W.codeIn K cd6 "worth_of_beat" = true)
    (k_worth_of_beat : PySem.W.keepIn K (.ref f_worth_of_beat) = true)
    (a_next_row : PySem.W.nsIn K mainGlobals "next_row" = some (some (.ref f_next_row)))
    (l_next_row : K.lookup f_next_row = some ⟨oc7, od7, .func (PySem.W.fnOf "next_row" "next_row" (defArgs s_next_row) (defBody s_next_row) (defScope s_next_row) .none kV7 dc7 pm7 an7 cd7 ct7), sl7⟩)
    (c_next_row : PySem.W.codeIn K cd7 "next_row" = true)
    (k_next_row : PySem.W.keepIn K (.ref f_next_row) = true)
    (a_rows_of : PySem.W.nsIn K mainGlobals "rows_of" = some (some (.ref f_rows_of)))
    (l_rows_of : K.lookup f_rows_of = some ⟨oc8, od8, .func (PySem.W.fnOf "rows_of" "rows_of" (defArgs s_rows_of) (defBody s_rows_of) (defScope s_rows_of) .none kV8 dc8 pm8 an8 cd8 ct8), sl8⟩)
    (c_rows_of : PySem.W.codeIn K cd8 "rows_of" = true)
    (k_rows_of : PySem.W.keepIn K (.ref f_rows_of) = true)
    (a_best_end : PySem.W.nsIn K mainGlobals "best_end" = some (some (.ref f_best_end)))
    (l_best_end : K.lookup f_best_end = some ⟨oc9, od9, .func (PySem.W.fnOf "best_end" "best_end" (defArgs s_best_end) (defBody s_best_end) (defScope s_best_end) .none kV9 dc9 pm9 an9 cd9 ct9), sl9⟩)
    (c_best_end : PySem.W.codeIn K cd9 "best_end" = true)
    (k_best_end : PySem.W.keepIn K (.ref f_best_end) = true)
    (a_stretches_to : PySem.W.nsIn K mainGlobals "stretches_to" = some (some (.ref f_stretches_to)))
    (l_stretches_to : K.lookup f_stretches_to = some ⟨oc10, od10, .func (PySem.W.fnOf "stretches_to" "stretches_to" (defArgs s_stretches_to) (defBody s_stretches_to) (defScope s_stretches_to) .none kV10 dc10 pm10 an10 cd10 ct10), sl10⟩)
    (c_stretches_to : PySem.W.codeIn K cd10 "stretches_to" = true)
    (k_stretches_to : PySem.W.keepIn K (.ref f_stretches_to) = true)
    (a_stair : PySem.W.nsIn K mainGlobals "stair" = some (some (.ref f_stair)))
    (l_stair : K.lookup f_stair = some ⟨oc11, od11, .func (PySem.W.fnOf "stair" "stair" (defArgs s_stair) (defBody s_stair) (defScope s_stair) .none kV11 dc11 pm11 an11 cd11 ct11), sl11⟩)
    (c_stair : PySem.W.codeIn K cd11 "stair" = true)
    (k_stair : PySem.W.keepIn K (.ref f_stair) = true)
    (a_worth_of_stretch : PySem.W.nsIn K mainGlobals "worth_of_stretch" = some (some (.ref f_worth_of_stretch)))
    (l_worth_of_stretch : K.lookup f_worth_of_stretch = some ⟨oc12, od12, .func (PySem.W.fnOf "worth_of_stretch" "worth_of_stretch" (defArgs s_worth_of_stretch) (defBody s_worth_of_stretch) (defScope s_worth_of_stretch) .none kV12 dc12 pm12 an12 cd12 ct12), sl12⟩)
    (c_worth_of_stretch : PySem.W.codeIn K cd12 "worth_of_stretch" = true)
    (k_worth_of_stretch : PySem.W.keepIn K (.ref f_worth_of_stretch) = true)
    (a_judge_stair : PySem.W.nsIn K mainGlobals "judge_stair" = some (some (.ref f_judge_stair)))
    (l_judge_stair : K.lookup f_judge_stair = some ⟨oc13, od13, .func (PySem.W.fnOf "judge_stair" "judge_stair" (defArgs s_judge_stair) (defBody s_judge_stair) (defScope s_judge_stair) .none kV13 dc13 pm13 an13 cd13 ct13), sl13⟩)
    (c_judge_stair : PySem.W.codeIn K cd13 "judge_stair" = true)
    (k_judge_stair : PySem.W.keepIn K (.ref f_judge_stair) = true)
    (a_against : PySem.W.nsIn K mainGlobals "against" = some (some (.ref f_against)))
    (l_against : K.lookup f_against = some ⟨oc14, od14, .func (PySem.W.fnOf "against" "against" (defArgs s_against) (defBody s_against) (defScope s_against) .none kV14 dc14 pm14 an14 cd14 ct14), sl14⟩)
    (c_against : PySem.W.codeIn K cd14 "against" = true)
    (k_against : PySem.W.keepIn K (.ref f_against) = true)
    (a_check_top : PySem.W.nsIn K mainGlobals "check_top" = some (some (.ref f_check_top)))
    (l_check_top : K.lookup f_check_top = some ⟨oc15, od15, .func (PySem.W.fnOf "check_top" "check_top" (defArgs s_check_top) (defBody s_check_top) (defScope s_check_top) .none kV15 dc15 pm15 an15 cd15 ct15), sl15⟩)
    (c_check_top : PySem.W.codeIn K cd15 "check_top" = true)
    (k_check_top : PySem.W.keepIn K (.ref f_check_top) = true)
    (a_check_beat : PySem.W.nsIn K mainGlobals "check_beat" = some (some (.ref f_check_beat)))
    (l_check_beat : K.lookup f_check_beat = some ⟨oc16, od16, .func (PySem.W.fnOf "check_beat" "check_beat" (defArgs s_check_beat) (defBody s_check_beat) (defScope s_check_beat) .none kV16 dc16 pm16 an16 cd16 ct16), sl16⟩)
    (c_check_beat : PySem.W.codeIn K cd16 "check_beat" = true)
    (k_check_beat : PySem.W.keepIn K (.ref f_check_beat) = true)
    (a_check_course : PySem.W.nsIn K mainGlobals "check_course" = some (some (.ref f_check_course)))
    (l_check_course : K.lookup f_check_course = some ⟨oc17, od17, .func (PySem.W.fnOf "check_course" "check_course" (defArgs s_check_course) (defBody s_check_course) (defScope s_check_course) .none kV17 dc17 pm17 an17 cd17 ct17), sl17⟩)
    (c_check_course : PySem.W.codeIn K cd17 "check_course" = true)
    (k_check_course : PySem.W.keepIn K (.ref f_check_course) = true)
    (a_check_course_top : PySem.W.nsIn K mainGlobals "check_course_top" = some (some (.ref f_check_course_top)))
    (l_check_course_top : K.lookup f_check_course_top = some ⟨oc18, od18, .func (PySem.W.fnOf "check_course_top" "check_course_top" (defArgs s_check_course_top) (defBody s_check_course_top) (defScope s_check_course_top) .none kV18 dc18 pm18 an18 cd18 ct18), sl18⟩)
    (c_check_course_top : PySem.W.codeIn K cd18 "check_course_top" = true)
    (k_check_course_top : PySem.W.keepIn K (.ref f_check_course_top) = true)
    (a_greatest_stretch : PySem.W.nsIn K mainGlobals "greatest_stretch" = some (some (.ref f_greatest_stretch)))
    (l_greatest_stretch : K.lookup f_greatest_stretch = some ⟨oc19, od19, .func (PySem.W.fnOf "greatest_stretch" "greatest_stretch" (defArgs s_greatest_stretch) (defBody s_greatest_stretch) (defScope s_greatest_stretch) .none kV19 dc19 pm19 an19 cd19 ct19), sl19⟩)
    (c_greatest_stretch : PySem.W.codeIn K cd19 "greatest_stretch" = true)
    (k_greatest_stretch : PySem.W.keepIn K (.ref f_greatest_stretch) = true)
    (a_Excess___init__ : PySem.W.findIn K (.ref C_Excess) "__init__" = some (some (.ref f_Excess___init__)))
    (i_Excess___init__ : PySem.W.isFn K (.ref f_Excess___init__) = true)
    (l_Excess___init__ : K.lookup f_Excess___init__ = some ⟨oc20, od20, .func (PySem.W.fnOf "__init__" "Excess.__init__" (defArgs s_Excess___init__) (defBody s_Excess___init__) (defScope s_Excess___init__) .none kV20 dc20 pm20 an20 cd20 ct20), sl20⟩)
    (c_Excess___init__ : PySem.W.codeIn K cd20 "Excess.__init__" = true)
    (k_Excess___init__ : PySem.W.keepIn K (.ref f_Excess___init__) = true)
    (a_Excess_add_beat : PySem.W.findIn K (.ref C_Excess) "add_beat" = some (some (.ref f_Excess_add_beat)))
    (i_Excess_add_beat : PySem.W.isFn K (.ref f_Excess_add_beat) = true)
    (l_Excess_add_beat : K.lookup f_Excess_add_beat = some ⟨oc21, od21, .func (PySem.W.fnOf "add_beat" "Excess.add_beat" (defArgs s_Excess_add_beat) (defBody s_Excess_add_beat) (defScope s_Excess_add_beat) .none kV21 dc21 pm21 an21 cd21 ct21), sl21⟩)
    (c_Excess_add_beat : PySem.W.codeIn K cd21 "Excess.add_beat" = true)
    (k_Excess_add_beat : PySem.W.keepIn K (.ref f_Excess_add_beat) = true)
    (a_Excess_peaks : PySem.W.findIn K (.ref C_Excess) "peaks" = some (some (.ref f_Excess_peaks)))
    (i_Excess_peaks : PySem.W.isFn K (.ref f_Excess_peaks) = true)
    (l_Excess_peaks : K.lookup f_Excess_peaks = some ⟨oc22, od22, .func (PySem.W.fnOf "peaks" "Excess.peaks" (defArgs s_Excess_peaks) (defBody s_Excess_peaks) (defScope s_Excess_peaks) .none kV22 dc22 pm22 an22 cd22 ct22), sl22⟩)
    (c_Excess_peaks : PySem.W.codeIn K cd22 "Excess.peaks" = true)
    (k_Excess_peaks : PySem.W.keepIn K (.ref f_Excess_peaks) = true)
    (a__law_f_busy : PySem.W.nsIn K mainGlobals "_law_f_busy" = some (some (.ref f__law_f_busy)))
    (l__law_f_busy : K.lookup f__law_f_busy = some ⟨oc23, od23, .func (PySem.W.fnOf "_law_f_busy" "_law_f_busy" (defArgs s__law_f_busy) (defBody s__law_f_busy) (defScope s__law_f_busy) .none kV23 dc23 pm23 an23 cd23 ct23), sl23⟩)
    (c__law_f_busy : PySem.W.codeIn K cd23 "_law_f_busy" = true)
    (k__law_f_busy : PySem.W.keepIn K (.ref f__law_f_busy) = true)
    (a__law_f_hit : PySem.W.nsIn K mainGlobals "_law_f_hit" = some (some (.ref f__law_f_hit)))
    (l__law_f_hit : K.lookup f__law_f_hit = some ⟨oc24, od24, .func (PySem.W.fnOf "_law_f_hit" "_law_f_hit" (defArgs s__law_f_hit) (defBody s__law_f_hit) (defScope s__law_f_hit) .none kV24 dc24 pm24 an24 cd24 ct24), sl24⟩)
    (c__law_f_hit : PySem.W.codeIn K cd24 "_law_f_hit" = true)
    (k__law_f_hit : PySem.W.keepIn K (.ref f__law_f_hit) = true)
    (a__law_f_worth : PySem.W.nsIn K mainGlobals "_law_f_worth" = some (some (.ref f__law_f_worth)))
    (l__law_f_worth : K.lookup f__law_f_worth = some ⟨oc25, od25, .func (PySem.W.fnOf "_law_f_worth" "_law_f_worth" (defArgs s__law_f_worth) (defBody s__law_f_worth) (defScope s__law_f_worth) .none kV25 dc25 pm25 an25 cd25 ct25), sl25⟩)
    (c__law_f_worth : PySem.W.codeIn K cd25 "_law_f_worth" = true)
    (k__law_f_worth : PySem.W.keepIn K (.ref f__law_f_worth) = true)
    (a__law_f_stair_word : PySem.W.nsIn K mainGlobals "_law_f_stair_word" = some (some (.ref f__law_f_stair_word)))
    (l__law_f_stair_word : K.lookup f__law_f_stair_word = some ⟨oc26, od26, .func (PySem.W.fnOf "_law_f_stair_word" "_law_f_stair_word" (defArgs s__law_f_stair_word) (defBody s__law_f_stair_word) (defScope s__law_f_stair_word) .none kV26 dc26 pm26 an26 cd26 ct26), sl26⟩)
    (c__law_f_stair_word : PySem.W.codeIn K cd26 "_law_f_stair_word" = true)
    (k__law_f_stair_word : PySem.W.keepIn K (.ref f__law_f_stair_word) = true)
    (a__law_purse : PySem.W.nsIn K mainGlobals "_law_purse" = some (some (.ref f__law_purse)))
    (l__law_purse : K.lookup f__law_purse = some ⟨oc27, od27, .func (PySem.W.fnOf "_law_purse" "_law_purse" (defArgs s__law_purse) (defBody s__law_purse) (defScope s__law_purse) .none kV27 dc27 pm27 an27 cd27 ct27), sl27⟩)
    (c__law_purse : PySem.W.codeIn K cd27 "_law_purse" = true)
    (k__law_purse : PySem.W.keepIn K (.ref f__law_purse) = true)
    (a__law_draw : PySem.W.nsIn K mainGlobals "_law_draw" = some (some (.ref f__law_draw)))
    (l__law_draw : K.lookup f__law_draw = some ⟨oc28, od28, .func (PySem.W.fnOf "_law_draw" "_law_draw" (defArgs s__law_draw) (defBody s__law_draw) (defScope s__law_draw) .none kV28 dc28 pm28 an28 cd28 ct28), sl28⟩)
    (c__law_draw : PySem.W.codeIn K cd28 "_law_draw" = true)
    (k__law_draw : PySem.W.keepIn K (.ref f__law_draw) = true)
    (a__law_matches : PySem.W.nsIn K mainGlobals "_law_matches" = some (some (.ref f__law_matches)))
    (l__law_matches : K.lookup f__law_matches = some ⟨oc29, od29, .func (PySem.W.fnOf "_law_matches" "_law_matches" (defArgs s__law_matches) (defBody s__law_matches) (defScope s__law_matches) .none kV29 dc29 pm29 an29 cd29 ct29), sl29⟩)
    (c__law_matches : PySem.W.codeIn K cd29 "_law_matches" = true)
    (k__law_matches : PySem.W.keepIn K (.ref f__law_matches) = true)
    (a__law_hits : PySem.W.nsIn K mainGlobals "_law_hits" = some (some (.ref f__law_hits)))
    (l__law_hits : K.lookup f__law_hits = some ⟨oc30, od30, .func (PySem.W.fnOf "_law_hits" "_law_hits" (defArgs s__law_hits) (defBody s__law_hits) (defScope s__law_hits) .none kV30 dc30 pm30 an30 cd30 ct30), sl30⟩)
    (c__law_hits : PySem.W.codeIn K cd30 "_law_hits" = true)
    (k__law_hits : PySem.W.keepIn K (.ref f__law_hits) = true)
    (a__law_next_excess : PySem.W.nsIn K mainGlobals "_law_next_excess" = some (some (.ref f__law_next_excess)))
    (l__law_next_excess : K.lookup f__law_next_excess = some ⟨oc31, od31, .func (PySem.W.fnOf "_law_next_excess" "_law_next_excess" (defArgs s__law_next_excess) (defBody s__law_next_excess) (defScope s__law_next_excess) .none kV31 dc31 pm31 an31 cd31 ct31), sl31⟩)
    (c__law_next_excess : PySem.W.codeIn K cd31 "_law_next_excess" = true)
    (k__law_next_excess : PySem.W.keepIn K (.ref f__law_next_excess) = true)
    (a__law_excesses : PySem.W.nsIn K mainGlobals "_law_excesses" = some (some (.ref f__law_excesses)))
    (l__law_excesses : K.lookup f__law_excesses = some ⟨oc32, od32, .func (PySem.W.fnOf "_law_excesses" "_law_excesses" (defArgs s__law_excesses) (defBody s__law_excesses) (defScope s__law_excesses) .none kV32 dc32 pm32 an32 cd32 ct32), sl32⟩)
    (c__law_excesses : PySem.W.codeIn K cd32 "_law_excesses" = true)
    (k__law_excesses : PySem.W.keepIn K (.ref f__law_excesses) = true)
    (a__law_peaks : PySem.W.nsIn K mainGlobals "_law_peaks" = some (some (.ref f__law_peaks)))
    (l__law_peaks : K.lookup f__law_peaks = some ⟨oc33, od33, .func (PySem.W.fnOf "_law_peaks" "_law_peaks" (defArgs s__law_peaks) (defBody s__law_peaks) (defScope s__law_peaks) .none kV33 dc33 pm33 an33 cd33 ct33), sl33⟩)
    (c__law_peaks : PySem.W.codeIn K cd33 "_law_peaks" = true)
    (k__law_peaks : PySem.W.keepIn K (.ref f__law_peaks) = true)
    (a__law_drawn_beat : PySem.W.nsIn K mainGlobals "_law_drawn_beat" = some (some (.ref f__law_drawn_beat)))
    (l__law_drawn_beat : K.lookup f__law_drawn_beat = some ⟨oc34, od34, .func (PySem.W.fnOf "_law_drawn_beat" "_law_drawn_beat" (defArgs s__law_drawn_beat) (defBody s__law_drawn_beat) (defScope s__law_drawn_beat) .none kV34 dc34 pm34 an34 cd34 ct34), sl34⟩)
    (c__law_drawn_beat : PySem.W.codeIn K cd34 "_law_drawn_beat" = true)
    (k__law_drawn_beat : PySem.W.keepIn K (.ref f__law_drawn_beat) = true)
    (a__law_stair : PySem.W.nsIn K mainGlobals "_law_stair" = some (some (.ref f__law_stair)))
    (l__law_stair : K.lookup f__law_stair = some ⟨oc35, od35, .func (PySem.W.fnOf "_law_stair" "_law_stair" (defArgs s__law_stair) (defBody s__law_stair) (defScope s__law_stair) .none kV35 dc35 pm35 an35 cd35 ct35), sl35⟩)
    (c__law_stair : PySem.W.codeIn K cd35 "_law_stair" = true)
    (k__law_stair : PySem.W.keepIn K (.ref f__law_stair) = true)
    (a__law_k78_worth : PySem.W.nsIn K mainGlobals "_law_k78_worth" = some (some (.ref f__law_k78_worth)))
    (l__law_k78_worth : K.lookup f__law_k78_worth = some ⟨oc36, od36, .func (PySem.W.fnOf "_law_k78_worth" "_law_k78_worth" (defArgs s__law_k78_worth) (defBody s__law_k78_worth) (defScope s__law_k78_worth) .none kV36 dc36 pm36 an36 cd36 ct36), sl36⟩)
    (c__law_k78_worth : PySem.W.codeIn K cd36 "_law_k78_worth" = true)
    (k__law_k78_worth : PySem.W.keepIn K (.ref f__law_k78_worth) = true)
    (a__law_k78_peaks_hold : PySem.W.nsIn K mainGlobals "_law_k78_peaks_hold" = some (some (.ref f__law_k78_peaks_hold)))
    (l__law_k78_peaks_hold : K.lookup f__law_k78_peaks_hold = some ⟨oc37, od37, .func (PySem.W.fnOf "_law_k78_peaks_hold" "_law_k78_peaks_hold" (defArgs s__law_k78_peaks_hold) (defBody s__law_k78_peaks_hold) (defScope s__law_k78_peaks_hold) .none kV37 dc37 pm37 an37 cd37 ct37), sl37⟩)
    (c__law_k78_peaks_hold : PySem.W.codeIn K cd37 "_law_k78_peaks_hold" = true)
    (k__law_k78_peaks_hold : PySem.W.keepIn K (.ref f__law_k78_peaks_hold) = true)
    (a__law_k78_eased : PySem.W.nsIn K mainGlobals "_law_k78_eased" = some (some (.ref f__law_k78_eased)))
    (l__law_k78_eased : K.lookup f__law_k78_eased = some ⟨oc38, od38, .func (PySem.W.fnOf "_law_k78_eased" "_law_k78_eased" (defArgs s__law_k78_eased) (defBody s__law_k78_eased) (defScope s__law_k78_eased) .none kV38 dc38 pm38 an38 cd38 ct38), sl38⟩)
    (c__law_k78_eased : PySem.W.codeIn K cd38 "_law_k78_eased" = true)
    (k__law_k78_eased : PySem.W.keepIn K (.ref f__law_k78_eased) = true)
    (a_law : PySem.W.nsIn K mainGlobals "law" = some (some (.ref f_law)))
    (l_law : K.lookup f_law = some ⟨oc39, od39, .func (PySem.W.fnOf "law" "law" (defArgs s_law) (defBody s_law) (defScope s_law) .none kV39 dc39 pm39 an39 cd39 ct39), sl39⟩)
    (c_law : PySem.W.codeIn K cd39 "law" = true)
    (k_law : PySem.W.keepIn K (.ref f_law) = true)
    (n_ValueError : PySem.W.nsIn K mainGlobals "ValueError" = some none)
    (n_abs : PySem.W.nsIn K mainGlobals "abs" = some none)
    (n_bool : PySem.W.nsIn K mainGlobals "bool" = some none)
    (n_dict : PySem.W.nsIn K mainGlobals "dict" = some none)
    (n_enumerate : PySem.W.nsIn K mainGlobals "enumerate" = some none)
    (n_int : PySem.W.nsIn K mainGlobals "int" = some none)
    (n_isinstance : PySem.W.nsIn K mainGlobals "isinstance" = some none)
    (n_len : PySem.W.nsIn K mainGlobals "len" = some none)
    (n_list : PySem.W.nsIn K mainGlobals "list" = some none)
    (n_max : PySem.W.nsIn K mainGlobals "max" = some none)
    (n_min : PySem.W.nsIn K mainGlobals "min" = some none)
    (n_range : PySem.W.nsIn K mainGlobals "range" = some none)
    (n_sorted : PySem.W.nsIn K mainGlobals "sorted" = some none)
    (n_str : PySem.W.nsIn K mainGlobals "str" = some none)
    (n_sum : PySem.W.nsIn K mainGlobals "sum" = some none)
    (n_tuple : PySem.W.nsIn K mainGlobals "tuple" = some none)
    (g_BadBeat : PySem.W.nsIn K mainGlobals "BadBeat" = some (some (.ref C_BadBeat)))
    (g_BadSize : PySem.W.nsIn K mainGlobals "BadSize" = some (some (.ref C_BadSize)))
    (g_Excess : PySem.W.nsIn K mainGlobals "Excess" = some (some (.ref C_Excess)))
    (g_PairError : PySem.W.nsIn K mainGlobals "PairError" = some (some (.ref C_PairError)))
    (g_TooMany : PySem.W.nsIn K mainGlobals "TooMany" = some (some (.ref C_TooMany)))
    {t_COUNTER_PINS : Tok} (g_COUNTER_PINS : PySem.W.nsIn K mainGlobals "COUNTER_PINS" = some (some (.int 60 t_COUNTER_PINS)))
    {t_COUNTER_TOP : Tok} (g_COUNTER_TOP : PySem.W.nsIn K mainGlobals "COUNTER_TOP" = some (some (.int 12 t_COUNTER_TOP)))
    {t_COURSE_TOP : Tok} (g_COURSE_TOP : PySem.W.nsIn K mainGlobals "COURSE_TOP" = some (some (.int 12 t_COURSE_TOP)))
    (g_LIMITS : PySem.W.nsIn K mainGlobals "LIMITS" = some (some (.ref c_LIMITS)))
    (xl_LIMITS : K.lookup c_LIMITS = some ⟨.type "dict", none, .dict es_L nx_L, #[]⟩)
    (xk_LIMITS : PySem.W.KeysLit w.params es_L.toList)
    (xn_top : PySem.W.nsIn K c_LIMITS "top" = some (some (.int 60 tk_top)))
    (xn_beats : PySem.W.nsIn K c_LIMITS "beats" = some (some (.int 400 tk_beats)))
    (xn_play : PySem.W.nsIn K c_LIMITS "play" = some (some (.int 60 tk_play)))
    (oc_1 : PySem.W.specialIn K (.builtin "object.__class__") "__get__" = some (some (.builtin "getset_descriptor.__get__")))
    (oc_2 : PySem.W.takesIn K (.builtin "object.__class__") = some true)
    (ic_PairError : PySem.W.isClsIn K C_PairError = true)
    (ty_PairError : PySem.W.typeIn K (.ref C_PairError) = some (.type "type"))
    (bg_PairError : PySem.W.specialIn K (.ref C_PairError) "__getattribute__" = some (some (.builtin "type.__getattribute__")))
    (br_PairError : PySem.W.readsIn K C_PairError (.type "type") = true)
    (bi_PairError : PySem.W.findCls K (.ref C_PairError) (.type "type") "__init__" = some (.val (.builtin "ValueError.__init__")))
    (sb_PairError : PySem.W.subIn K (.ref C_PairError) (.type "BaseException") = some true)
    (ic_TooMany : PySem.W.isClsIn K C_TooMany = true)
    (ty_TooMany : PySem.W.typeIn K (.ref C_TooMany) = some (.type "type"))
    (xc_TooMany : K.lookup C_TooMany = some (excClassObj nm_TooMany q_TooMany C_TooMany N_TooMany bs_TooMany bm_TooMany true sn_TooMany sub_TooMany ab_TooMany col_TooMany dd_TooMany k0_TooMany k1_TooMany k2_TooMany k3_TooMany k5_TooMany "ValueError.__new__"))
    (rv_TooMany : PySem.HandSPX.refsVE bm_TooMany = true)
    (sa_TooMany : PySem.W.findIn K (.ref C_TooMany) "__setattr__" = some (some (.builtin "object.__setattr__")))
    (sb_TooMany : PySem.W.subIn K (.ref C_TooMany) (.type "BaseException") = some true)
    (kp_TooMany : PySem.W.keepIn K (.ref C_TooMany) = true)
    (ga_TooMany : PySem.W.findIn K (.ref C_TooMany) "__getattribute__" = some (some (.builtin "BaseException.__getattribute__")))
    (gg_TooMany : PySem.W.findIn K (.ref C_TooMany) "__getattr__" = some none)
    (hd_TooMany : PySem.W.hasDictIn K C_TooMany = true)
    (gc_TooMany : PySem.W.findIn K (.ref C_TooMany) "__class__" = some (some (.builtin "object.__class__")))
    (mr_TooMany : PySem.W.mroIn K C_TooMany (.type "object") = some true)
    (nf_TooMany_what : PySem.W.findIn K (.ref C_TooMany) "what" = some none)
    (ic_BadSize : PySem.W.isClsIn K C_BadSize = true)
    (ty_BadSize : PySem.W.typeIn K (.ref C_BadSize) = some (.type "type"))
    (sd_TooMany_BadSize : PySem.W.subIn K (.ref C_TooMany) (.ref C_BadSize) = some false)
    (nq_TooMany_BadSize : (Value.ref C_TooMany == Value.ref C_BadSize) = false)
    (ic_BadBeat : PySem.W.isClsIn K C_BadBeat = true)
    (ty_BadBeat : PySem.W.typeIn K (.ref C_BadBeat) = some (.type "type"))
    (sd_TooMany_BadBeat : PySem.W.subIn K (.ref C_TooMany) (.ref C_BadBeat) = some false)
    (nq_TooMany_BadBeat : (Value.ref C_TooMany == Value.ref C_BadBeat) = false)
    (sv_TooMany : PySem.W.subIn K (.ref C_TooMany) (.type "ValueError") = some true)
    (sp_TooMany : PySem.W.subIn K (.ref C_TooMany) (.ref C_PairError) = some true)
    (xc_BadSize : K.lookup C_BadSize = some (excClassObj nm_BadSize q_BadSize C_BadSize N_BadSize bs_BadSize bm_BadSize true sn_BadSize sub_BadSize ab_BadSize col_BadSize dd_BadSize k0_BadSize k1_BadSize k2_BadSize k3_BadSize k5_BadSize "ValueError.__new__"))
    (rv_BadSize : PySem.HandSPX.refsVE bm_BadSize = true)
    (sa_BadSize : PySem.W.findIn K (.ref C_BadSize) "__setattr__" = some (some (.builtin "object.__setattr__")))
    (sb_BadSize : PySem.W.subIn K (.ref C_BadSize) (.type "BaseException") = some true)
    (kp_BadSize : PySem.W.keepIn K (.ref C_BadSize) = true)
    (ga_BadSize : PySem.W.findIn K (.ref C_BadSize) "__getattribute__" = some (some (.builtin "BaseException.__getattribute__")))
    (gg_BadSize : PySem.W.findIn K (.ref C_BadSize) "__getattr__" = some none)
    (hd_BadSize : PySem.W.hasDictIn K C_BadSize = true)
    (gc_BadSize : PySem.W.findIn K (.ref C_BadSize) "__class__" = some (some (.builtin "object.__class__")))
    (mr_BadSize : PySem.W.mroIn K C_BadSize (.type "object") = some true)
    (nf_BadSize_what : PySem.W.findIn K (.ref C_BadSize) "what" = some none)
    (nf_BadSize_place : PySem.W.findIn K (.ref C_BadSize) "place" = some none)
    (sd_BadSize_TooMany : PySem.W.subIn K (.ref C_BadSize) (.ref C_TooMany) = some false)
    (nq_BadSize_TooMany : (Value.ref C_BadSize == Value.ref C_TooMany) = false)
    (sd_BadSize_BadBeat : PySem.W.subIn K (.ref C_BadSize) (.ref C_BadBeat) = some false)
    (nq_BadSize_BadBeat : (Value.ref C_BadSize == Value.ref C_BadBeat) = false)
    (sv_BadSize : PySem.W.subIn K (.ref C_BadSize) (.type "ValueError") = some true)
    (sp_BadSize : PySem.W.subIn K (.ref C_BadSize) (.ref C_PairError) = some true)
    (xc_BadBeat : K.lookup C_BadBeat = some (excClassObj nm_BadBeat q_BadBeat C_BadBeat N_BadBeat bs_BadBeat bm_BadBeat true sn_BadBeat sub_BadBeat ab_BadBeat col_BadBeat dd_BadBeat k0_BadBeat k1_BadBeat k2_BadBeat k3_BadBeat k5_BadBeat "ValueError.__new__"))
    (rv_BadBeat : PySem.HandSPX.refsVE bm_BadBeat = true)
    (sa_BadBeat : PySem.W.findIn K (.ref C_BadBeat) "__setattr__" = some (some (.builtin "object.__setattr__")))
    (sb_BadBeat : PySem.W.subIn K (.ref C_BadBeat) (.type "BaseException") = some true)
    (kp_BadBeat : PySem.W.keepIn K (.ref C_BadBeat) = true)
    (ga_BadBeat : PySem.W.findIn K (.ref C_BadBeat) "__getattribute__" = some (some (.builtin "BaseException.__getattribute__")))
    (gg_BadBeat : PySem.W.findIn K (.ref C_BadBeat) "__getattr__" = some none)
    (hd_BadBeat : PySem.W.hasDictIn K C_BadBeat = true)
    (gc_BadBeat : PySem.W.findIn K (.ref C_BadBeat) "__class__" = some (some (.builtin "object.__class__")))
    (mr_BadBeat : PySem.W.mroIn K C_BadBeat (.type "object") = some true)
    (nf_BadBeat_at : PySem.W.findIn K (.ref C_BadBeat) "at" = some none)
    (sd_BadBeat_TooMany : PySem.W.subIn K (.ref C_BadBeat) (.ref C_TooMany) = some false)
    (nq_BadBeat_TooMany : (Value.ref C_BadBeat == Value.ref C_TooMany) = false)
    (sd_BadBeat_BadSize : PySem.W.subIn K (.ref C_BadBeat) (.ref C_BadSize) = some false)
    (nq_BadBeat_BadSize : (Value.ref C_BadBeat == Value.ref C_BadSize) = false)
    (sv_BadBeat : PySem.W.subIn K (.ref C_BadBeat) (.type "ValueError") = some true)
    (sp_BadBeat : PySem.W.subIn K (.ref C_BadBeat) (.ref C_PairError) = some true)
    (pg_Excess : PySem.W.plainGet K C_Excess Str.empty = true)
    (hd_Excess : PySem.W.hasDictIn K C_Excess = true)
    (po_Excess : PySem.W.plainOver K C_Excess = true)
    (sa_Excess : PySem.W.findIn K (.ref C_Excess) "__setattr__" = some (some (.builtin "object.__setattr__")))
    (mk_Excess : PySem.W.makesIn K C_Excess = true)
    (kp_Excess : PySem.W.keepIn K (.ref C_Excess) = true)
    (na_top_number : PySem.W.findIn K (.ref C_Excess) "top_number" = some none)
    (na_now_list : PySem.W.findIn K (.ref C_Excess) "now_list" = some none)
    (na_peak_list : PySem.W.findIn K (.ref C_Excess) "peak_list" = some none) :
    ∃ fd : FuncData, (∀ (s : Shared) (v : Value), BindsTo s fd ⟨[v], []⟩ [("script", v)]) ∧ ∀ base : Heap, K.In base → base.Ns mainGlobals mg → FnOk P w K mg base CX0 9 fa fd ["script"] (sp_law K) := by
  have e := hfa.symm.trans (PySem.W.mg_of X G a_law)
  have e2 : f_law = fa := by cases e; rfl
  subst e2
  have T : Txt K mg w ⟨f_TooMany___init__, f_BadSize___init__, f_BadBeat___init__, f_check, f_check_within, f_check_counter, f_worth_of_beat, f_next_row, f_rows_of, f_best_end, f_stretches_to, f_stair, f_worth_of_stretch, f_judge_stair, f_against, f_check_top, f_check_beat, f_check_course, f_check_course_top, f_greatest_stretch, f_Excess___init__, f_Excess_add_beat, f_Excess_peaks, f__law_f_busy, f__law_f_hit, f__law_f_worth, f__law_f_stair_word, f__law_purse, f__law_draw, f__law_matches, f__law_hits, f__law_next_excess, f__law_excesses, f__law_peaks, f__law_drawn_beat, f__law_stair, f__law_k78_worth, f__law_k78_peaks_hold, f__law_k78_eased, f_law, C_BadBeat, C_BadSize, C_Excess, C_PairError, C_TooMany, c_LIMITS⟩ ⟨PySem.W.fnOf "__init__" "TooMany.__init__" (defArgs s_TooMany___init__) (defBody s_TooMany___init__) (defScope s_TooMany___init__) .none kV0 dc0 pm0 an0 cd0 ct0, PySem.W.fnOf "__init__" "BadSize.__init__" (defArgs s_BadSize___init__) (defBody s_BadSize___init__) (defScope s_BadSize___init__) .none kV1 dc1 pm1 an1 cd1 ct1, PySem.W.fnOf "__init__" "BadBeat.__init__" (defArgs s_BadBeat___init__) (defBody s_BadBeat___init__) (defScope s_BadBeat___init__) .none kV2 dc2 pm2 an2 cd2 ct2, PySem.W.fnOf "check" "check" (defArgs s_check) (defBody s_check) (defScope s_check) .none kV3 dc3 pm3 an3 cd3 ct3, PySem.W.fnOf "check_within" "check_within" (defArgs s_check_within) (defBody s_check_within) (defScope s_check_within) .none kV4 dc4 pm4 an4 cd4 ct4, PySem.W.fnOf "check_counter" "check_counter" (defArgs s_check_counter) (defBody s_check_counter) (defScope s_check_counter) .none kV5 dc5 pm5 an5 cd5 ct5, PySem.W.fnOf "worth_of_beat" "worth_of_beat" (defArgs s_worth_of_beat) (defBody s_worth_of_beat) (defScope s_worth_of_beat) .none kV6 dc6 pm6 an6 cd6 ct6, PySem.W.fnOf "next_row" "next_row" (defArgs s_next_row) (defBody s_next_row) (defScope s_next_row) .none kV7 dc7 pm7 an7 cd7 ct7, PySem.W.fnOf "rows_of" "rows_of" (defArgs s_rows_of) (defBody s_rows_of) (defScope s_rows_of) .none kV8 dc8 pm8 an8 cd8 ct8, PySem.W.fnOf "best_end" "best_end" (defArgs s_best_end) (defBody s_best_end) (defScope s_best_end) .none kV9 dc9 pm9 an9 cd9 ct9, PySem.W.fnOf "stretches_to" "stretches_to" (defArgs s_stretches_to) (defBody s_stretches_to) (defScope s_stretches_to) .none kV10 dc10 pm10 an10 cd10 ct10, PySem.W.fnOf "stair" "stair" (defArgs s_stair) (defBody s_stair) (defScope s_stair) .none kV11 dc11 pm11 an11 cd11 ct11, PySem.W.fnOf "worth_of_stretch" "worth_of_stretch" (defArgs s_worth_of_stretch) (defBody s_worth_of_stretch) (defScope s_worth_of_stretch) .none kV12 dc12 pm12 an12 cd12 ct12, PySem.W.fnOf "judge_stair" "judge_stair" (defArgs s_judge_stair) (defBody s_judge_stair) (defScope s_judge_stair) .none kV13 dc13 pm13 an13 cd13 ct13, PySem.W.fnOf "against" "against" (defArgs s_against) (defBody s_against) (defScope s_against) .none kV14 dc14 pm14 an14 cd14 ct14, PySem.W.fnOf "check_top" "check_top" (defArgs s_check_top) (defBody s_check_top) (defScope s_check_top) .none kV15 dc15 pm15 an15 cd15 ct15, PySem.W.fnOf "check_beat" "check_beat" (defArgs s_check_beat) (defBody s_check_beat) (defScope s_check_beat) .none kV16 dc16 pm16 an16 cd16 ct16, PySem.W.fnOf "check_course" "check_course" (defArgs s_check_course) (defBody s_check_course) (defScope s_check_course) .none kV17 dc17 pm17 an17 cd17 ct17, PySem.W.fnOf "check_course_top" "check_course_top" (defArgs s_check_course_top) (defBody s_check_course_top) (defScope s_check_course_top) .none kV18 dc18 pm18 an18 cd18 ct18, PySem.W.fnOf "greatest_stretch" "greatest_stretch" (defArgs s_greatest_stretch) (defBody s_greatest_stretch) (defScope s_greatest_stretch) .none kV19 dc19 pm19 an19 cd19 ct19, PySem.W.fnOf "__init__" "Excess.__init__" (defArgs s_Excess___init__) (defBody s_Excess___init__) (defScope s_Excess___init__) .none kV20 dc20 pm20 an20 cd20 ct20, PySem.W.fnOf "add_beat" "Excess.add_beat" (defArgs s_Excess_add_beat) (defBody s_Excess_add_beat) (defScope s_Excess_add_beat) .none kV21 dc21 pm21 an21 cd21 ct21, PySem.W.fnOf "peaks" "Excess.peaks" (defArgs s_Excess_peaks) (defBody s_Excess_peaks) (defScope s_Excess_peaks) .none kV22 dc22 pm22 an22 cd22 ct22, PySem.W.fnOf "_law_f_busy" "_law_f_busy" (defArgs s__law_f_busy) (defBody s__law_f_busy) (defScope s__law_f_busy) .none kV23 dc23 pm23 an23 cd23 ct23, PySem.W.fnOf "_law_f_hit" "_law_f_hit" (defArgs s__law_f_hit) (defBody s__law_f_hit) (defScope s__law_f_hit) .none kV24 dc24 pm24 an24 cd24 ct24, PySem.W.fnOf "_law_f_worth" "_law_f_worth" (defArgs s__law_f_worth) (defBody s__law_f_worth) (defScope s__law_f_worth) .none kV25 dc25 pm25 an25 cd25 ct25, PySem.W.fnOf "_law_f_stair_word" "_law_f_stair_word" (defArgs s__law_f_stair_word) (defBody s__law_f_stair_word) (defScope s__law_f_stair_word) .none kV26 dc26 pm26 an26 cd26 ct26, PySem.W.fnOf "_law_purse" "_law_purse" (defArgs s__law_purse) (defBody s__law_purse) (defScope s__law_purse) .none kV27 dc27 pm27 an27 cd27 ct27, PySem.W.fnOf "_law_draw" "_law_draw" (defArgs s__law_draw) (defBody s__law_draw) (defScope s__law_draw) .none kV28 dc28 pm28 an28 cd28 ct28, PySem.W.fnOf "_law_matches" "_law_matches" (defArgs s__law_matches) (defBody s__law_matches) (defScope s__law_matches) .none kV29 dc29 pm29 an29 cd29 ct29, PySem.W.fnOf "_law_hits" "_law_hits" (defArgs s__law_hits) (defBody s__law_hits) (defScope s__law_hits) .none kV30 dc30 pm30 an30 cd30 ct30, PySem.W.fnOf "_law_next_excess" "_law_next_excess" (defArgs s__law_next_excess) (defBody s__law_next_excess) (defScope s__law_next_excess) .none kV31 dc31 pm31 an31 cd31 ct31, PySem.W.fnOf "_law_excesses" "_law_excesses" (defArgs s__law_excesses) (defBody s__law_excesses) (defScope s__law_excesses) .none kV32 dc32 pm32 an32 cd32 ct32, PySem.W.fnOf "_law_peaks" "_law_peaks" (defArgs s__law_peaks) (defBody s__law_peaks) (defScope s__law_peaks) .none kV33 dc33 pm33 an33 cd33 ct33, PySem.W.fnOf "_law_drawn_beat" "_law_drawn_beat" (defArgs s__law_drawn_beat) (defBody s__law_drawn_beat) (defScope s__law_drawn_beat) .none kV34 dc34 pm34 an34 cd34 ct34, PySem.W.fnOf "_law_stair" "_law_stair" (defArgs s__law_stair) (defBody s__law_stair) (defScope s__law_stair) .none kV35 dc35 pm35 an35 cd35 ct35, PySem.W.fnOf "_law_k78_worth" "_law_k78_worth" (defArgs s__law_k78_worth) (defBody s__law_k78_worth) (defScope s__law_k78_worth) .none kV36 dc36 pm36 an36 cd36 ct36, PySem.W.fnOf "_law_k78_peaks_hold" "_law_k78_peaks_hold" (defArgs s__law_k78_peaks_hold) (defBody s__law_k78_peaks_hold) (defScope s__law_k78_peaks_hold) .none kV37 dc37 pm37 an37 cd37 ct37, PySem.W.fnOf "_law_k78_eased" "_law_k78_eased" (defArgs s__law_k78_eased) (defBody s__law_k78_eased) (defScope s__law_k78_eased) .none kV38 dc38 pm38 an38 cd38 ct38, PySem.W.fnOf "law" "law" (defArgs s_law) (defBody s_law) (defScope s_law) .none kV39 dc39 pm39 an39 cd39 ct39⟩ :=
    { F_TooMany___init__ := fun_mk (st := s_TooMany___init__) l_TooMany___init__ c_TooMany___init__ k_TooMany___init__,
      F_BadSize___init__ := fun_mk (st := s_BadSize___init__) l_BadSize___init__ c_BadSize___init__ k_BadSize___init__,
      F_BadBeat___init__ := fun_mk (st := s_BadBeat___init__) l_BadBeat___init__ c_BadBeat___init__ k_BadBeat___init__,
      F_check := fun_mk (st := s_check) l_check c_check k_check,
      F_check_within := fun_mk (st := s_check_within) l_check_within c_check_within k_check_within,
      F_check_counter := fun_mk (st := s_check_counter) l_check_counter c_check_counter k_check_counter,
      F_worth_of_beat := fun_mk (st := s_worth_of_beat) l_worth_of_beat c_worth_of_beat k_worth_of_beat,
      F_next_row := fun_mk (st := s_next_row) l_next_row c_next_row k_next_row,
      F_rows_of := fun_mk (st := s_rows_of) l_rows_of c_rows_of k_rows_of,
      F_best_end := fun_mk (st := s_best_end) l_best_end c_best_end k_best_end,
      F_stretches_to := fun_mk (st := s_stretches_to) l_stretches_to c_stretches_to k_stretches_to,
      F_stair := fun_mk (st := s_stair) l_stair c_stair k_stair,
      F_worth_of_stretch := fun_mk (st := s_worth_of_stretch) l_worth_of_stretch c_worth_of_stretch k_worth_of_stretch,
      F_judge_stair := fun_mk (st := s_judge_stair) l_judge_stair c_judge_stair k_judge_stair,
      F_against := fun_mk (st := s_against) l_against c_against k_against,
      F_check_top := fun_mk (st := s_check_top) l_check_top c_check_top k_check_top,
      F_check_beat := fun_mk (st := s_check_beat) l_check_beat c_check_beat k_check_beat,
      F_check_course := fun_mk (st := s_check_course) l_check_course c_check_course k_check_course,
      F_check_course_top := fun_mk (st := s_check_course_top) l_check_course_top c_check_course_top k_check_course_top,
      F_greatest_stretch := fun_mk (st := s_greatest_stretch) l_greatest_stretch c_greatest_stretch k_greatest_stretch,
      F_Excess___init__ := fun_mk (st := s_Excess___init__) l_Excess___init__ c_Excess___init__ k_Excess___init__,
      F_Excess_add_beat := fun_mk (st := s_Excess_add_beat) l_Excess_add_beat c_Excess_add_beat k_Excess_add_beat,
      F_Excess_peaks := fun_mk (st := s_Excess_peaks) l_Excess_peaks c_Excess_peaks k_Excess_peaks,
      F__law_f_busy := fun_mk (st := s__law_f_busy) l__law_f_busy c__law_f_busy k__law_f_busy,
      F__law_f_hit := fun_mk (st := s__law_f_hit) l__law_f_hit c__law_f_hit k__law_f_hit,
      F__law_f_worth := fun_mk (st := s__law_f_worth) l__law_f_worth c__law_f_worth k__law_f_worth,
      F__law_f_stair_word := fun_mk (st := s__law_f_stair_word) l__law_f_stair_word c__law_f_stair_word k__law_f_stair_word,
      F__law_purse := fun_mk (st := s__law_purse) l__law_purse c__law_purse k__law_purse,
      F__law_draw := fun_mk (st := s__law_draw) l__law_draw c__law_draw k__law_draw,
      F__law_matches := fun_mk (st := s__law_matches) l__law_matches c__law_matches k__law_matches,
      F__law_hits := fun_mk (st := s__law_hits) l__law_hits c__law_hits k__law_hits,
      F__law_next_excess := fun_mk (st := s__law_next_excess) l__law_next_excess c__law_next_excess k__law_next_excess,
      F__law_excesses := fun_mk (st := s__law_excesses) l__law_excesses c__law_excesses k__law_excesses,
      F__law_peaks := fun_mk (st := s__law_peaks) l__law_peaks c__law_peaks k__law_peaks,
      F__law_drawn_beat := fun_mk (st := s__law_drawn_beat) l__law_drawn_beat c__law_drawn_beat k__law_drawn_beat,
      F__law_stair := fun_mk (st := s__law_stair) l__law_stair c__law_stair k__law_stair,
      F__law_k78_worth := fun_mk (st := s__law_k78_worth) l__law_k78_worth c__law_k78_worth k__law_k78_worth,
      F__law_k78_peaks_hold := fun_mk (st := s__law_k78_peaks_hold) l__law_k78_peaks_hold c__law_k78_peaks_hold k__law_k78_peaks_hold,
      F__law_k78_eased := fun_mk (st := s__law_k78_eased) l__law_k78_eased c__law_k78_eased k__law_k78_eased,
      F_law := fun_mk (st := s_law) l_law c_law k_law,
      g_check := PySem.W.mg_of X G a_check,
      g_check_within := PySem.W.mg_of X G a_check_within,
      g_check_counter := PySem.W.mg_of X G a_check_counter,
      g_worth_of_beat := PySem.W.mg_of X G a_worth_of_beat,
      g_next_row := PySem.W.mg_of X G a_next_row,
      g_rows_of := PySem.W.mg_of X G a_rows_of,
      g_best_end := PySem.W.mg_of X G a_best_end,
      g_stretches_to := PySem.W.mg_of X G a_stretches_to,
      g_stair := PySem.W.mg_of X G a_stair,
      g_worth_of_stretch := PySem.W.mg_of X G a_worth_of_stretch,
      g_judge_stair := PySem.W.mg_of X G a_judge_stair,
      g_against := PySem.W.mg_of X G a_against,
      g_check_top := PySem.W.mg_of X G a_check_top,
      g_check_beat := PySem.W.mg_of X G a_check_beat,
      g_check_course := PySem.W.mg_of X G a_check_course,
      g_check_course_top := PySem.W.mg_of X G a_check_course_top,
      g_greatest_stretch := PySem.W.mg_of X G a_greatest_stretch,
      g__law_f_busy := PySem.W.mg_of X G a__law_f_busy,
      g__law_f_hit := PySem.W.mg_of X G a__law_f_hit,
      g__law_f_worth := PySem.W.mg_of X G a__law_f_worth,
      g__law_f_stair_word := PySem.W.mg_of X G a__law_f_stair_word,
      g__law_purse := PySem.W.mg_of X G a__law_purse,
      g__law_draw := PySem.W.mg_of X G a__law_draw,
      g__law_matches := PySem.W.mg_of X G a__law_matches,
      g__law_hits := PySem.W.mg_of X G a__law_hits,
      g__law_next_excess := PySem.W.mg_of X G a__law_next_excess,
      g__law_excesses := PySem.W.mg_of X G a__law_excesses,
      g__law_peaks := PySem.W.mg_of X G a__law_peaks,
      g__law_drawn_beat := PySem.W.mg_of X G a__law_drawn_beat,
      g__law_stair := PySem.W.mg_of X G a__law_stair,
      g__law_k78_worth := PySem.W.mg_of X G a__law_k78_worth,
      g__law_k78_peaks_hold := PySem.W.mg_of X G a__law_k78_peaks_hold,
      g__law_k78_eased := PySem.W.mg_of X G a__law_k78_eased,
      g_law := PySem.W.mg_of X G a_law,
      m_TooMany___init__ := ⟨a_TooMany___init__, i_TooMany___init__, k_TooMany___init__⟩,
      m_BadSize___init__ := ⟨a_BadSize___init__, i_BadSize___init__, k_BadSize___init__⟩,
      m_BadBeat___init__ := ⟨a_BadBeat___init__, i_BadBeat___init__, k_BadBeat___init__⟩,
      m_Excess___init__ := ⟨a_Excess___init__, i_Excess___init__, k_Excess___init__⟩,
      m_Excess_add_beat := ⟨a_Excess_add_beat, i_Excess_add_beat, k_Excess_add_beat⟩,
      m_Excess_peaks := ⟨a_Excess_peaks, i_Excess_peaks, k_Excess_peaks⟩,
      g_BadBeat := PySem.W.mg_of X G g_BadBeat,
      g_BadSize := PySem.W.mg_of X G g_BadSize,
      g_Excess := PySem.W.mg_of X G g_Excess,
      g_PairError := PySem.W.mg_of X G g_PairError,
      g_TooMany := PySem.W.mg_of X G g_TooMany,
      n_ValueError := PySem.W.mg_none_of X G n_ValueError,
      n_abs := PySem.W.mg_none_of X G n_abs,
      n_bool := PySem.W.mg_none_of X G n_bool,
      n_dict := PySem.W.mg_none_of X G n_dict,
      n_enumerate := PySem.W.mg_none_of X G n_enumerate,
      n_int := PySem.W.mg_none_of X G n_int,
      n_isinstance := PySem.W.mg_none_of X G n_isinstance,
      n_len := PySem.W.mg_none_of X G n_len,
      n_list := PySem.W.mg_none_of X G n_list,
      n_max := PySem.W.mg_none_of X G n_max,
      n_min := PySem.W.mg_none_of X G n_min,
      n_range := PySem.W.mg_none_of X G n_range,
      n_sorted := PySem.W.mg_none_of X G n_sorted,
      n_str := PySem.W.mg_none_of X G n_str,
      n_sum := PySem.W.mg_none_of X G n_sum,
      n_tuple := PySem.W.mg_none_of X G n_tuple,
      g_COUNTER_PINS := ⟨_, PySem.W.mg_of X G g_COUNTER_PINS⟩,
      g_COUNTER_TOP := ⟨_, PySem.W.mg_of X G g_COUNTER_TOP⟩,
      g_COURSE_TOP := ⟨_, PySem.W.mg_of X G g_COURSE_TOP⟩,
      g_LIMITS := PySem.W.mg_of X G g_LIMITS,
      x_top := ⟨_, _, _, xl_LIMITS, xk_LIMITS, xn_top, ⟨_, rfl⟩⟩,
      x_beats := ⟨_, _, _, xl_LIMITS, xk_LIMITS, xn_beats, ⟨_, rfl⟩⟩,
      x_play := ⟨_, _, _, xl_LIMITS, xk_LIMITS, xn_play, ⟨_, rfl⟩⟩,
      be_PairError := ⟨bg_PairError, ty_PairError, br_PairError, bi_PairError⟩,
      oe_TooMany := ⟨⟨_, _, _, _, _, _, _, _, _, _, _, _, _, _, _, xc_TooMany, rv_TooMany⟩, sa_TooMany, sb_TooMany, ty_TooMany, kp_TooMany⟩,
      ec_TooMany := ⟨ga_TooMany, gg_TooMany, sb_TooMany, hd_TooMany, gc_TooMany, oc_1, oc_2, mr_TooMany⟩,
      no_TooMany_what := nf_TooMany_what,
      ki_TooMany_TooMany := DL.kit_same,
      ki_TooMany_BadSize := DL.kit_ne nq_TooMany_BadSize ic_BadSize ty_BadSize sd_TooMany_BadSize,
      ki_TooMany_BadBeat := DL.kit_ne nq_TooMany_BadBeat ic_BadBeat ty_BadBeat sd_TooMany_BadBeat,
      ki_TooMany_V := DL.kit_ty rfl (by decide +kernel) sv_TooMany,
      ex_TooMany := DL.exm_own sb_PairError ic_PairError ty_PairError sp_TooMany,
      oe_BadSize := ⟨⟨_, _, _, _, _, _, _, _, _, _, _, _, _, _, _, xc_BadSize, rv_BadSize⟩, sa_BadSize, sb_BadSize, ty_BadSize, kp_BadSize⟩,
      ec_BadSize := ⟨ga_BadSize, gg_BadSize, sb_BadSize, hd_BadSize, gc_BadSize, oc_1, oc_2, mr_BadSize⟩,
      no_BadSize_what := nf_BadSize_what,
      no_BadSize_place := nf_BadSize_place,
      ki_BadSize_TooMany := DL.kit_ne nq_BadSize_TooMany ic_TooMany ty_TooMany sd_BadSize_TooMany,
      ki_BadSize_BadSize := DL.kit_same,
      ki_BadSize_BadBeat := DL.kit_ne nq_BadSize_BadBeat ic_BadBeat ty_BadBeat sd_BadSize_BadBeat,
      ki_BadSize_V := DL.kit_ty rfl (by decide +kernel) sv_BadSize,
      ex_BadSize := DL.exm_own sb_PairError ic_PairError ty_PairError sp_BadSize,
      oe_BadBeat := ⟨⟨_, _, _, _, _, _, _, _, _, _, _, _, _, _, _, xc_BadBeat, rv_BadBeat⟩, sa_BadBeat, sb_BadBeat, ty_BadBeat, kp_BadBeat⟩,
      ec_BadBeat := ⟨ga_BadBeat, gg_BadBeat, sb_BadBeat, hd_BadBeat, gc_BadBeat, oc_1, oc_2, mr_BadBeat⟩,
      no_BadBeat_at := nf_BadBeat_at,
      ki_BadBeat_TooMany := DL.kit_ne nq_BadBeat_TooMany ic_TooMany ty_TooMany sd_BadBeat_TooMany,
      ki_BadBeat_BadSize := DL.kit_ne nq_BadBeat_BadSize ic_BadSize ty_BadSize sd_BadBeat_BadSize,
      ki_BadBeat_BadBeat := DL.kit_same,
      ki_BadBeat_V := DL.kit_ty rfl (by decide +kernel) sv_BadBeat,
      ex_BadBeat := DL.exm_own sb_PairError ic_PairError ty_PairError sp_BadBeat,
      cl_Excess := ⟨pg_Excess, hd_Excess, po_Excess, sa_Excess⟩,
      mk_Excess := ⟨mk_Excess, a_Excess___init__, i_Excess___init__, kp_Excess⟩,
      na_top_number := na_top_number,
      na_now_list := na_now_list,
      na_peak_list := na_peak_list }
  exact ⟨_, fun s v => .of_eq rfl, fun base _ _ => ok_law T⟩
theorem walk {l : PySem.W.OpenLaw} {q : Program} {loose : List Str} {XP : (Str → Option Value) → Heap → Prop} {YP : World → Heap → Prop} {d : DefRec} {K : Params → PySem.W.Frag} (hn : l.most = some 63) (hdf : d.params.defaults = [])
    (hY : ∀ (w : World) (h : Heap), YP w h → (K w.params).In h)
    (F : ∀ (w : World) (mg : Str → Option Value) (fa : Addr) (h : Heap), (K w.params).In h → h.Ns mainGlobals mg → mg d.name = some (.ref fa) →
      ∃ fd : FuncData, (∀ (s : Shared) (u : Value), BindsTo s fd ⟨[u], []⟩ [("script", u)]) ∧ ∀ base : Heap, (K w.params).In base → base.Ns mainGlobals mg → FnOk l.prog w (K w.params) mg base CX0 9 fa fd ["script"] (sp_law (K w.params))) :
    PySem.W.WalkO q loose XP YP l.row.toRowW d [] (fun f vs => PySem.call f vs) :=
  L2.walk_of (n := 63) (k := 9) (x := "script") (CX := fun _ => CX0) (sp := fun w => sp_law (K w.params)) hn (by decide) hdf ⟨rfl, by decide, by decide⟩ hY F (fun _ _ a ns hl _ hS => ⟨a, ns, rfl, hS, hl, fun _ => rfl⟩) fun _ _ _ _ _ z => z
end K78
open PySem PySem.W PyProof.Rows in
set_option maxRecDepth 100000 in
set_option maxHeartbeats 0 in
theorem PySem.Challenge.cw_nextpair_k78_whole_stairs_peaks_and_play_holds : PySem.Challenge.rw_nextpair_k78_whole_stairs_peaks_and_play.Holds := by
  w_on; o_law; k_head; (case hw => w_witness2)
  k_fill
  refine K78.walk (l := PySem.Challenge.rw_nextpair_k78_whole_stairs_peaks_and_play) rfl rfl (fun w h Y => PySem.W.kIn_of Y) ?F
  case F =>
    intro w mg fa h KX G hmg
    refine' K78.all_mk KX G hmg ?a_TooMany___init__ ?i_TooMany___init__ ?l_TooMany___init__ ?c_TooMany___init__ ?k_TooMany___init__ ?a_BadSize___init__ ?i_BadSize___init__ ?l_BadSize___init__ ?c_BadSize___init__ ?k_BadSize___init__ ?a_BadBeat___init__ ?i_BadBeat___init__ ?l_BadBeat___init__ ?c_BadBeat___init__ ?k_BadBeat___init__ ?a_check ?l_check ?c_check ?k_check ?a_check_within ?l_check_within ?c_check_within ?k_check_within ?a_check_counter ?l_check_counter ?c_check_counter ?k_check_counter ?a_worth_of_beat ?l_worth_of_beat ?c_worth_of_beat ?k_worth_of_beat ?a_next_row ?l_next_row ?c_next_row ?k_next_row ?a_rows_of ?l_rows_of ?c_rows_of ?k_rows_of ?a_best_end ?l_best_end ?c_best_end ?k_best_end ?a_stretches_to ?l_stretches_to ?c_stretches_to ?k_stretches_to ?a_stair ?l_stair ?c_stair ?k_stair ?a_worth_of_stretch ?l_worth_of_stretch ?c_worth_of_stretch ?k_worth_of_stretch ?a_judge_stair ?l_judge_stair ?c_judge_stair ?k_judge_stair ?a_against ?l_against ?c_against ?k_against ?a_check_top ?l_check_top ?c_check_top ?k_check_top ?a_check_beat ?l_check_beat ?c_check_beat ?k_check_beat ?a_check_course ?l_check_course ?c_check_course ?k_check_course ?a_check_course_top ?l_check_course_top ?c_check_course_top ?k_check_course_top ?a_greatest_stretch ?l_greatest_stretch ?c_greatest_stretch ?k_greatest_stretch ?a_Excess___init__ ?i_Excess___init__ ?l_Excess___init__ ?c_Excess___init__ ?k_Excess___init__ ?a_Excess_add_beat ?i_Excess_add_beat ?l_Excess_add_beat ?c_Excess_add_beat ?k_Excess_add_beat ?a_Excess_peaks ?i_Excess_peaks ?l_Excess_peaks ?c_Excess_peaks ?k_Excess_peaks ?a__law_f_busy ?l__law_f_busy ?c__law_f_busy ?k__law_f_busy ?a__law_f_hit ?l__law_f_hit ?c__law_f_hit ?k__law_f_hit ?a__law_f_worth ?l__law_f_worth ?c__law_f_worth ?k__law_f_worth ?a__law_f_stair_word ?l__law_f_stair_word ?c__law_f_stair_word ?k__law_f_stair_word ?a__law_purse ?l__law_purse ?c__law_purse ?k__law_purse ?a__law_draw ?l__law_draw ?c__law_draw ?k__law_draw ?a__law_matches ?l__law_matches ?c__law_matches ?k__law_matches ?a__law_hits ?l__law_hits ?c__law_hits ?k__law_hits ?a__law_next_excess ?l__law_next_excess ?c__law_next_excess ?k__law_next_excess ?a__law_excesses ?l__law_excesses ?c__law_excesses ?k__law_excesses ?a__law_peaks ?l__law_peaks ?c__law_peaks ?k__law_peaks ?a__law_drawn_beat ?l__law_drawn_beat ?c__law_drawn_beat ?k__law_drawn_beat ?a__law_stair ?l__law_stair ?c__law_stair ?k__law_stair ?a__law_k78_worth ?l__law_k78_worth ?c__law_k78_worth ?k__law_k78_worth ?a__law_k78_peaks_hold ?l__law_k78_peaks_hold ?c__law_k78_peaks_hold ?k__law_k78_peaks_hold ?a__law_k78_eased ?l__law_k78_eased ?c__law_k78_eased ?k__law_k78_eased ?a_law ?l_law ?c_law ?k_law ?n_ValueError ?n_abs ?n_bool ?n_dict ?n_enumerate ?n_int ?n_isinstance ?n_len ?n_list ?n_max ?n_min ?n_range ?n_sorted ?n_str ?n_sum ?n_tuple ?g_BadBeat ?g_BadSize ?g_Excess ?g_PairError ?g_TooMany ?g_COUNTER_PINS ?g_COUNTER_TOP ?g_COURSE_TOP ?g_LIMITS ?xl_LIMITS ?xk_LIMITS ?xn_top ?xn_beats ?xn_play ?oc_1 ?oc_2 ?ic_PairError ?ty_PairError ?bg_PairError ?br_PairError ?bi_PairError ?sb_PairError ?ic_TooMany ?ty_TooMany ?xc_TooMany ?rv_TooMany ?sa_TooMany ?sb_TooMany ?kp_TooMany ?ga_TooMany ?gg_TooMany ?hd_TooMany ?gc_TooMany ?mr_TooMany ?nf_TooMany_what ?ic_BadSize ?ty_BadSize ?sd_TooMany_BadSize ?nq_TooMany_BadSize ?ic_BadBeat ?ty_BadBeat ?sd_TooMany_BadBeat ?nq_TooMany_BadBeat ?sv_TooMany ?sp_TooMany ?xc_BadSize ?rv_BadSize ?sa_BadSize ?sb_BadSize ?kp_BadSize ?ga_BadSize ?gg_BadSize ?hd_BadSize ?gc_BadSize ?mr_BadSize ?nf_BadSize_what ?nf_BadSize_place ?sd_BadSize_TooMany ?nq_BadSize_TooMany ?sd_BadSize_BadBeat ?nq_BadSize_BadBeat ?sv_BadSize ?sp_BadSize ?xc_BadBeat ?rv_BadBeat ?sa_BadBeat ?sb_BadBeat ?kp_BadBeat ?ga_BadBeat ?gg_BadBeat ?hd_BadBeat ?gc_BadBeat ?mr_BadBeat ?nf_BadBeat_at ?sd_BadBeat_TooMany ?nq_BadBeat_TooMany ?sd_BadBeat_BadSize ?nq_BadBeat_BadSize ?sv_BadBeat ?sp_BadBeat ?pg_Excess ?hd_Excess ?po_Excess ?sa_Excess ?mk_Excess ?kp_Excess ?na_top_number ?na_now_list ?na_peak_list
    (case g_BadBeat => k_is)
    (case g_BadSize => k_is)
    (case g_Excess => k_is)
    (case g_PairError => k_is)
    (case g_TooMany => k_is)
    (case a_TooMany___init__ => k_is)
    (case i_TooMany___init__ => k_is)
    (case l_TooMany___init__ => k_is)
    (case c_TooMany___init__ => k_is)
    (case k_TooMany___init__ => k_is)
    (case a_BadSize___init__ => k_is)
    (case i_BadSize___init__ => k_is)
    (case l_BadSize___init__ => k_is)
    (case c_BadSize___init__ => k_is)
    (case k_BadSize___init__ => k_is)
    (case a_BadBeat___init__ => k_is)
    (case i_BadBeat___init__ => k_is)
    (case l_BadBeat___init__ => k_is)
    (case c_BadBeat___init__ => k_is)
    (case k_BadBeat___init__ => k_is)
    (case a_check => k_is)
    (case l_check => k_is)
    (case c_check => k_is)
    (case k_check => k_is)
    (case a_check_within => k_is)
    (case l_check_within => k_is)
    (case c_check_within => k_is)
    (case k_check_within => k_is)
    (case a_check_counter => k_is)
    (case l_check_counter => k_is)
    (case c_check_counter => k_is)
    (case k_check_counter => k_is)
    (case a_worth_of_beat => k_is)
    (case l_worth_of_beat => k_is)
    (case c_worth_of_beat => k_is)
    (case k_worth_of_beat => k_is)
    (case a_next_row => k_is)
    (case l_next_row => k_is)
    (case c_next_row => k_is)
    (case k_next_row => k_is)
    (case a_rows_of => k_is)
    (case l_rows_of => k_is)
    (case c_rows_of => k_is)
    (case k_rows_of => k_is)
    (case a_best_end => k_is)
    (case l_best_end => k_is)
    (case c_best_end => k_is)
    (case k_best_end => k_is)
    (case a_stretches_to => k_is)
    (case l_stretches_to => k_is)
    (case c_stretches_to => k_is)
    (case k_stretches_to => k_is)
    (case a_stair => k_is)
    (case l_stair => k_is)
    (case c_stair => k_is)
    (case k_stair => k_is)
    (case a_worth_of_stretch => k_is)
    (case l_worth_of_stretch => k_is)
    (case c_worth_of_stretch => k_is)
    (case k_worth_of_stretch => k_is)
    (case a_judge_stair => k_is)
    (case l_judge_stair => k_is)
    (case c_judge_stair => k_is)
    (case k_judge_stair => k_is)
    (case a_against => k_is)
    (case l_against => k_is)
    (case c_against => k_is)
    (case k_against => k_is)
    (case a_check_top => k_is)
    (case l_check_top => k_is)
    (case c_check_top => k_is)
    (case k_check_top => k_is)
    (case a_check_beat => k_is)
    (case l_check_beat => k_is)
    (case c_check_beat => k_is)
    (case k_check_beat => k_is)
    (case a_check_course => k_is)
    (case l_check_course => k_is)
    (case c_check_course => k_is)
    (case k_check_course => k_is)
    (case a_check_course_top => k_is)
    (case l_check_course_top => k_is)
    (case c_check_course_top => k_is)
    (case k_check_course_top => k_is)
    (case a_greatest_stretch => k_is)
    (case l_greatest_stretch => k_is)
    (case c_greatest_stretch => k_is)
    (case k_greatest_stretch => k_is)
    (case a_Excess___init__ => k_is)
    (case i_Excess___init__ => k_is)
    (case l_Excess___init__ => k_is)
    (case c_Excess___init__ => k_is)
    (case k_Excess___init__ => k_is)
    (case a_Excess_add_beat => k_is)
    (case i_Excess_add_beat => k_is)
    (case l_Excess_add_beat => k_is)
    (case c_Excess_add_beat => k_is)
    (case k_Excess_add_beat => k_is)
    (case a_Excess_peaks => k_is)
    (case i_Excess_peaks => k_is)
    (case l_Excess_peaks => k_is)
    (case c_Excess_peaks => k_is)
    (case k_Excess_peaks => k_is)
    (case a__law_f_busy => k_is)
    (case l__law_f_busy => k_is)
    (case c__law_f_busy => k_is)
    (case k__law_f_busy => k_is)
    (case a__law_f_hit => k_is)
    (case l__law_f_hit => k_is)
    (case c__law_f_hit => k_is)
    (case k__law_f_hit => k_is)
    (case a__law_f_worth => k_is)
    (case l__law_f_worth => k_is)
    (case c__law_f_worth => k_is)
    (case k__law_f_worth => k_is)
    (case a__law_f_stair_word => k_is)
    (case l__law_f_stair_word => k_is)
    (case c__law_f_stair_word => k_is)
    (case k__law_f_stair_word => k_is)
    (case a__law_purse => k_is)
    (case l__law_purse => k_is)
    (case c__law_purse => k_is)
    (case k__law_purse => k_is)
    (case a__law_draw => k_is)
    (case l__law_draw => k_is)
    (case c__law_draw => k_is)
    (case k__law_draw => k_is)
    (case a__law_matches => k_is)
    (case l__law_matches => k_is)
    (case c__law_matches => k_is)
    (case k__law_matches => k_is)
    (case a__law_hits => k_is)
    (case l__law_hits => k_is)
    (case c__law_hits => k_is)
    (case k__law_hits => k_is)
    (case a__law_next_excess => k_is)
    (case l__law_next_excess => k_is)
    (case c__law_next_excess => k_is)
    (case k__law_next_excess => k_is)
    (case a__law_excesses => k_is)
    (case l__law_excesses => k_is)
    (case c__law_excesses => k_is)
    (case k__law_excesses => k_is)
    (case a__law_peaks => k_is)
    (case l__law_peaks => k_is)
    (case c__law_peaks => k_is)
    (case k__law_peaks => k_is)
    (case a__law_drawn_beat => k_is)
    (case l__law_drawn_beat => k_is)
    (case c__law_drawn_beat => k_is)
    (case k__law_drawn_beat => k_is)
    (case a__law_stair => k_is)
    (case l__law_stair => k_is)
    (case c__law_stair => k_is)
    (case k__law_stair => k_is)
    (case a__law_k78_worth => k_is)
    (case l__law_k78_worth => k_is)
    (case c__law_k78_worth => k_is)
    (case k__law_k78_worth => k_is)
    (case a__law_k78_peaks_hold => k_is)
    (case l__law_k78_peaks_hold => k_is)
    (case c__law_k78_peaks_hold => k_is)
    (case k__law_k78_peaks_hold => k_is)
    (case a__law_k78_eased => k_is)
    (case l__law_k78_eased => k_is)
    (case c__law_k78_eased => k_is)
    (case k__law_k78_eased => k_is)
    (case a_law => k_is)
    (case l_law => k_is)
    (case c_law => k_is)
    (case k_law => k_is)
    (case n_ValueError => k_is)
    (case n_abs => k_is)
    (case n_bool => k_is)
    (case n_dict => k_is)
    (case n_enumerate => k_is)
    (case n_int => k_is)
    (case n_isinstance => k_is)
    (case n_len => k_is)
    (case n_list => k_is)
    (case n_max => k_is)
    (case n_min => k_is)
    (case n_range => k_is)
    (case n_sorted => k_is)
    (case n_str => k_is)
    (case n_sum => k_is)
    (case n_tuple => k_is)
    (case g_COUNTER_PINS => k_is)
    (case g_COUNTER_TOP => k_is)
    (case g_COURSE_TOP => k_is)
    (case g_LIMITS => k_is)
    (case xl_LIMITS => k_is)
    (case xk_LIMITS => (repeat' first | exact trivial | (refine ⟨⟨_, _, rfl, rfl⟩, ?_⟩)))
    (case xn_top => k_is)
    (case xn_beats => k_is)
    (case xn_play => k_is)
    (case oc_1 => k_is)
    (case oc_2 => k_is)
    (case ic_PairError => k_is)
    (case ty_PairError => k_is)
    (case bg_PairError => k_is)
    (case br_PairError => k_is)
    (case bi_PairError => k_is)
    (case sb_PairError => k_is)
    (case ic_TooMany => k_is)
    (case ty_TooMany => k_is)
    (case xc_TooMany => k_is)
    (case rv_TooMany => first | rfl | decide +kernel)
    (case sa_TooMany => k_is)
    (case sb_TooMany => k_is)
    (case kp_TooMany => k_is)
    (case ga_TooMany => k_is)
    (case gg_TooMany => k_is)
    (case hd_TooMany => k_is)
    (case gc_TooMany => k_is)
    (case mr_TooMany => k_is)
    (case nf_TooMany_what => k_is)
    (case ic_BadSize => k_is)
    (case ty_BadSize => k_is)
    (case sd_TooMany_BadSize => k_is)
    (case nq_TooMany_BadSize => first | rfl | decide +kernel)
    (case ic_BadBeat => k_is)
    (case ty_BadBeat => k_is)
    (case sd_TooMany_BadBeat => k_is)
    (case nq_TooMany_BadBeat => first | rfl | decide +kernel)
    (case sv_TooMany => k_is)
    (case sp_TooMany => k_is)
    (case xc_BadSize => k_is)
    (case rv_BadSize => first | rfl | decide +kernel)
    (case sa_BadSize => k_is)
    (case sb_BadSize => k_is)
    (case kp_BadSize => k_is)
    (case ga_BadSize => k_is)
    (case gg_BadSize => k_is)
    (case hd_BadSize => k_is)
    (case gc_BadSize => k_is)
    (case mr_BadSize => k_is)
    (case nf_BadSize_what => k_is)
    (case nf_BadSize_place => k_is)
    (case sd_BadSize_TooMany => k_is)
    (case nq_BadSize_TooMany => first | rfl | decide +kernel)
    (case sd_BadSize_BadBeat => k_is)
    (case nq_BadSize_BadBeat => first | rfl | decide +kernel)
    (case sv_BadSize => k_is)
    (case sp_BadSize => k_is)
    (case xc_BadBeat => k_is)
    (case rv_BadBeat => first | rfl | decide +kernel)
    (case sa_BadBeat => k_is)
    (case sb_BadBeat => k_is)
    (case kp_BadBeat => k_is)
    (case ga_BadBeat => k_is)
    (case gg_BadBeat => k_is)
    (case hd_BadBeat => k_is)
    (case gc_BadBeat => k_is)
    (case mr_BadBeat => k_is)
    (case nf_BadBeat_at => k_is)
    (case sd_BadBeat_TooMany => k_is)
    (case nq_BadBeat_TooMany => first | rfl | decide +kernel)
    (case sd_BadBeat_BadSize => k_is)
    (case nq_BadBeat_BadSize => first | rfl | decide +kernel)
    (case sv_BadBeat => k_is)
    (case sp_BadBeat => k_is)
    (case pg_Excess => k_is)
    (case hd_Excess => k_is)
    (case po_Excess => k_is)
    (case sa_Excess => k_is)
    (case mk_Excess => k_is)
    (case kp_Excess => k_is)
    (case na_top_number => k_is)
    (case na_now_list => k_is)
    (case na_peak_list => k_is)
