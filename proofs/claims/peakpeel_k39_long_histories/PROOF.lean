import PyProof.Rows.All
import Wide.All
import OpenK.AllK
import Wide.FinOn
import KE.KStateDown
import HandS.ForMost
import HandS.ForExc
import HandS.Defaults
import HandS.Property
import HandS.ExcOwn
import HandS.TryOnly
import HandS.TryMany
import HandS.More
import HandS.IsInst
import HandS.Walk
import HandS.Wide
import HandS.Star
import HandS.OwnEq
import KE.KSuper
import HandS.Style
import HandS.Conv
import PyProof.Rows.ReprR
import PyProof.ReprRoads
import PyProof.Rows.RegStrFacts
import HandS.Evl
import HandS.Steps
import HandS.Ends
import HandS.EndBits
import HandS.HeadEnd
import HandS.Head0
import HandS.Head1
import HandS.Head2
import HandS.HeadHook1
import HandS.HeadHook2
import HandS.HeadHook3
import HandS.HeadNt
import HandS.MakeKwOnly
import HandS.SortKw
import KE.DatumOrd
import KE.DataMinMax
import HandS.GenBody
import HandS.GenYield
import HandS.GenCall
import HandS.GenList
import PyProof.GenComp
import KE.KTryMore
import PySem.Challenge.RW_peakpeel_k39_long_histories
set_option Elab.async false
set_option linter.all false
set_option maxRecDepth 100000
set_option maxHeartbeats 0
section
/-! Calls with the guards known: what a def does when it is called (Fn), its body (FnB), and the rules of calls. -/
namespace Pk
open PySem PySem.Spec PyProof.Rows L2

structure RoomG (k : Nat) (A : Around) : Prop where
  r : Room k A
  g : A.guards = some []
theorem RoomG.mono {j k : Nat} {A : Around} (h : RoomG k A) (l : j ≤ k) : RoomG j A := ⟨h.r.mono l, h.g⟩
theorem RoomG.deeper {k : Nat} {A : Around} (h : RoomG (k + 1) A) (env : Env) : RoomG k (A.deeper env) := ⟨h.r.deeper env, h.g⟩
theorem RoomG.in1 {k : Nat} {A : Around} (h : RoomG (k + 1) A) : RoomG k A.in1 := ⟨h.r.in1, h.g⟩
theorem RoomG.make {k : Nat} {A : Around} (h : RoomG (k + 1) A) (C : Addr) (us : List Value) (kw : List (Str × Value)) : RoomG k (A.under (.builtin "type.__call__" ⟨.ref C :: us, kw⟩)) :=
  ⟨h.r.make C us kw, by
    have e : (Code.builtin "type.__call__" ⟨.ref C :: us, kw⟩).guards = [] := by
      first | rfl | simp [Code.guards, Code.isGuard, guardIds]
    simp [Around.under, e, h.g, pushGuards]⟩

/-- f called with so many written values us and the keywords' values ws (their names ks): its promise of them -/
structure Fn (P : Program) (w : World) (K : PySem.W.Frag) (mg : Str → Option Value) (base : Heap) (k : Nat) (f : Addr) (ks : List Str) (sp : Sp) : Prop where
  run : ∀ (A : Around) (outer : List Env) (s : Shared) (H : Hp) (us ws : List Value) (vs zs : List V) (Q : VK) (E : XK), RoomG k A → Env0 P w K mg base A outer s H → Vals vs us → Vals zs ws → zs.length = ks.length →
    sp (vs ++ zs) H Q E → codeAny (model P w) A (.call (.ref f) ⟨us, ks.zip ws⟩) (CR (L2.CX P w) outer P w H s Q E) s
/-- the same by the bound parameters -/
structure FnB (P : Program) (w : World) (K : PySem.W.Frag) (mg : Str → Option Value) (base : Heap) (k : Nat) (f : Addr) (fd : FuncData) (ps : List Str) (sp : Sp) : Prop where
  len : ∀ vs H Q E, sp vs H Q E → vs.length = ps.length
  run : ∀ (A : Around) (outer : List Env) (s : Shared) (H : Hp) (args : Args) (us : List Value) (vs : List V) (Q : VK) (E : XK), RoomG k A → Env0 P w K mg base A outer s H → BindsTo s fd args (ps.zip us) → Vals vs us → sp vs H Q E →
    codeAny (model P w) A (.call (.ref f) args) (CR (L2.CX P w) outer P w H s Q E) s
section
variable {P : Program} {w : World} {K : PySem.W.Frag} {mg : Str → Option Value} {base : Heap} {k j : Nat} {f : Addr} {fd : FuncData} {ks ps : List Str} {sp sp' : Sp}
theorem Fn.mono (F : Fn P w K mg base j f ks sp) (h : j ≤ k) : Fn P w K mg base k f ks sp := ⟨fun A outer s H us ws vs zs Q E hr => F.run A outer s H us ws vs zs Q E (hr.mono h)⟩
theorem Fn.imp (F : Fn P w K mg base k f ks sp) (h : ∀ vs H Q E, sp' vs H Q E → sp vs H Q E) : Fn P w K mg base k f ks sp' :=
  ⟨fun A outer s H us ws vs zs Q E hr e0 r rz l q => F.run A outer s H us ws vs zs Q E hr e0 r rz l (h _ _ _ _ q)⟩
theorem Fn.any {ι : Sort _} {spi : ι → Sp} (F : ∀ i, Fn P w K mg base k f ks (spi i)) : Fn P w K mg base k f ks (fun vs H Q E => ∃ i, spi i vs H Q E) :=
  ⟨fun A outer s H us ws vs zs Q E hr e0 r rz l ⟨i, q⟩ => (F i).run A outer s H us ws vs zs Q E hr e0 r rz l q⟩
/-- all parameters are given by place -/
theorem FnB.fn (F : FnB P w K mg base k f fd ps sp) (b : Binds K fd ps []) : Fn P w K mg base k f [] sp := by
  refine ⟨fun A outer s H us ws vs zs Q E hr e0 r rz l h => ?_⟩
  have ez : zs = [] := List.eq_nil_of_length_eq_zero (by simpa using l)
  subst ez
  cases rz
  have KX : K.In s.heap := e0.mod.kin.keeps fun b o e => (e0.bs b o e).1
  have hl : us.length = ps.length := by
    rw [← r.length]
    have := F.len _ _ _ _ h
    simpa using this
  have q := b s us KX (by simpa using hl)
  rw [List.append_nil] at q h
  exact F.run A outer s H ⟨us, []⟩ us vs Q E hr e0 q r h
/-- .. by place, defaults behind them -/
theorem FnB.fnD {dvs : List V} {ds : List Value} (F : FnB P w K mg base k f fd ps sp) (b : Binds K fd ps ds) (hd : Vals dvs ds) : Fn P w K mg base k f [] (fun vs H Q E => sp (vs ++ dvs) H Q E) := by
  refine ⟨fun A outer s H us ws vs zs Q E hr e0 r rz l h => ?_⟩
  have ez : zs = [] := List.eq_nil_of_length_eq_zero (by simpa using l)
  subst ez
  cases rz
  have KX : K.In s.heap := e0.mod.kin.keeps fun b o e => (e0.bs b o e).1
  have r2 := r.append hd
  rw [List.append_nil] at h
  have hl : (us ++ ds).length = ps.length := by rw [← r2.length]; exact F.len _ _ _ _ h
  exact F.run A outer s H ⟨us, []⟩ _ _ Q E hr e0 (b s us KX hl) r2 h
/-- .. n by place, the others by their names -/
theorem FnB.fnK {n : Nat} {g : List Value → List Value → List Value} {gV : List V → List V → List V} (F : FnB P w K mg base k f fd ps sp) (b : KBn K fd ps n ks g gV) : Fn P w K mg base k f ks (fun vs H Q E => n ≤ vs.length ∧ vs.length = n + ks.length ∧ sp (gV (vs.take n) (vs.drop n)) H Q E) := by
  refine ⟨fun A outer s H us ws vs zs Q E hr e0 r rz l h => ?_⟩
  obtain ⟨_, h2, h3⟩ := h
  have hn : vs.length = n := by rw [List.length_append] at h2; omega
  have e1 : (vs ++ zs).take n = vs := by rw [← hn, List.take_left]
  have e2 : (vs ++ zs).drop n = zs := by rw [← hn, List.drop_left]
  rw [e1, e2] at h3
  have KX : K.In s.heap := e0.mod.kin.keeps fun b o e => (e0.bs b o e).1
  exact F.run A outer s H ⟨us, ks.zip ws⟩ _ _ Q E hr e0 (b.to s us ws KX (by rw [← r.length]; exact hn) (by rw [← rz.length]; exact l)) (b.rel r rz) h3
/-- THE RULE: a def by its body -/
theorem fn_body {x qual : Str} {params : Arguments} {body : List Stmt} {scope : Scope} {dvs : List V} {kws : List (Str × V)} {N : List Str} (F : FunD K x qual params body scope dvs kws f fd) (S : FnScope N ps scope) (len : ∀ vs H Q E, sp vs H Q E → vs.length = ps.length)
    (hbody : ∀ (cdv : Value) (A : Around) (outer : List Env) (s : Shared) (H : Hp) (vs : List V) (Q : VK) (E : XK), RoomG k (A.deeper (envOfC qual scope s.heap.objs.size f cdv)) → sp vs H Q E →
      ∃ t, PSs (cxOf (L2.CX P w) P w K mg base N qual scope f cdv A outer s H E) body t ∧ t { nx := fun _ H' => Q .non H', rt := Q } (start N vs) H) : FnB P w K mg base (k + 1) f fd ps sp := by
  obtain ⟨oc, od, dV, kV, doc, pm, an, cdv, ct, osl, rfl, lk, hcd, _, _⟩ := F.ex
  refine ⟨len, fun A outer s H args us vs Q E hr e0 hb r hsp => ?_⟩
  have hl := len _ _ _ _ hsp
  have KX : K.In s.heap := e0.mod.kin.keeps fun b o e => (e0.bs b o e).1
  have lim : s.heap.NoLimit := e0.mod.nolimit.keeps fun b o e => (e0.bs b o e).1
  have hkind : ∀ y ∈ ps.zip us, scope.names.lookup y.1 = some .local ∨ (scope.names.lookup y.1 = some .cell ∧ ((cellsFrom (s.heap.objs.size + 1) scope.names []).lookup y.1).isSome = true) := fun ⟨n, v⟩ hy => by
    rcases S.par n (List.of_mem_zip hy).1 with q | q
    · exact .inl q
    · exact .inr ⟨q, PySem.W.cellsFrom_some _ _ _ (.inl q)⟩
  refine codeAny_call_function hr.r.depth (KX _ _ lk) rfl S.co S.gen rfl (PySem.W.codeRec_of KX hcd) (hb _ _ _ _ ?_)
  refine wpAny_newFunctionEnv_cells S.kind hkind fun env he s1 x => ?_
  subst he
  refine ⟨lim.keeps x.toInCall.keep, codeAny_func ?_⟩
  obtain ⟨t, ht, hq⟩ := hbody cdv A outer s H vs Q E (hr.deeper _) hsp
  have I : Inv (cxOf (L2.CX P w) P w K mg base N qual scope f cdv A outer s H E) [] (start N vs) H s1 := inv_start S hr.r.hd e0 hl r x
  refine wpAny_mono (ht.run [] s1 (start N vs) H _ I hq) (fun fl s' hs => ?_) fun e s' hs => hs
  have fin : ∀ {σ' : L2.St} {H' : Hp} {v : V} {u : Value}, Inv (cxOf (L2.CX P w) P w K mg base N qual scope f cdv A outer s H E) [] σ' H' s' → RelV v u → Q v H' → CE outer P w H s Q u s' :=
    fun {σ' H' v u} J rv q => ⟨v, H', J.os, J.bare, J.base, J.hok, rv, q⟩
  cases fl with
  | ret u =>
    obtain ⟨v, σ', H', J, rv, q⟩ := hs
    exact fin J rv q
  | next =>
    obtain ⟨σ', H', J, q⟩ := hs
    exact fin (v := V.non) (u := Value.none) J rfl q
  | brk =>
    obtain ⟨_, _, _, q⟩ := hs
    exact False.elim q
  | cont =>
    obtain ⟨_, _, _, q⟩ := hs
    exact False.elim q
end

/-- a body's wish about exceptions -/
abbrev WD (E : XK) : WX := fun cls d _ H => E cls d H
theorem takesD {P : Program} {w : World} {K : PySem.W.Frag} {mg : Str → Option Value} {base : Heap} {N : List Str} {qual : Str} {scope : Scope} {f : Addr} {cd : Value} {A : Around} {outer : List Env} {s : Shared} {H : Hp} {E : XK} :
    Takes (cxOf (L2.CX P w) P w K mg base N qual scope f cd A outer s H E) (WD E) := takes_of rfl rfl rfl rfl
theorem passD {P : Program} {w : World} {K : PySem.W.Frag} {mg : Str → Option Value} {base : Heap} {N : List Str} {qual : Str} {scope : Scope} {f : Addr} {cd : Value} {A : Around} {outer : List Env} {s : Shared} {H : Hp} {E : XK} :
    PassesOwn (model P w) (A.deeper (envOfC qual scope s.heap.objs.size f cd)) (envOfC qual scope s.heap.objs.size f cd) (cxOf (L2.CX P w) P w K mg base N qual scope f cd A outer s H E).xe := PassesOwn.leaving

section
variable {X : Cx} {k : Nat} {f C : Addr} {ks : List Str} {sp : Sp} {W : WX} {x m : Str} {p pos apos : Pos} {e o : Expr} {es : List Expr} {ta : TE} {t tk : TA}
theorem run_G {pins : List (Addr × Obj)} {σ : L2.St} {H : Hp} {s : Shared} {Q : VK} {us ws : List Value} {vs zs : List V} (F : Fn X.prog X.w X.K X.mg X.base k f ks sp) (hr : RoomG k X.A) (tks : Takes X W)
    (I : Inv X pins σ H s) (r : Vals vs us) (rz : Vals zs ws) (l : zs.length = ks.length) (h : sp (vs ++ zs) H Q (WE W σ)) : wpAny (model X.prog X.w) X.A (call (.ref f) us (ks.zip ws)) (EP X pins σ Q) X.xe s := by
  refine wpAny_call (codeAny_mono (F.run X.A X.stack s H us ws vs zs Q (WE W σ) hr I.env0 r rz l h) fun r s' hq => ?_)
  cases r with
  | error e => exact passAt tks σ pins H s e s' I hq
  | ok fl =>
    cases fl with
    | ret u => exact I.after hq
    | next => exact False.elim hq
    | brk => exact False.elim hq
    | cont => exact False.elim hq
theorem run_G0 {pins : List (Addr × Obj)} {σ : L2.St} {H : Hp} {s : Shared} {Q : VK} {us : List Value} {vs : List V} (F : Fn X.prog X.w X.K X.mg X.base k f [] sp) (hr : RoomG k X.A) (tks : Takes X W)
    (I : Inv X pins σ H s) (r : Vals vs us) (h : sp vs H Q (WE W σ)) : wpAny (model X.prog X.w) X.A (call (.ref f) us) (EP X pins σ Q) X.xe s :=
  run_G (ws := []) (zs := []) F hr tks I r .nil rfl (by rw [List.append_nil]; exact h)
/-- f(e, ..) -/
def tF (sp : Sp) (W : WX) (t : TA) : TE := fun σ H Q => t σ H fun vs H1 => sp vs H1 Q (WE W σ)
theorem pe_f (F : Fn X.prog X.w X.K X.mg X.base k f [] sp) (hr : RoomG k X.A) (hm : X.mg x = some (.ref f)) (hk : PySem.W.keepIn X.K (.ref f) = true) (tks : Takes X W) (ha : PA X (e :: es) t) (hg : Gl X x := by rfl)
    (hdb : (x == ("__debug__" : Str)) = false := by decide) (he : starEach (e :: es) X.env = (false, eval e X.env) :: starEach es X.env := by rfl) (hpl : (backTo pos (starEach es X.env)).any (·.1) = false := by rfl) :
    PE X (.Call (.Name x p) (e :: es) [] pos) (tF sp W t) := by
  refine ⟨fun pins s σ H Q I h => ?_⟩
  refine wpAny_Call_Name_kw (ld_glob I hg hm ?_ hdb)
  refine PySem.W.callWith_K (h₀ := X.base) I.ok.mod.kin hk (thn (ha.run pos pins s σ H _ I h) fun us s1 ⟨vs, H1, I1, r, q⟩ => ⟨I1.kIn, ?_⟩) he hpl
  exact run_G0 F hr tks I1 r q
theorem pe_f0 (F : Fn X.prog X.w X.K X.mg X.base k f [] sp) (hr : RoomG k X.A) (hm : X.mg x = some (.ref f)) (hk : PySem.W.keepIn X.K (.ref f) = true) (tks : Takes X W) (hg : Gl X x := by rfl)
    (hdb : (x == ("__debug__" : Str)) = false := by decide) : PE X (.Call (.Name x p) [] [] pos) (tF sp W tNil) := by
  refine ⟨fun pins s σ H Q I h => ?_⟩
  refine wpAny_Call_Name_kw (ld_glob I hg hm ?_ hdb)
  exact PySem.W.callWith_K0 I.kIn hk (run_G0 (us := []) F hr tks I .nil h)
/-- o.m(e, ..) -/
def tM (C : Addr) (m : Str) (sp : Sp) (W : WX) (ta : TE) (t : TA) : TE := fun σ H Q => ta σ H fun x H1 => ∃ a dx fs, x = .ref a ∧ H1 a = some (.ins C dx fs) ∧ fs.lookup m = none ∧ t σ H1 fun vs H2 => sp (x :: vs) H2 Q (WE W σ)
theorem pe_m {pl : Sem Bool} (he : PE X o ta) (c : Cls X.K C) (hm : Meth X.K C m f) (F : Fn X.prog X.w X.K X.mg X.base k f [] sp) (hr : RoomG k X.A) (tks : Takes X W) (ha : PA X (e :: es) t)
    (hst : starEach (e :: es) X.env = (false, eval e X.env) :: starEach es X.env := by rfl) (hpl : (backTo pos (starEach es X.env)).any (·.1) = false := by rfl)
    (ht : eval (.Call (.Attribute o m apos) (e :: es) [] pos) X.env = (do
      let ov ← eval o X.env
      standAt apos.atName
      let (f, first) ← holding [ov] (getMethod ov m pl)
      callWith pos f first (backTo pos (starEach (e :: es) X.env)) (backToKw pos (keywordEach [] X.env))) := by rfl) :
    PE X (.Call (.Attribute o m apos) (e :: es) [] pos) (tM C m sp W ta t) := by
  refine ⟨fun pins s σ H Q I h => ?_⟩
  refine PySem.W.methodCall_KW (pl := pl) (thn (he.run pins s σ H _ I h) fun u s1 ⟨x, H1, I1, rx, a, dx, fs, ex, ea, l, q⟩ => ?_) ht
  subst ex
  obtain rfl : u = Value.ref a := rx
  refine getmeth_ok I1 ea c hm l ?_
  refine PySem.W.callWith_K (first := [.ref a]) (h₀ := X.base) I.ok.mod.kin hm.kp (thn (ha.run pos pins s1 σ H1 _ I1 q) fun us s2 ⟨vs, H2, I2, r, q2⟩ => ⟨I2.kIn, ?_⟩) hst hpl
  exact run_G0 (us := .ref a :: us) (vs := .ref a :: vs) F hr tks I2 (.cons rfl r) q2
theorem pe_m0 {pl : Sem Bool} (he : PE X o ta) (c : Cls X.K C) (hm : Meth X.K C m f) (F : Fn X.prog X.w X.K X.mg X.base k f [] sp) (hr : RoomG k X.A) (tks : Takes X W)
    (ht : eval (.Call (.Attribute o m apos) [] [] pos) X.env = (do
      let ov ← eval o X.env
      standAt apos.atName
      let (f, first) ← holding [ov] (getMethod ov m pl)
      callWith pos f first (backTo pos (starEach [] X.env)) (backToKw pos (keywordEach [] X.env))) := by rfl) :
    PE X (.Call (.Attribute o m apos) [] [] pos) (tM C m sp W ta tNil) := by
  refine ⟨fun pins s σ H Q I h => ?_⟩
  refine PySem.W.methodCall_KW (pl := pl) (thn (he.run pins s σ H _ I h) fun u s1 ⟨x, H1, I1, rx, a, dx, fs, ex, ea, l, q⟩ => ?_) ht
  subst ex
  obtain rfl : u = Value.ref a := rx
  refine getmeth_ok I1 ea c hm l ?_
  exact PySem.W.callWith_K0 (first := [.ref a]) I1.kIn hm.kp (run_G0 (us := [.ref a]) (vs := [.ref a]) F hr tks I1 (.cons rfl .nil) q)
/-- C(e, ..): a new instance and its dict, then __init__ -/
def tMk (C : Addr) (sp : Sp) (W : WX) (t : TA) : TE := fun σ H Q => t σ H fun vs H1 => ∀ x dx, H1 x = none → H1 dx = none → dx ≠ x →
  sp (.ref x :: vs) (upd (upd H1 dx (.own x)) x (.ins C dx [])) (fun v H2 => v = .non ∧ Q (.ref x) H2) (WE W σ)
theorem run_mk {pins : List (Addr × Obj)} {σ : L2.St} {H : Hp} {s : Shared} {Q : VK} {us : List Value} {vs : List V} (M : Mk X.K C f) (F : Fn X.prog X.w X.K X.mg X.base k f [] sp) (hr : RoomG (k + 1) X.A) (tks : Takes X W) (I : Inv X pins σ H s) (r : Vals vs us)
    (h : ∀ x dx, H x = none → H dx = none → dx ≠ x → sp (.ref x :: vs) (upd (upd H dx (.own x)) x (.ins C dx [])) (fun v H2 => v = .non ∧ Q (.ref x) H2) (WE W σ)) :
    wpAny (model X.prog X.w) X.A (call (.ref C) us) (EP X pins σ Q) X.xe s := by
  have hq := h (s.heap.objs.size + 1) s.heap.objs.size (I.hok.fresh (Nat.le_succ _)) (I.hok.fresh (Nat.le_refl _)) (Nat.ne_of_lt (Nat.lt_succ_self _))
  have I2 := Inv.made (C := C) I
  have r2 : Vals (V.ref (s.heap.objs.size + 1) :: vs) (Value.ref (s.heap.objs.size + 1) :: us) := .cons rfl r
  refine wpAny_call (make_map (f := f) I.kIn M.makes M.init (beq_iff_eq.mp M.fn) (codeAny_mono (F.run _ X.stack _ _ (Value.ref (s.heap.objs.size + 1) :: us) [] _ [] _ (WE W σ) (hr.make C us [])
    (I2.env0.make C us []) r2 .nil rfl (by rw [List.append_nil]; exact hq)) fun r s' hq' => ?_))
  cases r with
  | error e => exact passAt tks σ pins _ _ e s' I2 hq'
  | ok fl =>
    cases fl with
    | ret u =>
      obtain ⟨v, H', I3, rv, ev, q3⟩ := I2.after hq'
      subst ev
      exact ⟨rv, ⟨V.ref (s.heap.objs.size + 1), H', I3, rfl, q3⟩⟩
    | next => exact False.elim hq'
    | brk => exact False.elim hq'
    | cont => exact False.elim hq'
theorem pe_mk (M : Mk X.K C f) (F : Fn X.prog X.w X.K X.mg X.base k f [] sp) (hr : RoomG (k + 1) X.A) (hm : X.mg x = some (.ref C)) (tks : Takes X W) (ha : PA X (e :: es) t) (hg : Gl X x := by rfl)
    (hdb : (x == ("__debug__" : Str)) = false := by decide) (he : starEach (e :: es) X.env = (false, eval e X.env) :: starEach es X.env := by rfl) (hpl : (backTo pos (starEach es X.env)).any (·.1) = false := by rfl) :
    PE X (.Call (.Name x p) (e :: es) [] pos) (tMk C sp W t) := by
  refine ⟨fun pins s σ H Q I h => ?_⟩
  refine wpAny_Call_Name_kw (ld_glob I hg hm ?_ hdb)
  refine PySem.W.callWith_K (h₀ := X.base) I.ok.mod.kin M.kp (thn (ha.run pos pins s σ H _ I h) fun us s1 ⟨vs, H1, I1, r, q⟩ => ⟨I1.kIn, ?_⟩) he hpl
  exact run_mk M F hr tks I1 r q
theorem pe_mk0 (M : Mk X.K C f) (F : Fn X.prog X.w X.K X.mg X.base k f [] sp) (hr : RoomG (k + 1) X.A) (hm : X.mg x = some (.ref C)) (tks : Takes X W) (hg : Gl X x := by rfl)
    (hdb : (x == ("__debug__" : Str)) = false := by decide) : PE X (.Call (.Name x p) [] [] pos) (tMk C sp W tNil) := by
  refine ⟨fun pins s σ H Q I h => ?_⟩
  refine wpAny_Call_Name_kw (ld_glob I hg hm ?_ hdb)
  exact PySem.W.callWith_K0 I.kIn M.kp (run_mk (us := []) M F hr tks I .nil h)
/-- o.f, f a property -/
def tPr (C : Addr) (sp : Sp) (ta : TE) : TE := fun σ H Q => ta σ H fun x H1 => ∃ a dx fs, x = .ref a ∧ H1 a = some (.ins C dx fs) ∧ sp [x] H1 Q E0
theorem cx_none {P : Program} {w : World} {outer : List Env} {H : Hp} {s s' : Shared} {e : Value} (h : L2.CX P w outer H s E0 e s') : False := by
  obtain ⟨_, _, _, _, _, _, _, _, _, _, _, _, z⟩ := h
  exact z
theorem pe_pr {g : Addr} {pa : Addr} {nm : Str} (he : PE X e ta) (c : Cls X.K C) (hp : PropOf X.K C nm pa g) (F : Fn X.prog X.w X.K X.mg X.base k g [] sp) (hr : RoomG (k + 1) X.A)
    (hab : attributeBase e nm X.env (eval e X.env) = eval e X.env := by rfl) : PE X (.Attribute e nm pos) (tPr C sp ta) := by
  refine ⟨fun pins s σ H Q I h => ?_⟩
  refine attr_of hab (thn (he.run pins s σ H _ I h) fun u s1 ⟨x, H1, I1, rx, a, dx, fs, ex, ea, q⟩ => ?_)
  subst ex
  obtain rfl : u = Value.ref a := rx
  obtain ⟨mA, O, _, _, _, _⟩ := ins_get I1.hok ea
  obtain ⟨od, J, _⟩ := O.look
  obtain ⟨rest, hrec⟩ := hp.rec_
  have I2 := I1.tok (s1.toks + 1)
  have hc : (PySem.W.clsIn X.K C).isSome = true := by
    obtain ⟨cd, hc, _⟩ := PySem.W.any_some c.hd
    rw [hc]
    rfl
  refine PySem.W.get_bind I1.kIn J (PySem.W.plainGet_of (c.get nm)).1 (PySem.W.findObj_data hc hp.at_ hp.get hp.tak) (PySem.W.plainGet_of (c.get nm)).2 (wpAny_call (PySem.W.prop_get (s := { s1 with toks := s1.toks + 1 }) I1.kIn hrec ?_))
  refine codeAny_mono (F.run X.A.in1 X.stack { s1 with toks := s1.toks + 1 } H1 [.ref a] [] [.ref a] [] Q E0 hr.in1 I2.env0.in1 (.cons rfl .nil) .nil rfl q) fun r s' hq => ?_
  cases r with
  | error er => exact (cx_none hq).elim
  | ok fl =>
    cases fl with
    | ret u =>
      obtain ⟨v, H', I3, rv, q3⟩ := I2.after hq
      show wpAny _ _ (handedOut u) _ _ _
      rw [PySem.W.handedOut_of (handed_of rv)]
      exact wpAny_pure ⟨v, H', I3, rv, q3⟩
    | next => exact False.elim hq
    | brk => exact False.elim hq
    | cont => exact False.elim hq
/-- len(o), o an instance with its own __len__ -/
def rLenO (C : Addr) (sp : Sp) : L2.St → List V → Hp → VK → XK → Prop := fun _ vs H Q E => ∃ a dx fs, vs = [.ref a] ∧ H a = some (.ins C dx fs) ∧ sp [.ref a] H (fun v H' => ∃ n : Int, v = .int n ∧ 0 ≤ n ∧ n < 2 ^ 63 ∧ Q v H') E
def tLen (C : Addr) (sp : Sp) (W : WX) (ta : TE) : TE := fun σ H Q => ta σ H fun x H1 => rLenO C sp σ [x] H1 Q (WE W σ)
theorem pe_len {g : Addr} (he : PE X e ta) (hs : PySem.W.findIn X.K (.ref C) "__len__" = some (some (.ref g))) (hf : PySem.W.isFn X.K (.ref g) = true) (F : Fn X.prog X.w X.K X.mg X.base k g [] sp) (hr : RoomG (k + 1) X.A) (tks : Takes X W)
    (hm : X.mg "len" = none) (hg : Gl X "len" := by rfl) (hst : starEach [e] X.env = (false, eval e X.env) :: starEach [] X.env := by rfl) (hpl : (backTo pos (starEach [] X.env)).any (·.1) = false := by rfl) : PE X (.Call (.Name "len" p) [e] [] pos) (tLen C sp W ta) := by
  have ha : PA X [e] (tCons ta tNil) := pa_cons he pa_nil hst
  refine ⟨fun pins s σ H Q I h => ?_⟩
  refine wpAny_Call_Name_kw (ld_blt I hg hm PySem.boot_len ?_ (by decide) (by decide))
  refine PyProof.Rows.callWith_builtin1 (thn (ha.run pos pins s σ H (fun vs H1 => rLenO C sp σ vs H1 Q (WE W σ)) I h) fun us s1 ⟨vs, H1, I1, r1, a, dx, fs, ev, ea, q1⟩ => ?_) hst hpl
  subst ev
  cases r1 with
  | cons ru rn =>
    cases rn
    have eu := (show _ = Value.ref a from ru)
    subst eu
    obtain ⟨mA, O, _, _, _, _⟩ := ins_get I1.hok ea
    obtain ⟨od, J, _⟩ := O.look
    obtain ⟨m, hF⟩ := I1.fr
    refine PySem.W.len_K hF I1.ok.mod.kin J hs hf (wpAny_call (codeAny_mono (F.run X.A.in1 X.stack s1 H1 [.ref a] [] [.ref a] [] _ (WE W σ) hr.in1 I1.env0.in1 (.cons rfl .nil) .nil rfl q1) fun r s' hq => ?_))
    cases r with
    | error er => exact passAt tks σ pins H1 _ er s' I1 hq
    | ok fl =>
      cases fl with
      | ret u =>
        obtain ⟨v, H', I3, rv, n, ev, h0, h1, q3⟩ := I1.after hq
        subst ev
        obtain ⟨tt, rfl⟩ := (show ∃ t, u = Value.int n t from rv)
        exact ⟨⟨h0, h1⟩, .int n, H', I3.tok _, ⟨_, rfl⟩, q3⟩
      | next => exact False.elim hq
      | brk => exact False.elim hq
      | cont => exact False.elim hq
end
end Pk
end

section
/-! A method whose first statement calls super().m(..). -/
namespace Pk
open PySem PySem.Spec PyProof.Rows PySem.W L2

/-- a method with a __class__ cell, as it stands behind the top: D is the class in whose body it stands -/
structure FunS (P : Program) (K : Frag) (x qual : Str) (params : Arguments) (body : List Stmt) (scope : Scope) (dvs : List V) (f : Addr) (fd : FuncData) (D : Addr) (cc cda : Addr) : Prop where
  ex : ∃ (oc dV kV doc pm ct cl ccl : Value) (od an cld cdd : Option Addr) (osl csl ccs : Array (Option Value)) (vs : Array Value) (file : Str) (tf : Tok),
    fd = fnX x qual params body scope [("__class__", cc)] dV kV doc pm an (.ref cda) ct ∧ K.lookup f = some ⟨oc, od, .func fd, osl⟩ ∧ codeIn K (.ref cda) qual = true ∧ DflV K dV dvs ∧
    K.lookup cda = some ⟨ccl, cdd, .fields vs, ccs⟩ ∧ vs[2]? = some (.str file tf) ∧ ((P.main.file : Str) == file) = true ∧ K.lookup cc = some ⟨cl, cld, .cell (some (.ref D)), csl⟩
  cls : (clsIn K D).isSome = true
  kp : keepIn K (.ref f) = true
structure FnScS (N P : List Str) (sc : Scope) : Prop where
  kind : sc.kind = .function
  co : sc.isCoroutine = false
  gen : sc.isGenerator = false
  nd : N.Nodup
  pre : N.take P.length = P
  par : ∀ x ∈ P, sc.names.lookup x = some .local
  nocell : ∀ y ∈ sc.names, y.2 ≠ .cell
  free : ∀ y ∈ sc.names, y.2 = .free → y.1 = "__class__"
  sup : sc.names.lookup ("super" : Str) = some .globalImplicit
  kcl : sc.names.lookup ("__class__" : Str) = some .free
def cxS (P : Program) (w : World) (K : Frag) (mg : Str → Option Value) (base : Heap) (N : List Str) (qual : Str) (scope : Scope) (f cda cc : Addr) (A : Around) (outer : List Env) (s : Shared) (H : Hp) (E : XK) : Cx where
  prog := P
  w := w
  K := K
  mg := mg
  base := base
  A := A.deeper (ksEnv qual scope s.heap.objs.size f (.ref cda) cc)
  N := N
  s_0 := s
  H_0 := H
  env := ksEnv qual scope s.heap.objs.size f (.ref cda) cc
  outer := outer
  stack := ksEnv qual scope s.heap.objs.size f (.ref cda) cc :: outer
  ex := []
  calm := true
  fn := fun _ => false
  pn := []
  xe := fun e s' => wpAny (model P w) (A.deeper (ksEnv qual scope s.heap.objs.size f (.ref cda) cc)) (leaving (ksEnv qual scope s.heap.objs.size f (.ref cda) cc) e) (fun _ s'' => L2.CX P w outer H s E e s'') (fun e' s'' => L2.CX P w outer H s E e' s'') s'
theorem takesS {P : Program} {w : World} {K : Frag} {mg : Str → Option Value} {base : Heap} {N : List Str} {qual : Str} {scope : Scope} {f cda cc : Addr} {A : Around} {outer : List Env} {s : Shared} {H : Hp} {E : XK} :
    Takes (cxS P w K mg base N qual scope f cda cc A outer s H E) (WD E) := takes_of rfl rfl rfl rfl

theorem lookup_zip_rev {p : Str} {v : Value} : ∀ {ps : List Str} {vs : List Value} {i : Nat}, ps.Nodup → ps[i]? = some p → vs[i]? = some v → (ps.zip vs).reverse.lookup p = some v
  | [], _, _, _, h, _ => by simp at h
  | _ :: _, [], _, _, _, h => by simp at h
  | q :: ps, u :: vs, 0, nd, h1, h2 => by
    simp at h1 h2; subst h1; subst h2
    rw [List.zip_cons_cons, List.reverse_cons, List.lookup_append]
    have e : (ps.zip vs).reverse.lookup q = none := by
      cases z : (ps.zip vs).reverse.lookup q with
      | none => rfl
      | some y =>
        have m := PySem.mem_of_lookup z
        exact absurd (List.of_mem_zip (List.mem_reverse.mp m)).1 (List.nodup_cons.mp nd).1
    rw [e]; simp
  | q :: ps, u :: vs, i + 1, nd, h1, h2 => by
    rw [List.zip_cons_cons, List.reverse_cons, List.lookup_append, lookup_zip_rev (i := i) (List.nodup_cons.mp nd).2 (by simpa using h1) (by simpa using h2)]
    rfl

section
variable {P : Program} {w : World} {K : Frag} {mg : Str → Option Value} {base : Heap} {k : Nat} {f D cc cda : Addr} {fd : FuncData} {ps N : List Str} {sp : Sp} {x qual : Str} {params : Arguments} {body : List Stmt} {scope : Scope} {dvs : List V}
theorem invS_start {A : Around} {outer : List Env} {s : Shared} {h1 : Heap} {tk : Nat} {H : Hp} {E : XK} {us : List Value} {vs : List V} {cl : Value} {cld : Option Addr} {csl : Array (Option Value)} (S : FnScS N ps scope) (hd : A.handled = none) (e0 : Env0 P w K mg base A outer s H) (hl : vs.length = ps.length) (r : Vals vs us)
    (hcc : K.lookup cc = some ⟨cl, cld, .cell (some (.ref D)), csl⟩)
    (hns : h1.Ns s.heap.objs.size (fun y => (ps.zip us).reverse.lookup y)) (hk : ∀ b o, s.heap.get? b = some o → h1.get? b = some o) :
    Inv (cxS P w K mg base N qual scope f cda cc A outer s H E) [] (L2.start N vs) H { s with heap := h1, toks := tk } := by
  have hpl : ps.length ≤ N.length := by have := congrArg List.length S.pre; rw [List.length_take] at this; omega
  have noA : ∀ b : Addr, b ∉ (cxS P w K mg base N qual scope f cda cc A outer s H E).ex := fun b z => absurd (show b ∈ ([] : List Addr) from z) (by simp)
  have hcb : base.get? cc = some ⟨cl, cld, .cell (some (.ref D)), csl⟩ := e0.mod.kin _ _ hcc
  have one : ∀ (y : Str) (c : Addr), List.lookup y [(("__class__" : Str), cc)] = some c → y = "__class__" ∧ c = cc := fun y c h => by
    by_cases hy : y = "__class__"
    · subst hy
      simp [List.lookup] at h
      exact ⟨rfl, h.symm⟩
    · have : (y == ("__class__" : Str)) = false := by simpa using hy
      simp [List.lookup, this] at h
  refine ⟨⟨e0.mod, S.kind, rfl, rfl, Nat.le_refl _, fun y z c h1 h2 => ?_, fun y hy => ?_, fun y c z _ => (nomatch z), fun _ => hd, Around.frames_deeper e0.frames, .inr ⟨rfl, rfl⟩, fun b z => absurd z (noA b), e0.bs, e0.bsz, fun b _ _ => noA b, fun b z => absurd z (noA b), e0.funs, e0.frf⟩,
    rfl, e0.bare, Un.kept hk, ⟨_, hns, fun i y v h1 h2 h3 => ?_⟩, fun y c h => ?_, e0.hok.fresh (Nat.le_refl _), fun y c h => ?_, fun p hp => absurd (show p ∈ ([] : List (Addr × Obj)) from hp) (by simp), e0.hok.kept hk, ?_⟩
  · exact (one y c h1).1.trans (one z c h2).1.symm
  · have hy : scope.names.lookup y = some .cell ∨ scope.names.lookup y = some .free := hy
    rcases hy with hy | hy
    · exact absurd rfl (S.nocell _ (PySem.mem_of_lookup hy))
    · have := S.free _ (PySem.mem_of_lookup hy) rfl
      refine ⟨cc, ?_⟩
      have e : y = "__class__" := this
      subst e
      show List.lookup ("__class__" : Str) [(("__class__" : Str), cc)] = some cc
      simp [List.lookup]
  · have hi : i < vs.length := by
      unfold L2.start at h2
      by_cases hi : i < vs.length
      · exact hi
      · rw [List.getElem?_append_right (by simpa using hi)] at h2
        rw [List.getElem?_replicate] at h2
        split at h2 <;> cases h2
    have ha : vs[i]? = some v := by
      unfold L2.start at h2
      rw [List.getElem?_append_left (by simpa using hi), List.getElem?_map] at h2
      cases e : vs[i]? with
      | none => rw [e] at h2; cases h2
      | some a => rw [e] at h2; cases h2; rfl
    obtain ⟨u, hu, rv⟩ := r.get ha
    have hp : ps[i]? = some y := by
      rw [← S.pre, List.getElem?_take_of_lt (by omega)]; exact h1
    have ndP : ps.Nodup := by rw [← S.pre]; exact S.nd.sublist (List.take_sublist _ _)
    exact ⟨u, rv, .inl ⟨S.par y (List.mem_of_getElem? hp), lookup_zip_rev ndP hp hu⟩⟩
  · obtain ⟨rfl, rfl⟩ := one y c h
    exact ⟨some (.ref D), _, hk _ _ (e0.bs _ _ hcb).1, rfl⟩
  · obtain ⟨rfl, rfl⟩ := one y c h
    exact (e0.bs _ _ hcb).2
  · unfold L2.start
    show _ = N.length
    rw [List.length_append, List.length_map, List.length_replicate]
    omega

/-- what the classes must say of super().m from a method of the class at D, the instance's class at C -/
structure SupOf (K : Frag) (C D : Addr) (m : Str) (g : Addr) : Prop where
  sub : mroIn K C (.ref D) = some true
  at_ : ks_superIn K C D m = some (some (.ref g))
  ty : typeIn K (.ref g) = some (.type "function")
  op : nsIn K cStatics "thirdparty.any" = some none
  fi : fnIn K g = true
/-- super().m(e, ..) -/
def tSup (C : Addr) (g : Addr) (sp : Sp) (W : WX) (t : TA) : TE := fun σ H Q => ∃ a dx fs, σ[0]? = some (some (.ref a)) ∧ H a = some (.ins C dx fs) ∧
  ∀ q, H q = none → t σ (upd H q (.met g a)) fun vs H2 => H2 q = some (.met g a) ∧ sp (.ref a :: vs) H2 Q (WE W σ)
theorem sup_core {A : Around} {outer : List Env} {s0 : Shared} {H0 : Hp} {E : XK} {C g a dx : Addr} {fs : List (Str × V)} {m : Str} {pl : Sem Bool} {p0 p1 apos pos pos0 : Pos} {args : List Expr} {pins : List (Addr × Obj)} {σ : L2.St} {H : Hp} {s : Shared} {Q : VK}
    (FS : FunS P K x qual params body scope dvs f fd D cc cda) (S : FnScS N ps scope) (hp0 : (params.posonlyargs ++ params.args).head? = some ⟨"self", none, pos0⟩) (hN0 : N[0]? = some ("self" : Str)) (hself : scope.names.lookup ("self" : Str) = some .local)
    (htop : (P.main.scope.names.lookup ("super" : Str)).isSome = false) (hms : mg "super" = none) (U : SupOf K C D m g) (hm1 : (m == ("__class__" : Str)) = false)
    (I : Inv (cxS P w K mg base N qual scope f cda cc A outer s0 H0 E) pins σ H s) (hσ : σ[0]? = some (some (.ref a))) (ea : H a = some (.ins C dx fs))
    (hcw : ∀ q s2, H q = none → Inv (cxS P w K mg base N qual scope f cda cc A outer s0 H0 E) pins σ (upd H q (.met g a)) s2 →
      wpAny (model P w) (cxS P w K mg base N qual scope f cda cc A outer s0 H0 E).A (callWith pos (.ref q) [] (backTo pos (starEach args (ksEnv qual scope s0.heap.objs.size f (.ref cda) cc))) [])
        (EP (cxS P w K mg base N qual scope f cda cc A outer s0 H0 E) pins σ Q) (cxS P w K mg base N qual scope f cda cc A outer s0 H0 E).xe s2)
    (ht : eval (.Call (.Attribute (.Call (.Name "super" p0) [] [] p1) m apos) args [] pos) (ksEnv qual scope s0.heap.objs.size f (.ref cda) cc) = (do
      let ov ← attributeBase (.Call (.Name "super" p0) [] [] p1) m (ksEnv qual scope s0.heap.objs.size f (.ref cda) cc) (eval (.Call (.Name "super" p0) [] [] p1) (ksEnv qual scope s0.heap.objs.size f (.ref cda) cc))
      standAt apos.atName
      let (f', first) ← holding [ov] (getMethod ov m pl)
      callWith pos f' first (backTo pos (starEach args (ksEnv qual scope s0.heap.objs.size f (.ref cda) cc))) [])) :
    _root_.PySem.wpAt (model P w) (cxS P w K mg base N qual scope f cda cc A outer s0 H0 E).A (.func body (ksEnv qual scope s0.heap.objs.size f (.ref cda) cc)) (eval (.Call (.Attribute (.Call (.Name "super" p0) [] [] p1) m apos) args [] pos) (ksEnv qual scope s0.heap.objs.size f (.ref cda) cc))
      (EP (cxS P w K mg base N qual scope f cda cc A outer s0 H0 E) pins σ Q) (cxS P w K mg base N qual scope f cda cc A outer s0 H0 E).xe s := by
  obtain ⟨oc, dV, kV, doc, pm, ct, cl, ccl, od, an, cld, cdd, osl, csl, ccs, vs, file, tf, rfl, lk, hcd, hdv, lcd, hvs, hfile, lcc⟩ := FS.ex
  have KX : K.In s.heap := I.kIn
  refine ks_wpAt_MethodCall ?_ ht
  refine ks_wpAt_super_base S.sup S.kcl hm1 rfl (KX _ _ lk) rfl hp0 rfl (KX _ _ lcd) rfl hvs hfile htop ?_
  obtain ⟨mb, hb1, hb2⟩ := I.mod.blt
  refine ks_loadName_global S.kind S.sup (Calls.loadGlobal_builtin (env := ksEnv qual scope s0.heap.objs.size f (.ref cda) cc) (I.mod.glob.keeps I.bk) hms (hb1.keeps I.bk) ((hb2 _ (by decide)).trans (by decide +kernel : bootBuiltins "super" = some (.type "super"))) ⟨rfl, ?_⟩)
  refine wpAny_loadName_free S.kind S.kcl rfl ⟨_, KX _ _ lcc, rfl⟩ ?_
  obtain ⟨mm, hns, hl⟩ := I.loc
  obtain ⟨u, ru, lu⟩ := hl 0 "self" (.ref a) hN0 hσ (Or.inl hself)
  have eu : u = Value.ref a := ru
  subst eu
  have hms' : mm "self" = some (.ref a) := by
    rcases lu with ⟨_, e⟩ | ⟨k, _⟩
    · exact e
    · have k' : scope.names.lookup ("self" : Str) = some .cell ∨ scope.names.lookup ("self" : Str) = some .free := k
      rw [hself] at k'
      rcases k' with k' | k' <;> cases k'
  refine wpAny_loadName_local S.kind hself hns hms' ?_
  obtain ⟨cdD, hD⟩ := Option.isSome_iff_exists.mp FS.cls
  obtain ⟨oD, hD1, hD2⟩ : ∃ oD, s.heap.get? D = some oD ∧ oD.data = .cls cdD := by
    unfold clsIn at hD
    split at hD
    · rename_i c d cd' sl ho
      cases hD
      exact ⟨_, KX _ _ ho, rfl⟩
    · cases hD
  refine ks_wpAny_isType_cls hD1 hD2 ⟨rfl, ?_⟩
  obtain ⟨mA, O, _, _, _, _⟩ := ins_get I.hok ea
  obtain ⟨odx, J, _⟩ := O.look
  obtain ⟨hh, gg, dd, tt, os⟩ := s
  refine ks_wpAny_call_super hD1 hD2 J.at_ J.cls (fun c e => ?_) (looks_mroIn KX U.sub) (fun h' e kp => ?_)
  · have := J.no
    unfold notCls at this
    rw [e] at this
    exact Bool.noConfusion this
  -- the super object lies, untracked
  have I2 : Inv (cxS P w K mg base N qual scope f cda cc A outer s0 H0 E) pins σ H ⟨h', gg, dd, tt, os⟩ :=
    I.call (ch := []) (h' := h') (g' := gg) (t' := tt) (d' := dd) (H' := H) (Un.kept kp) (I.hok.kept kp) I.bare (fun b z => absurd z (by simp))
  have KX2 : K.In h' := I2.kIn
  cases hc : clsIn K C with
  | none =>
    have z := U.at_
    unfold ks_superIn at z
    rw [hc] at z
    cases z
  | some cd =>
    have z := U.at_
    unfold ks_superIn at z
    rw [hc] at z
    obtain ⟨og, hog, hogc⟩ : ∃ og, h'.get? g = some og ∧ og.cls = .type "function" := by
      have ht' : (K.lookup g).map (·.cls) = some (.type "function") := U.ty
      cases zz : K.lookup g with
      | none => rw [zz] at ht'; cases ht'
      | some of => rw [zz] at ht'; exact ⟨of, KX2 _ _ zz, Option.some.inj ht'⟩
    have hne : a ≠ C := ks_ne KX J hc
    refine ks_wpAny_getMethod_super e (looks_opaque KX2 U.op) (l₀ := cd.mro) ?_ rfl KX2 z hog hogc hne hm1 ?_
    · exact fun A Q E s k q => wpAny_bind ((looks_clsIn KX2 hc) A _ E s k (wpAny_pure q))
    · have hqn : H h'.objs.size = none := I2.hok.fresh (Nat.le_refl _)
      exact hcw h'.objs.size _ hqn (I2.laid (t' := tt + 1) (a := h'.objs.size) (o := .met g a) (fun b u z => Heap.get?_push_of_some _ z) (Nat.le_refl _)
          (show (h'.push (methodObj (.ref g) (.ref a))).get? h'.objs.size = some (methodObj (.ref g) (.ref a)) from Heap.get?_push_size h' rfl))
theorem sup_fin {X : Cx} {g a q : Addr} {j : Nat} {sp1 : Sp} {pins : List (Addr × Obj)} {σ : L2.St} {Q : VK} {W : WX} (F : Fn X.prog X.w X.K X.mg X.base j g [] sp1) (hr : RoomG j X.A) (tks : Takes X W)
    {us : List Value} {s3 : Shared} {vs : List V} {H2 : Hp} (I4 : Inv X pins σ H2 s3) (rv : Vals vs us) (hm2 : H2 q = some (.met g a)) (hsp : sp1 (.ref a :: vs) H2 Q (WE W σ)) :
    wpAny (model X.prog X.w) X.A (call (.ref q) us) (EP X pins σ Q) X.xe s3 := by
  refine wpAny_call (PySem.W.method_call (met_P I4 hm2).1 ?_)
  refine codeAny_mono (F.run X.A X.stack s3 H2 (Value.ref a :: us) [] (.ref a :: vs) [] Q (WE W σ) hr I4.env0 (.cons rfl rv) .nil rfl (by rw [List.append_nil]; exact hsp)) fun r s' hq' => ?_
  cases r with
  | error er => exact passAt tks σ pins H2 s3 er s' I4 hq'
  | ok fl =>
    cases fl with
    | ret u => exact I4.after hq'
    | next => exact False.elim hq'
    | brk => exact False.elim hq'
    | cont => exact False.elim hq'
theorem sup_args {X : Cx} {g a q : Addr} {j : Nat} {sp1 : Sp} {pins : List (Addr × Obj)} {σ : L2.St} {H : Hp} {Q : VK} {W : WX} {e : Expr} {es : List Expr} {t : TA} {pos : Pos} {s : Shared} (F : Fn X.prog X.w X.K X.mg X.base j g [] sp1) (hr : RoomG j X.A) (tks : Takes X W) (hfi : fnIn X.K g = true)
    (ha : PA X (e :: es) t) (I : Inv X pins σ H s) (h : t σ H fun vs H2 => H2 q = some (.met g a) ∧ sp1 (.ref a :: vs) H2 Q (WE W σ))
    (he : starEach (e :: es) X.env = (false, eval e X.env) :: starEach es X.env) (hpl : (backTo pos (starEach es X.env)).any (·.1) = false) :
    wpAny (model X.prog X.w) X.A (callWith pos (.ref q) [] (backTo pos (starEach (e :: es) X.env)) []) (EP X pins σ Q) X.xe s := by
  have r0 := ha.run pos pins _ σ _ _ I h
  rw [he] at r0 ⊢
  refine callWith_of (P := MethP X.K q g (.ref a)) (by show ((false || (backTo pos (starEach es _)).any (·.1)) || false) = false; rw [hpl]; rfl) (keeps_M hfi) (Calls.evalArgs_plain (wpAny_mono r0 (fun us s3 hh => ?_) fun _ _ z => z))
  obtain ⟨vs, H2, I4, rv, hm2, hsp⟩ := hh
  exact ⟨met_P I4 hm2, sup_fin F hr tks I4 rv hm2 hsp⟩
theorem sup_args0 {X : Cx} {g a q : Addr} {j : Nat} {sp1 : Sp} {pins : List (Addr × Obj)} {σ : L2.St} {H : Hp} {Q : VK} {W : WX} {pos : Pos} {s : Shared} (F : Fn X.prog X.w X.K X.mg X.base j g [] sp1) (hr : RoomG j X.A) (tks : Takes X W) (hfi : fnIn X.K g = true)
    (I : Inv X pins σ H s) (hm2 : H q = some (.met g a)) (hsp : sp1 [.ref a] H Q (WE W σ)) :
    wpAny (model X.prog X.w) X.A (callWith pos (.ref q) [] (backTo pos (starEach [] X.env)) []) (EP X pins σ Q) X.xe s :=
  callWith_M0 (met_P I hm2) hfi (sup_fin F hr tks (us := []) (vs := []) I .nil hm2 hsp)

/-- THE RULE: the body super().m(..); rest -/
theorem fn_super {st : Stmt} {rest : List Stmt} (FS : FunS P K x qual params (st :: rest) scope dvs f fd D cc cda) (S : FnScS N ps scope) (len : ∀ vs H Q E, sp vs H Q E → vs.length = ps.length)
    (hst : ∀ (A : Around) (outer : List Env) (s : Shared) (H : Hp) (vs : List V) (Q : VK) (E : XK), RoomG k (A.deeper (ksEnv qual scope s.heap.objs.size f (.ref cda) cc)) → sp vs H Q E →
      ∀ s1, Inv (cxS P w K mg base N qual scope f cda cc A outer s H E) [] (L2.start N vs) H s1 →
      _root_.PySem.wpAt (model P w) (cxS P w K mg base N qual scope f cda cc A outer s H E).A (.func (st :: rest) (ksEnv qual scope s.heap.objs.size f (.ref cda) cc)) (exec st (ksEnv qual scope s.heap.objs.size f (.ref cda) cc))
        (fun fl s2 => fl = .next ∧ wpAny (model P w) (cxS P w K mg base N qual scope f cda cc A outer s H E).A (execs rest (ksEnv qual scope s.heap.objs.size f (.ref cda) cc)) (SP (cxS P w K mg base N qual scope f cda cc A outer s H E) [] { nx := fun _ H' => Q .non H', rt := Q }) (cxS P w K mg base N qual scope f cda cc A outer s H E).xe s2)
        (cxS P w K mg base N qual scope f cda cc A outer s H E).xe s1) : FnB P w K mg base (k + 1) f fd ps sp := by
  obtain ⟨oc, dV, kV, doc, pm, ct, cl, ccl, od, an, cld, cdd, osl, csl, ccs, vs', file, tf, rfl, lk, hcd, hdv, lcd, hvs, hfile, lcc⟩ := FS.ex
  refine ⟨len, fun A outer s H args us vs Q E hr e0 hb r hsp => ?_⟩
  have hl := len _ _ _ _ hsp
  have KX : K.In s.heap := e0.mod.kin.keeps fun b o e => (e0.bs b o e).1
  have lim : s.heap.NoLimit := e0.mod.nolimit.keeps fun b o e => (e0.bs b o e).1
  refine ks_codeAny_call_defAt hr.r.depth (KX _ _ lk) rfl lim (PySem.W.codeRec_of KX hcd) rfl hb S.nocell (fun y hy => S.par _ (List.of_mem_zip hy).1) (fun h1 hns hk => ?_) S.co S.gen S.kind
  have I : Inv (cxS P w K mg base N qual scope f cda cc A outer s H E) [] (L2.start N vs) H { s with heap := h1, toks := s.toks + (ps.zip us).length } := invS_start S hr.r.hd e0 hl r lcc hns hk
  have fin : ∀ {σ' : L2.St} {H' : Hp} {v : V} {u : Value} {s' : Shared}, Inv (cxS P w K mg base N qual scope f cda cc A outer s H E) [] σ' H' s' → RelV v u → Q v H' → CE outer P w H s Q u s' :=
    fun {σ' H' v u s'} J rv q => ⟨v, H', J.os, J.bare, J.base, J.hok, rv, q⟩
  refine ks_wpAt_execs_cons (ks_wpAt_mono (hst A outer s H vs Q E (hr.deeper _) hsp _ I) (fun fl s2 hh => ?_) fun e s' z => z)
  obtain ⟨rfl, hw⟩ := hh
  refine wpAt_of_wpAny (wpAny_mono hw (fun fl s' hs => ?_) fun e s' hs => hs)
  cases fl with
  | ret u =>
    obtain ⟨v, σ', H', J, rv, q⟩ := hs
    exact fin J rv q
  | next =>
    obtain ⟨σ', H', J, q⟩ := hs
    exact fin (v := V.non) (u := Value.none) J rfl q
  | brk =>
    obtain ⟨_, _, _, q⟩ := hs
    exact False.elim q
  | cont =>
    obtain ⟨_, _, _, q⟩ := hs
    exact False.elim q

section
variable {rest : List Stmt} {pos0 : Pos} {g C : Addr} {m : Str} {j : Nat} {sp1 : Sp} {p0 p1 apos pos spos : Pos} {e : Expr} {es : List Expr}
/-- super().m(e, ..); rest -/
theorem fn_sup (hj : j ≤ k) (FS : FunS P K x qual params (.Expr (.Call (.Attribute (.Call (.Name "super" p0) [] [] p1) m apos) (e :: es) [] pos) spos :: rest) scope dvs f fd D cc cda) (S : FnScS N ps scope) (len : ∀ vs H Q E, sp vs H Q E → vs.length = ps.length)
    (hp0 : (params.posonlyargs ++ params.args).head? = some ⟨"self", none, pos0⟩) (hN0 : N[0]? = some ("self" : Str)) (hself : scope.names.lookup ("self" : Str) = some .local)
    (htop : (P.main.scope.names.lookup ("super" : Str)).isSome = false) (hms : mg "super" = none) (U : SupOf K C D m g) (F : Fn P w K mg base j g [] sp1) (hm1 : (m == ("__class__" : Str)) = false)
    (hbody : ∀ (A : Around) (outer : List Env) (s : Shared) (H : Hp) (vs : List V) (Q : VK) (E : XK), RoomG k (A.deeper (ksEnv qual scope s.heap.objs.size f (.ref cda) cc)) → sp vs H Q E →
      ∃ t u, PA (cxS P w K mg base N qual scope f cda cc A outer s H E) (e :: es) t ∧ PSs (cxS P w K mg base N qual scope f cda cc A outer s H E) rest u ∧
        tSup C g sp1 (WD E) t (L2.start N vs) H (fun _ H1 => u { nx := fun _ H' => Q .non H', rt := Q } (L2.start N vs) H1))
    (ht : ∀ env : Env, env.scope = scope → ∃ pl, eval (.Call (.Attribute (.Call (.Name "super" p0) [] [] p1) m apos) (e :: es) [] pos) env = (do
      let ov ← attributeBase (.Call (.Name "super" p0) [] [] p1) m env (eval (.Call (.Name "super" p0) [] [] p1) env)
      standAt apos.atName
      let (f', first) ← holding [ov] (getMethod ov m pl)
      callWith pos f' first (backTo pos (starEach (e :: es) env)) []))
    (he : ∀ env : Env, starEach (e :: es) env = (false, eval e env) :: starEach es env) (hpl : ∀ env : Env, (backTo pos (starEach es env)).any (·.1) = false)
    (hsw : ∀ env : Env, env.scope = scope → swapsWith (.Call (.Attribute (.Call (.Name "super" p0) [] [] p1) m apos) (e :: es) [] pos) none spos.line env = pure false) : FnB P w K mg base (k + 1) f fd ps sp := by
  refine fn_super FS S len fun A outer s H vs Q E hr hsp s1 I => ?_
  obtain ⟨t, u, hA, hR, a, dx, fs, hσ, ea, hq⟩ := hbody A outer s H vs Q E hr hsp
  obtain ⟨pl, htt⟩ := ht (ksEnv qual scope s.heap.objs.size f (.ref cda) cc) rfl
  refine ks_wpAt_Expr_any (ks_wpAt_mono (sup_core (Q := fun _ H1 => u { nx := fun _ H' => Q .non H', rt := Q } (L2.start N vs) H1) FS S hp0 hN0 hself htop hms U hm1 I hσ ea (fun q s2 hqn I2 => ?_) htt) (fun v s2 hh => ?_) fun _ _ z => z) (by simp [interactive, S.kind]) (hsw _ rfl)
  · exact sup_args (X := cxS P w K mg base N qual scope f cda cc A outer s H E) F (hr.mono hj) takesS U.fi hA I2 (hq q hqn) (he _) (hpl _)
  · obtain ⟨v', H1, I1, rv, hu⟩ := hh
    exact ⟨rfl, hR.run [] s2 _ H1 _ I1 hu⟩
/-- super().m(); rest -/
theorem fn_sup0 (hj : j ≤ k) (FS : FunS P K x qual params (.Expr (.Call (.Attribute (.Call (.Name "super" p0) [] [] p1) m apos) [] [] pos) spos :: rest) scope dvs f fd D cc cda) (S : FnScS N ps scope) (len : ∀ vs H Q E, sp vs H Q E → vs.length = ps.length)
    (hp0 : (params.posonlyargs ++ params.args).head? = some ⟨"self", none, pos0⟩) (hN0 : N[0]? = some ("self" : Str)) (hself : scope.names.lookup ("self" : Str) = some .local)
    (htop : (P.main.scope.names.lookup ("super" : Str)).isSome = false) (hms : mg "super" = none) (U : SupOf K C D m g) (F : Fn P w K mg base j g [] sp1) (hm1 : (m == ("__class__" : Str)) = false)
    (hbody : ∀ (A : Around) (outer : List Env) (s : Shared) (H : Hp) (vs : List V) (Q : VK) (E : XK), RoomG k (A.deeper (ksEnv qual scope s.heap.objs.size f (.ref cda) cc)) → sp vs H Q E →
      ∃ u, PSs (cxS P w K mg base N qual scope f cda cc A outer s H E) rest u ∧
        tSup C g sp1 (WD E) tNil (L2.start N vs) H (fun _ H1 => u { nx := fun _ H' => Q .non H', rt := Q } (L2.start N vs) H1))
    (ht : ∀ env : Env, env.scope = scope → ∃ pl, eval (.Call (.Attribute (.Call (.Name "super" p0) [] [] p1) m apos) [] [] pos) env = (do
      let ov ← attributeBase (.Call (.Name "super" p0) [] [] p1) m env (eval (.Call (.Name "super" p0) [] [] p1) env)
      standAt apos.atName
      let (f', first) ← holding [ov] (getMethod ov m pl)
      callWith pos f' first (backTo pos (starEach [] env)) []))
    (hsw : ∀ env : Env, env.scope = scope → swapsWith (.Call (.Attribute (.Call (.Name "super" p0) [] [] p1) m apos) [] [] pos) none spos.line env = pure false) : FnB P w K mg base (k + 1) f fd ps sp := by
  refine fn_super FS S len fun A outer s H vs Q E hr hsp s1 I => ?_
  obtain ⟨u, hR, a, dx, fs, hσ, ea, hq⟩ := hbody A outer s H vs Q E hr hsp
  obtain ⟨pl, htt⟩ := ht (ksEnv qual scope s.heap.objs.size f (.ref cda) cc) rfl
  refine ks_wpAt_Expr_any (ks_wpAt_mono (sup_core (Q := fun _ H1 => u { nx := fun _ H' => Q .non H', rt := Q } (L2.start N vs) H1) FS S hp0 hN0 hself htop hms U hm1 I hσ ea (fun q s2 hqn I2 => ?_) htt) (fun v s2 hh => ?_) fun _ _ z => z) (by simp [interactive, S.kind]) (hsw _ rfl)
  · exact sup_args0 (X := cxS P w K mg base N qual scope f cda cc A outer s H E) F (hr.mono hj) takesS U.fi I2 upd_same (hq q hqn).2
  · obtain ⟨v', H1, I1, rv, hu⟩ := hh
    exact ⟨rfl, hR.run [] s2 _ H1 _ I1 hu⟩
/-- y = super().m(); rest -/
theorem fn_supA {y : Str} {yp : Pos} {i : Nat} (hj : j ≤ k) (FS : FunS P K x qual params (.Assign [.Name y yp] (.Call (.Attribute (.Call (.Name "super" p0) [] [] p1) m apos) [] [] pos) spos :: rest) scope dvs f fd D cc cda) (S : FnScS N ps scope) (len : ∀ vs H Q E, sp vs H Q E → vs.length = ps.length)
    (hp0 : (params.posonlyargs ++ params.args).head? = some ⟨"self", none, pos0⟩) (hN0 : N[0]? = some ("self" : Str)) (hself : scope.names.lookup ("self" : Str) = some .local) (hi : N[i]? = some y) (hyl : scope.names.lookup y = some .local)
    (htop : (P.main.scope.names.lookup ("super" : Str)).isSome = false) (hms : mg "super" = none) (U : SupOf K C D m g) (F : Fn P w K mg base j g [] sp1) (hm1 : (m == ("__class__" : Str)) = false)
    (hbody : ∀ (A : Around) (outer : List Env) (s : Shared) (H : Hp) (vs : List V) (Q : VK) (E : XK), RoomG k (A.deeper (ksEnv qual scope s.heap.objs.size f (.ref cda) cc)) → sp vs H Q E →
      ∃ u, PSs (cxS P w K mg base N qual scope f cda cc A outer s H E) rest u ∧
        tSup C g sp1 (WD E) tNil (L2.start N vs) H (fun v H1 => u { nx := fun _ H' => Q .non H', rt := Q } ((L2.start N vs).set i (some v)) H1))
    (ht : ∀ env : Env, env.scope = scope → ∃ pl, eval (.Call (.Attribute (.Call (.Name "super" p0) [] [] p1) m apos) [] [] pos) env = (do
      let ov ← attributeBase (.Call (.Name "super" p0) [] [] p1) m env (eval (.Call (.Name "super" p0) [] [] p1) env)
      standAt apos.atName
      let (f', first) ← holding [ov] (getMethod ov m pl)
      callWith pos f' first (backTo pos (starEach [] env)) []))
    (hsw : ∀ env : Env, env.scope = scope → swapsWith (.Call (.Attribute (.Call (.Name "super" p0) [] [] p1) m apos) [] [] pos) (some (.Name y yp)) spos.line env = pure false) : FnB P w K mg base (k + 1) f fd ps sp := by
  refine fn_super FS S len fun A outer s H vs Q E hr hsp s1 I => ?_
  obtain ⟨u, hR, a, dx, fs, hσ, ea, hq⟩ := hbody A outer s H vs Q E hr hsp
  obtain ⟨pl, htt⟩ := ht (ksEnv qual scope s.heap.objs.size f (.ref cda) cc) rfl
  refine ks_wpAt_Assign_Name (ks_wpAt_mono (sup_core (Q := fun v H1 => u { nx := fun _ H' => Q .non H', rt := Q } ((L2.start N vs).set i (some v)) H1) FS S hp0 hN0 hself htop hms U hm1 I hσ ea (fun q s2 hqn I2 => ?_) htt) (fun v s2 hh => ?_) fun _ _ z => z) (hsw _ rfl)
  · exact sup_args0 (X := cxS P w K mg base N qual scope f cda cc A outer s H E) F (hr.mono hj) takesS U.fi I2 upd_same (hq q hqn).2
  · obtain ⟨v', H1, I1, rv, hu⟩ := hh
    exact store_ok I1 S.nd hi (Or.inl hyl) rv (fun s3 I3 => ⟨rfl, hR.run [] s3 _ H1 _ I3 hu⟩) (Or.inr hyl)
end
end
end Pk
end

section
/-! More operations over the layer. -/
namespace Pk
open PySem PySem.Spec PyProof.Rows L2

/-- the module's def x, called by place: its promise -/
structure Cal (P : Program) (w : World) (K : PySem.W.Frag) (mg : Str → Option Value) (base : Heap) (k : Nat) (x : Str) (sp : Sp) : Prop where
  ex : ∃ f, mg x = some (.ref f) ∧ PySem.W.keepIn K (.ref f) = true ∧ Fn P w K mg base k f [] sp
/-- the module's class x, made by place -/
structure CalC (P : Program) (w : World) (K : PySem.W.Frag) (mg : Str → Option Value) (base : Heap) (k : Nat) (x : Str) (C : Addr) (sp : Sp) : Prop where
  ex : mg x = some (.ref C) ∧ ∃ f, Mk K C f ∧ Fn P w K mg base k f [] sp
section
variable {X : Cx} {k : Nat} {C : Addr} {sp sp' : Sp} {W : WX} {x m : Str} {p pos apos : Pos} {e o : Expr} {es : List Expr} {ta te tb : TE} {t tk : TA}
theorem Cal.mono {P : Program} {w : World} {K : PySem.W.Frag} {mg : Str → Option Value} {base : Heap} {j k : Nat} {x : Str} {sp : Sp} (c : Cal P w K mg base j x sp) (h : j ≤ k) : Cal P w K mg base k x sp :=
  let ⟨f, a, b, F⟩ := c.ex; ⟨f, a, b, F.mono h⟩
theorem Cal.imp {P : Program} {w : World} {K : PySem.W.Frag} {mg : Str → Option Value} {base : Heap} {k : Nat} {x : Str} {sp sp' : Sp} (c : Cal P w K mg base k x sp) (h : ∀ vs H Q E, sp' vs H Q E → sp vs H Q E) : Cal P w K mg base k x sp' :=
  let ⟨f, a, b, F⟩ := c.ex; ⟨f, a, b, F.imp h⟩
theorem pe_c (c : Cal X.prog X.w X.K X.mg X.base k x sp) (hr : RoomG k X.A) (tks : Takes X W) (ha : PA X (e :: es) t) (hg : Gl X x := by rfl)
    (hdb : (x == ("__debug__" : Str)) = false := by decide) (he : starEach (e :: es) X.env = (false, eval e X.env) :: starEach es X.env := by rfl) (hpl : (backTo pos (starEach es X.env)).any (·.1) = false := by rfl) :
    PE X (.Call (.Name x p) (e :: es) [] pos) (tF sp W t) := by
  obtain ⟨f, hm, hk, F⟩ := c.ex
  exact pe_f F hr hm hk tks ha hg hdb he hpl
theorem pe_c0 (c : Cal X.prog X.w X.K X.mg X.base k x sp) (hr : RoomG k X.A) (tks : Takes X W) (hg : Gl X x := by rfl)
    (hdb : (x == ("__debug__" : Str)) = false := by decide) : PE X (.Call (.Name x p) [] [] pos) (tF sp W tNil) := by
  obtain ⟨f, hm, hk, F⟩ := c.ex
  exact pe_f0 F hr hm hk tks hg hdb
theorem pe_mkC (c : CalC X.prog X.w X.K X.mg X.base k x C sp) (hr : RoomG (k + 1) X.A) (tks : Takes X W) (ha : PA X (e :: es) t) (hg : Gl X x := by rfl)
    (hdb : (x == ("__debug__" : Str)) = false := by decide) (he : starEach (e :: es) X.env = (false, eval e X.env) :: starEach es X.env := by rfl) (hpl : (backTo pos (starEach es X.env)).any (·.1) = false := by rfl) :
    PE X (.Call (.Name x p) (e :: es) [] pos) (tMk C sp W t) := by
  obtain ⟨hm, f, M, F⟩ := c.ex
  exact pe_mk M F hr hm tks ha hg hdb he hpl
theorem pe_mkC0 (c : CalC X.prog X.w X.K X.mg X.base k x C sp) (hr : RoomG (k + 1) X.A) (tks : Takes X W) (hg : Gl X x := by rfl)
    (hdb : (x == ("__debug__" : Str)) = false := by decide) : PE X (.Call (.Name x p) [] [] pos) (tMk C sp W tNil) := by
  obtain ⟨hm, f, M, F⟩ := c.ex
  exact pe_mk0 M F hr hm tks hg hdb
/-- readings by cases -/
theorem PE.any {ι : Sort _} {ti : ι → TE} (h : ∀ i, PE X e (ti i)) : PE X e (fun σ H Q => ∃ i, ti i σ H Q) := ⟨fun pins s σ H Q I ⟨i, q⟩ => (h i).run pins s σ H Q I q⟩
/-- o.m(.., k = v, ..) -/
def tMK (C : Addr) (m : Str) (sp : Sp) (W : WX) (ta : TE) (t : TA) : TE := fun σ H Q => ta σ H fun x H1 => ∃ a dx fs, x = .ref a ∧ H1 a = some (.ins C dx fs) ∧ fs.lookup m = none ∧ t σ H1 fun zs H2 => sp (x :: zs) H2 Q (WE W σ)
theorem pe_mK {f : Addr} {ks : List Str} {kws : List Keyword} {pl : Sem Bool} (he : PE X o ta) (c : Cls X.K C) (hm : Meth X.K C m f) (F : Fn X.prog X.w X.K X.mg X.base k f ks sp) (hr : RoomG k X.A) (tks : Takes X W) (hkw : PK X kws tk)
    (hall : (backToKw pos (keywordEach kws X.env)).all (·.1.isSome) = true := by rfl) (hks : (backToKw pos (keywordEach kws X.env)).filterMap (·.1) = ks := by rfl) (hln : ∀ (σ : L2.St) (H : Hp) (Q : List V → Hp → Prop), tk σ H Q → tk σ H (fun zs H' => zs.length = ks.length ∧ Q zs H'))
    (hplain : ((backTo pos (starEach [] X.env)).any (·.1) || (backToKw pos (keywordEach kws X.env)).any (·.1.isNone)) = false := by rfl)
    (ht : eval (.Call (.Attribute o m apos) [] kws pos) X.env = (do
      let ov ← eval o X.env
      standAt apos.atName
      let (f, first) ← holding [ov] (getMethod ov m pl)
      callWith pos f first (backTo pos (starEach [] X.env)) (backToKw pos (keywordEach kws X.env))) := by rfl) :
    PE X (.Call (.Attribute o m apos) [] kws pos) (tMK C m sp W ta tk) := by
  refine ⟨fun pins s σ H Q I h => ?_⟩
  refine PySem.W.methodCall_KW (pl := pl) (thn (he.run pins s σ H _ I h) fun u s1 ⟨x, H1, I1, rx, a, dx, fs, ex, ea, l, q⟩ => ?_) ht
  subst ex
  obtain rfl : u = Value.ref a := rx
  refine getmeth_ok I1 ea c hm l ?_
  refine PySem.W.callWith_KW0 (h₀ := X.base) I.ok.mod.kin hm.kp hall (thn (hkw.run pos pins s1 σ H1 _ I1 (hln σ H1 _ q)) fun ws s2 ⟨zs, H2, I2, rz, ln, q2⟩ => ⟨I2.kIn, ?_⟩) hplain
  rw [hks]
  exact run_G (us := [.ref a]) (vs := [.ref a]) F hr tks I2 (.cons rfl .nil) rz ln q2

/-! ### operators -/
/-- ** : the result's size within the model's line -/
def CPowW (i j : Int) : Prop := 0 ≤ j ∧ (Builtin.Int.intBits i : Int) * j ≤ 2 ^ 27
theorem op_powW : OpR X (binaryOp .Pow) (rI CPowW fun i j => .int (i ^ j.toNat)) := opI fun _ _ _ _ _ _ _ hc q => pow_int hc.1 hc.2 q
theorem pow_ok {i j : Int} {b : Nat} (hi : i.natAbs < 2 ^ b) (h0 : 0 ≤ j) (h : (b : Int) * j ≤ 2 ^ 27) : CPowW i j := by
  refine ⟨h0, ?_⟩
  have hb : Builtin.Int.intBits i ≤ b := PyProof.Rows.intBits_le hi
  refine Int.le_trans (Int.mul_le_mul_of_nonneg_right (by omega) h0) h

theorem dpAll_ints {K : PySem.W.Frag} {H : Hp} : ∀ ns : List Int, DpAll K H (ns.map V.int) (ns.map PyData.int)
  | [] => .nil
  | n :: ns => .cons (.int n) (dpAll_ints ns)
theorem eqvAll_ints : ∀ (ns ms : List Int), PyData.eqvAll (ns.map PyData.int) (ms.map PyData.int) = decide (ns = ms)
  | [], [] => by simp [PyData.eqvAll]
  | [], _ :: _ => by simp [PyData.eqvAll]
  | _ :: _, [] => by simp [PyData.eqvAll]
  | n :: ns, m :: ms => by
    rw [List.map_cons, List.map_cons, PyData.eqvAll, eqvAll_ints ns ms, PyData.eqv]
    by_cases h : n = m
    · subst h; simp
    · have : (n == m) = false := by simpa using h
      rw [this]; simp [h]
theorem canLay_ints : ∀ ns : List Int, PyData.canLayAll0 (ns.map PyData.int) = true
  | [] => rfl
  | n :: ns => by rw [List.map_cons, PyData.canLayAll0, canLay_ints ns]; rfl
theorem depth_ints : ∀ ns : List Int, PyData.depthAll (ns.map PyData.int) = 0
  | [] => rfl
  | n :: ns => by rw [List.map_cons, PyData.depthAll, depth_ints ns]; rfl
theorem shaped_ints (ns : List Int) : SeqAt.shaped (.list (ns.map PyData.int)) = true := by
  unfold SeqAt.shaped
  rw [PyData.canLay0, canLay_ints, PyData.depth, depth_ints]; rfl
/-- two lists of ints compared -/
def rEqLI (K : PySem.W.Frag) : R2 := fun x y H Q => ∃ (a b : Addr) (ns ms : List Int), x = .ref a ∧ y = .ref b ∧ SqL K H a (ns.map V.int) ∧ SqL K H b (ms.map V.int) ∧ Q (.bl (decide (ns = ms))) H
def rNeLI (K : PySem.W.Frag) : R2 := fun x y H Q => ∃ (a b : Addr) (ns ms : List Int), x = .ref a ∧ y = .ref b ∧ SqL K H a (ns.map V.int) ∧ SqL K H b (ms.map V.int) ∧ Q (.bl (!decide (ns = ms))) H
theorem op_eqLI (hu : X.A.units + 64 < cLine) : OpR X (compareOp .Eq) (rEqLI X.K) := by
  intro pins s σ H x y v u Q I rx ry h
  obtain ⟨a, b, ns, ms, rfl, rfl, h1, h2, q⟩ := h
  exact op_eqD hu pins s σ H _ _ v u Q I rx ry ⟨_, _, .lst h1 (dpAll_ints ns), .lst h2 (dpAll_ints ms), shaped_ints ns, shaped_ints ms, by rw [PyData.eqv, eqvAll_ints]; exact q⟩
theorem op_neLI (hu : X.A.units + 64 < cLine) : OpR X (compareOp .NotEq) (rNeLI X.K) := by
  intro pins s σ H x y v u Q I rx ry h
  obtain ⟨a, b, ns, ms, rfl, rfl, h1, h2, q⟩ := h
  exact op_neD hu pins s σ H _ _ v u Q I rx ry ⟨_, _, .lst h1 (dpAll_ints ns), .lst h2 (dpAll_ints ms), shaped_ints ns, shaped_ints ms, by rw [PyData.eqv, eqvAll_ints]; exact q⟩

/-- repr of data -/
def rRepr (K : PySem.W.Frag) : List V → Hp → VK → Prop := fun xs H Q => ∃ x a d, xs = [x] ∧ x = .ref a ∧ Dp K H x d ∧ d.showable = true ∧ d.hasDict = false ∧ d.depth ≤ 60 ∧ d.shown.length ≤ sizeLine ∧ Q (.str d.shown) H
theorem call_repr (hr : RoomG k X.A) : CallR X (.builtin "repr") (rRepr X.K) := by
  intro pins s σ H xs us Q I r h
  obtain ⟨x, a, d, rfl, rfl, hd, hs, hnd, hdep, hsz, q⟩ := h
  cases r with
  | cons ru rn =>
    cases rn
    rename_i u
    obtain ⟨as, rd⟩ := Dp.reads I d _ u hd ru
    have eu : u = Value.ref a := ru
    subst eu
    refine PySem.repr_of_reads' rd hs (PyData.noDict_hsm hnd) hr.g (by have := hr.r.un; omega) (fun _ _ e => e) (fun h' u tk hk => ?_) hsz
    obtain ⟨hh, g, dd, tt, os⟩ := s
    exact ⟨.str d.shown, H, I.call (ch := []) (h' := h') (g' := g) (t' := tk) (d' := dd) (H' := H) (Un.kept hk) (I.hok.kept hk) I.bare (fun b z => absurd z (by simp)), ⟨_, rfl⟩, q⟩
end
end Pk
end

section
/-! Readings evaluated: what Evl lacks. -/
namespace Pk
open PySem PySem.Spec PyProof.Rows L2 Evl

/-! ### named readings -/
def rMin2 : List V → Hp → VK → Prop := fun xs H Q => ∃ i j, xs = [.int i, .int j] ∧ Q (.int (if j < i then j else i)) H
def rAbs : List V → Hp → VK → Prop := fun xs H Q => ∃ i, xs = [.int i] ∧ Q (.int (if i < 0 then -i else i)) H
def rStrI : List V → Hp → VK → Prop := fun xs H Q => ∃ i, xs = [.int i] ∧ i.natAbs.log2 < 1920 ∧ Q (.str (toString i)) H
def rInt1 : List V → Hp → VK → Prop := fun xs H Q => (∃ i, xs = [.int i] ∧ Q (.int i) H) ∨ ∃ k, xs = [.bl k] ∧ Q (.int (if k then 1 else 0)) H
section
variable {X : Cx}
theorem cl_len : CallR X (.builtin "len") (rLenS X.K) := call_len_seq
theorem cl_list : CallR X (.type "list") (rListS X.K) := call_list_of
theorem cl_max2 (hc : X.calm = true) : CallR X (.builtin "max") rMax2 := call_max2 hc
theorem cl_min2 (hc : X.calm = true) : CallR X (.builtin "min") rMin2 := call_min2 hc
theorem cl_abs : CallR X (.builtin "abs") rAbs := call_abs
theorem cl_str : CallR X (.type "str") rStrI := call_str_int
theorem cl_int : CallR X (.type "int") rInt1 := call_int1
end

section
variable {K : PySem.W.Frag} {σ : L2.St} {H H' : Hp} {ta tb te tx : TE} {t u : TT} {x y z v : V} {D : Ends} {tu tw tz : TS} {W : WX} {sp : Sp} {vs xs : List V} {A : TA} {Q : VK}
theorem ex_same (e : Ex H H') : Same H H' := e
/-- a call by its promise -/
theorem ev_f (h : EvA A σ H vs) (hs : SpV sp vs H z) : Ev (tF sp W A) σ H z := fun H1 e Q q =>
  h H1 e _ fun H2 e2 => hs H2 (e.trans e2) Q (fun H3 e3 => q H3 (e2.trans e3)) _
theorem el_f (h : EvA A σ H vs) (hs : SpL sp vs H xs) : EvL (tF sp W A) σ H xs := fun H1 e Q q =>
  h H1 e _ fun H2 e2 => hs H2 (e.trans e2) Q (fun p H3 hp e3 h3 => q p H3 (fresh_back e2 hp) (e2.trans e3) h3) _
/-- the argument a new list -/
theorem ev_fL {ys : List V} (h : EvL te σ H ys) (hs : ∀ p H1, H1 p = some (.lst ys) → Ex H H1 → SpV sp [.ref p] H1 z) : Ev (tF sp W (tCons te tNil)) σ H z := fun H1 e Q q =>
  h H1 e _ fun p H2 _ e2 h2 => hs p H2 h2 (e.trans e2) H2 (Ex.refl H2) Q (fun H3 e3 => q H3 (e2.trans e3)) _
theorem el_fL {ys : List V} (h : EvL te σ H ys) (hs : ∀ p H1, H1 p = some (.lst ys) → Ex H H1 → SpL sp [.ref p] H1 xs) : EvL (tF sp W (tCons te tNil)) σ H xs := fun H1 e Q q =>
  h H1 e _ fun p H2 _ e2 h2 => hs p H2 h2 (e.trans e2) H2 (Ex.refl H2) Q (fun p2 H3 hp e3 h3 => q p2 H3 (fresh_back e2 hp) (e2.trans e3) h3) _
/-- a promise that hands back a value, a new list -/
theorem spV_of {pre : Hp → Prop} (hp : pre H) (hm : ∀ H1, Ex H H1 → pre H1) (hs : ∀ H1 Q E, pre H1 → RetV z H1 Q → sp vs H1 Q E) : SpV sp vs H z := fun H1 e Q q E => hs H1 Q E (hm H1 e) q
theorem spL_of {pre : Hp → Prop} (hm : ∀ H1, Ex H H1 → pre H1) (hs : ∀ H1 Q E, pre H1 → RetL xs H1 Q → sp vs H1 Q E) : SpL sp vs H xs := fun H1 e Q q E => hs H1 Q E (hm H1 e) q

theorem rc_max2 {i j : Int} : RC rMax2 [.int i, .int j] H (.int (if j > i then j else i)) := fun H1 _ _ q => ⟨i, j, rfl, q H1 (Ex.refl H1)⟩
theorem rc_min2 {i j : Int} : RC rMin2 [.int i, .int j] H (.int (if j < i then j else i)) := fun H1 _ _ q => ⟨i, j, rfl, q H1 (Ex.refl H1)⟩
theorem rc_len {p : Addr} {xs : List V} (h : SqL K H p xs) : RC (rLenS K) [.ref p] H (.int (xs.length : Int)) := fun H1 e _ q => ⟨p, xs, rfl, Or.inl (ex_l e h), q H1 (Ex.refl H1)⟩
theorem rcl_list {p : Addr} {xs : List V} (h : SqL K H p xs) : RCL (rListS K) [.ref p] H xs := fun H1 e _ q => ⟨p, xs, rfl, Or.inl (ex_l e h), fun l hl => q l _ hl (Ex.new hl) upd_same⟩
theorem rc_sum {p : Addr} {ns : List Int} (h : SqL K H p (ns.map V.int)) : RC (rSum K) [.ref p] H (.int ns.sum) := fun H1 e _ q => ⟨p, ns, rfl, ex_l e h, q H1 (Ex.refl H1)⟩
theorem rc_all {p : Addr} {bs : List Bool} (h : SqL K H p (bs.map V.bl)) : RC (rAll K) [.ref p] H (.bl (bs.all id)) := fun H1 e _ q => ⟨p, bs, rfl, ex_l e h, q H1 (Ex.refl H1)⟩
theorem rc_isi {T : String} {tt : Value} {b : Bool} (ht : TyX K H x tt) (hm : ∀ H1, Ex H H1 → TyX K H1 x tt) (hk : PySem.W.kitOne K tt (.type T) = some b) : RC (rIsi K) [x, .ty T] H (.bl b) :=
  fun H1 e _ q => ⟨x, .ty T, tt, _, b, rfl, .ty T, hm H1 e, hk, q H1 (Ex.refl H1)⟩
/-- a call of a built-in upon a new list -/
theorem ev_cbL {r : List V → Hp → VK → Prop} (h : EvL te σ H xs) (hr : ∀ p H1, H1 p = some (.lst xs) → Ex H H1 → RC r [.ref p] H1 z) : Ev (tCB r (tCons te tNil)) σ H z := fun H1 e Q q =>
  h H1 e _ fun p H2 _ e2 h2 => hr p H2 h2 (e.trans e2) H2 (Ex.refl H2) Q fun H3 e3 => q H3 (e2.trans e3)
theorem rv_eqI {i j : Int} : RV rEq (.int i) (.int j) H (.bl (decide (i = j))) := fun H1 _ _ q => ⟨rfl, by
  have e : decide (V.int i = V.int j) = decide (i = j) := by simp
  rw [e]; exact q H1 (Ex.refl H1)⟩
theorem rv_neI {i j : Int} : RV rNe (.int i) (.int j) H (.bl (!decide (i = j))) := fun H1 _ _ q => ⟨rfl, by
  have e : decide (V.int i = V.int j) = decide (i = j) := by simp
  rw [e]; exact q H1 (Ex.refl H1)⟩
theorem rv_isN : RV rIsN x .non H (.bl (decide (x = .non))) := fun H1 _ _ q => ⟨rfl, q H1 (Ex.refl H1)⟩
theorem rv_notN : RV rNotN x .non H (.bl (!decide (x = .non))) := fun H1 _ _ q => ⟨rfl, q H1 (Ex.refl H1)⟩
theorem rv_eqLI {a b : Addr} {ns ms : List Int} (h1 : SqL K H a (ns.map V.int)) (h2 : SqL K H b (ms.map V.int)) : RV (rEqLI K) (.ref a) (.ref b) H (.bl (decide (ns = ms))) := fun H1 e _ q => ⟨a, b, ns, ms, rfl, rfl, ex_l e h1, ex_l e h2, q H1 (Ex.refl H1)⟩
theorem rv_neLI {a b : Addr} {ns ms : List Int} (h1 : SqL K H a (ns.map V.int)) (h2 : SqL K H b (ms.map V.int)) : RV (rNeLI K) (.ref a) (.ref b) H (.bl (!decide (ns = ms))) := fun H1 e _ q => ⟨a, b, ns, ms, rfl, rfl, ex_l e h1, ex_l e h2, q H1 (Ex.refl H1)⟩
/-- both sides lists that stand | new -/
theorem et_eqNil {a : Addr} {ns : List Int} (ha : Ev ta σ H (.ref a)) (h : SqL K H a (ns.map V.int)) : EvT (tTest (tOp (rEqLI K) ta (tLst tNil))) σ H (decide (ns = [])) :=
  et_test (ev_opL (xs := []) ha (el_lst ea_nil (by decide)) fun p H1 hp e => rv_eqLI (ms := []) (ex_l e h) (sq_of hp))
theorem et_neNil {a : Addr} {ns : List Int} (ha : Ev ta σ H (.ref a)) (h : SqL K H a (ns.map V.int)) : EvT (tTest (tOp (rNeLI K) ta (tLst tNil))) σ H (!decide (ns = [])) :=
  et_test (ev_opL ha (el_lst ea_nil (by decide)) fun p H1 hp e => rv_neLI (ms := []) (ex_l e h) (sq_of hp))
theorem ev_neL {ns ms : List Int} (ha : EvL ta σ H (ns.map V.int)) (hb : EvL tb σ H (ms.map V.int)) : Ev (tOp (rNeLI K) ta tb) σ H (.bl (!decide (ns = ms))) :=
  ev_opLL ha hb fun p q H1 hp hq _ => rv_neLI (sq_of hp) (sq_of hq)
/-- list + list, both new -/
theorem el_catLL {ys : List V} (ha : EvL ta σ H xs) (hb : EvL tb σ H ys) (hz : xs.length + ys.length ≤ 100000) : EvL (tOp rCat ta tb) σ H (xs ++ ys) := fun H1 e Q q =>
  ha H1 e _ fun p H2 hp e2 h2 => hb H2 (e.trans e2) _ fun p2 H3 hp2 e3 h3 => ⟨p, p2, xs, ys, rfl, rfl, e3 p _ h2, h3, sz_of hz, fun l hl => q l _ (fresh_back (e2.trans e3) hl) ((e2.trans e3).trans (Ex.new hl)) upd_same⟩
theorem el_isL {ys : List V} (h : EvL te σ H xs) (e : xs = ys) : EvL te σ H ys := e ▸ h
theorem ev_ifE {b : Bool} {v w : V} (h : EvT t σ H b) (h1 : b = true → Ev ta σ H v) (h2 : b = false → Ev tb σ H w) : Ev (tIf t ta tb) σ H (if b = true then v else w) := by
  cases b with
  | true => exact ev_if h h1 fun z => nomatch z
  | false => exact ev_if h (fun z => nomatch z) h2

/-! ### loops over enumerate -/
theorem s_forE {A : TA} {a : Addr} {xs : List V} {g : TG} (h : EvA A σ H [.ref a]) (hx : SqL K H a xs) (Pv : Nat → L2.St → Hp → Prop) (h0 : ∀ H1, Ex H H1 → Pv 0 σ H1) (hl : ∀ i σ' H', i ≤ xs.length → Pv i σ' H' → SqL K H' a xs)
    (hs : ∀ i x p σ' H', xs[i]? = some x → Pv i σ' H' → H' p = none → g (.ref p) σ' (upd H' p (.tup [.int (i : Nat), x])) fun σ2 H2 => tu { D with nx := Pv (i + 1), ct := Pv (i + 1), bk := D.nx } σ2 H2) (hd : ∀ σ' H', Pv xs.length σ' H' → D.nx σ' H') :
    tFor (iEnum K A) g tu D σ H := h H (Ex.refl H) _ fun H1 e => ⟨a, xs, rfl, ex_l e hx, for_it (walk_enum (K := K) (a := a) (xs := xs)) Pv (h0 H1 e) hl (fun i x σ' H' H2 hi p y => by
      obtain ⟨T, x1, y1, rfl, hT, rfl, e1, e2⟩ := y
      cases e1
      exact hs i y1 T σ' H' e2 p hT) hd⟩
theorem q_forE {A : TA} {a : Addr} {xs : List V} {g : TG} (h : EvA A σ H [.ref a]) (hx : SqL K H a xs) (Pv : Nat → L2.St → Hp → Prop) (h0 : ∀ H1, Ex H H1 → Pv 0 σ H1) (hl : ∀ i σ' H', i ≤ xs.length → Pv i σ' H' → SqL K H' a xs)
    (hs : ∀ i x p σ' H', xs[i]? = some x → Pv i σ' H' → H' p = none → g (.ref p) σ' (upd H' p (.tup [.int (i : Nat), x])) fun σ2 H2 => tu { D with nx := Pv (i + 1), ct := Pv (i + 1), bk := tz D } σ2 H2) (hd : ∀ σ' H', Pv xs.length σ' H' → tz D σ' H') :
    tSeq (tFor (iEnum K A) g tu) tz D σ H := s_forE (D := { D with nx := tz D }) h hx Pv h0 hl hs hd
/-- i, x = the tuple just given -/
theorem g_pair {i j : Nat} {p : Addr} {v w : V} {H : Hp} {Q : L2.St → Hp → Prop} (h : H p = some (.tup [v, w])) (q : Q ((σ.set i (some v)).set j (some w)) H) : gTup K 2 (gCons (gName i) (gCons (gName j) gNil)) (.ref p) σ H Q :=
  ⟨p, _, rfl, SqT.of h, rfl, v, [w], rfl, w, [], rfl, rfl, q⟩
/-- a comprehension over enumerate -/
theorem el_lcE {A : TA} {a : Addr} {xs : List V} {vs : List Nat} {i j : Nat} (f : Nat → Bool) (v : Nat → V) (h : EvA A σ H [.ref a]) (hx : SqL K H a xs) (hz : xs.length ≤ 40000) (hw : ∀ x y, wipe (((wipe σ vs).set i (some x)).set j (some y)) vs = wipe σ vs)
    (ht : ∀ (k : Nat) (x : V) H1, Ex H H1 → xs[k]? = some x → EvT t (((wipe σ vs).set i (some (.int (k : Nat)))).set j (some x)) H1 (f k)) (he : ∀ (k : Nat) (x : V) H1, Ex H H1 → xs[k]? = some x → f k = true → Ev te (((wipe σ vs).set i (some (.int (k : Nat)))).set j (some x)) H1 (v k)) :
    EvL (tLc (iEnum K A) (gTup K 2 (gCons (gName i) (gCons (gName j) gNil))) t te vs) σ H (given xs.length f v) := fun H0 e Q q => h H0 e _ fun H1 e1 => ⟨a, xs, rfl, ex_l (e.trans e1) hx, fun Dl hD =>
  lc_it (walk_enum (K := K) (a := a) (xs := xs)) (Cw H1 f v Dl) ⟨hD, Ex.new hD, upd_same⟩ (fun k H' _ p => ex_l ((e.trans e1).trans p.2.1) hx) (fun k x H' H2 hi p y => by
      obtain ⟨T, x1, y1, rfl, hT, rfl, e1', e2⟩ := y
      cases e1'
      have p2 : Cw H1 f v Dl k (upd H' T (.tup [.int (k : Nat), y1])) := ⟨p.1, p.2.1.trans (Ex.new hT), by rw [upd_ne (ne_of_none p.2.2 hT)]; exact p.2.2⟩
      exact g_pair upd_same ⟨hw _ _, cw_turn p2 (by omega) (ht k y1 H1 (e.trans e1) e2) (fun hf => he k y1 H1 (e.trans e1) e2 hf)⟩)
    (fun H' p => q Dl H' (fresh_back e1 p.1) (e1.trans p.2.1) p.2.2)⟩
theorem given_map {n : Nat} {f : Nat → Bool} {v : Nat → V} {α : Type} {c : α → V} {g : Nat → α} (h : ∀ i, i < n → f i = true → v i = c (g i)) : given n f v = (((List.range n).filter f).map g).map c := by
  unfold given
  rw [List.map_map]
  refine List.map_congr_left fun i hi => ?_
  obtain ⟨h1, h2⟩ := List.mem_filter.mp hi
  exact h i (List.mem_range.mp h1) h2
end
/-- two names at once, the first one a new list -/
theorem q_parL {σ : L2.St} {H : Hp} {D : Ends} {tz : TS} {te tf : TE} {i j : Nat} {xs : List V} {w : V} (h : EvL te σ H xs) (h2 : ∀ p H1, H1 p = some (.lst xs) → Ex H H1 → Ev tf σ H1 w)
    (k : ∀ p H1, H p = none → Ex H H1 → H1 p = some (.lst xs) → tz D ((σ.set i (some (.ref p))).set j (some w)) H1) : tSeq (tPar i j (tCons te (tCons tf tNil))) tz D σ H :=
  h H (Ex.refl H) _ fun p H1 hp e h1 => h2 p H1 h1 e H1 (Ex.refl H1) _ fun H2 e2 => ⟨_, _, rfl, k p H2 hp (e.trans e2) (e2 p _ h1)⟩
end Pk
end

section
/-! The rules that name the table, with the table said. -/
namespace Pk
open PySem PySem.Spec PyProof.Rows L2 Evl
section
variable {X : Cx} {tg : Expr}
theorem op_in_seqK (K : PySem.W.Frag) (hK : X.K = K := by rfl) : OpR X (compareOp .In) (rIn K false) := by
  subst hK; exact op_in_seq
theorem op_notIn_seqK (K : PySem.W.Frag) (hK : X.K = K := by rfl) : OpR X (compareOp .NotIn) (rIn K true) := by
  subst hK; exact op_notIn_seq
theorem ix_listK (K : PySem.W.Frag) (hK : X.K = K := by rfl) : IxR X (rIxL K) := by
  subst hK; exact ix_list
theorem ix_tupK (K : PySem.W.Frag) (hK : X.K = K := by rfl) : IxR X (rIxT K) := by
  subst hK; exact ix_tup
theorem sl_listK (K : PySem.W.Frag) (hK : X.K = K := by rfl) : SlR X (rSlL K) := by
  subst hK; exact sl_list
theorem sl_tupK (K : PySem.W.Frag) (hK : X.K = K := by rfl) : SlR X (rSlT K) := by
  subst hK; exact sl_tup
theorem cr_sumK (K : PySem.W.Frag) (hK : X.K = K := by rfl) (hc : X.calm = true := by rfl) : CallR X (.builtin "sum") (rSum K) := by
  subst hK; exact cr_sum hc
theorem cr_allK (K : PySem.W.Frag) (hK : X.K = K := by rfl) (hc : X.calm = true := by rfl) : CallR X (.builtin "all") (rAll K) := by
  subst hK; exact cr_all hc
theorem cr_anyK (K : PySem.W.Frag) (hK : X.K = K := by rfl) (hc : X.calm = true := by rfl) : CallR X (.builtin "any") (rAny K) := by
  subst hK; exact cr_any hc
theorem cr_maxK (K : PySem.W.Frag) (hK : X.K = K := by rfl) (hc : X.calm = true := by rfl) : CallR X (.builtin "max") (rMax K) := by
  subst hK; exact cr_max hc
theorem cr_minK (K : PySem.W.Frag) (hK : X.K = K := by rfl) (hc : X.calm = true := by rfl) : CallR X (.builtin "min") (rMin K) := by
  subst hK; exact cr_min hc
theorem call_isiK (K : PySem.W.Frag) (hK : X.K = K := by rfl) : CallR X (.builtin "isinstance") (rIsi K) := by
  subst hK; exact call_isi
theorem cl_lenK (K : PySem.W.Frag) (hK : X.K = K := by rfl) : CallR X (.builtin "len") (rLenS K) := by
  subst hK; exact cl_len
theorem cl_listK (K : PySem.W.Frag) (hK : X.K = K := by rfl) : CallR X (.type "list") (rListS K) := by
  subst hK; exact cl_list
theorem cr_sortedK (K : PySem.W.Frag) (hK : X.K = K := by rfl) : CallR X (.builtin "sorted") (rSorted K) := by
  subst hK; exact cr_sorted
theorem op_eqDK (K : PySem.W.Frag) (hK : X.K = K := by rfl) (hu : X.A.units + 64 < cLine) : OpR X (compareOp .Eq) (rEqD K) := by
  subst hK; exact op_eqD hu
theorem op_neDK (K : PySem.W.Frag) (hK : X.K = K := by rfl) (hu : X.A.units + 64 < cLine) : OpR X (compareOp .NotEq) (rNeD K) := by
  subst hK; exact op_neD hu
theorem op_eqLIK (K : PySem.W.Frag) (hK : X.K = K := by rfl) (hu : X.A.units + 64 < cLine) : OpR X (compareOp .Eq) (rEqLI K) := by
  subst hK; exact op_eqLI hu
theorem op_neLIK (K : PySem.W.Frag) (hK : X.K = K := by rfl) (hu : X.A.units + 64 < cLine) : OpR X (compareOp .NotEq) (rNeLI K) := by
  subst hK; exact op_neLI hu
theorem call_reprK (K : PySem.W.Frag) (hK : X.K = K := by rfl) {k : Nat} (hr : RoomG k X.A) : CallR X (.builtin "repr") (rRepr K) := by
  subst hK; exact call_repr hr
theorem pi_listK (K : PySem.W.Frag) (hK : X.K = K := by rfl) {l : Expr} {tl : TE} (hl : PE X l tl) : PI X tg l (iList K tl) := by
  subst hK; exact pi_list hl
theorem pi_tupK (K : PySem.W.Frag) (hK : X.K = K := by rfl) {l : Expr} {tl : TE} (hl : PE X l tl) : PI X tg l (iTup K tl) := by
  subst hK; exact pi_tup hl
theorem pi_enumK (K : PySem.W.Frag) (hK : X.K = K := by rfl) {e : Expr} {ta : TA} {p pos tpos : Pos} {elts : List Expr} {kk : Nat} (hg : Gl X "enumerate") (hm : X.mg "enumerate" = none) (ha : PA X [e] ta) (hs : starEach [e] X.env = [(false, eval e X.env)] := by rfl) : PI X (.Tuple elts kk tpos) (.Call (.Name "enumerate" p) [e] [] pos) (iEnum K ta) := by
  subst hK; exact pi_enum hg hm ha hs
theorem pi_zipK (K : PySem.W.Frag) (hK : X.K = K := by rfl) {e e2 : Expr} {ta : TA} {p pos tpos : Pos} {elts : List Expr} {kk : Nat} (hg : Gl X "zip") (hm : X.mg "zip" = none) (ha : PA X [e, e2] ta)
    (hs : starEach [e, e2] X.env = (false, eval e X.env) :: starEach [e2] X.env := by rfl) (hpl : (backTo pos (starEach [e2] X.env)).any (·.1) = false := by rfl) : PI X (.Tuple elts kk tpos) (.Call (.Name "zip" p) [e, e2] [] pos) (iZip K ta) := by
  subst hK; exact pi_zip hg hm ha hs hpl
theorem pg_tupK (K : PySem.W.Frag) (hK : X.K = K := by rfl) {es : List Expr} {k : Nat} {pos : Pos} {t : TGs} {n : Nat} (h : PGs X es t) (hc : X.calm = true := by rfl)
    (hn : (assignEach es X.env).length = n := by rfl) (hst : (assignEach es X.env).findIdx? (·.1) = none := by rfl) : PG X (.Tuple es k pos) (gTup K n t) := by
  subst hK; exact pg_tup hc h hn hst
theorem pe_revLK (K : PySem.W.Frag) (hK : X.K = K := by rfl) {e : Expr} {te : TE} {k : Nat} {p1 p2 p3 pos : Pos} (he : PE X e te) : PE X (.Subscript e (.Slice none none (some (.UnaryOp .USub (.Constant (.int 1) k p1) p2)) p3) pos) (tRevL K te) := by
  subst hK; exact pe_revL he
theorem pe_fldK (K : PySem.W.Frag) {o : Expr} {f : Str} {pos : Pos} {ta : TE} (he : PE X o ta) (hK : X.K = K := by rfl) (hb : attributeBase o f X.env (eval o X.env) = eval o X.env := by rfl) : PE X (.Attribute o f pos) (tFld K ta f) := by
  subst hK; exact pe_fld he hb
theorem pe_conK (K : PySem.W.Frag) {o : Expr} {f : Str} {pos : Pos} {ta : TE} (he : PE X o ta) (hK : X.K = K := by rfl) (hb : attributeBase o f X.env (eval o X.env) = eval o X.env := by rfl) : PE X (.Attribute o f pos) (tCon K ta f) := by
  subst hK; exact pe_con he hb
end
end Pk
end

section
/-! The plain functions. -/
namespace Pk
/-! ### one round -/
/-- the neighbours of place i -/
def nb (ns : List Int) (i : Nat) : List Int := (ns.drop (i - 1)).take (i - (i - 1)) ++ (ns.drop (i + 1)).take 1
def isPk (ns : List Int) (i : Nat) : Bool := (nb ns i).all fun o => decide (o ≤ ns.getD i 0)
def pkPlaces (ns : List Int) : List Nat := (List.range ns.length).filter (isPk ns)
def peel1 (ns : List Int) : List Int := ((List.range ns.length).filter fun i => !isPk ns i).map fun i => ns.getD i 0
def peelN : Nat → List Int → List Int
  | 0, ns => ns
  | k + 1, ns => peelN k (peel1 ns)
theorem peel1_nil : peel1 [] = [] := rfl
theorem peelN_nil : ∀ k, peelN k [] = []
  | 0 => rfl
  | k + 1 => peelN_nil k
theorem peelN_succ : ∀ (k : Nat) (ns : List Int), peelN (k + 1) ns = peel1 (peelN k ns)
  | 0, _ => rfl
  | k + 1, ns => peelN_succ k (peel1 ns)
theorem peelN_add : ∀ (j k : Nat) (ns : List Int), peelN (j + k) ns = peelN k (peelN j ns)
  | 0, k, ns => by rw [Nat.zero_add]; rfl
  | j + 1, k, ns => by rw [Nat.succ_add]; exact peelN_add j k (peel1 ns)
theorem nb_mem {ns : List Int} {i : Nat} {o : Int} (h : o ∈ nb ns i) : o ∈ ns := by
  unfold nb at h
  rcases List.mem_append.mp h with h | h
  · exact List.mem_of_mem_drop (List.mem_of_mem_take h)
  · exact List.mem_of_mem_drop (List.mem_of_mem_take h)
theorem exists_max : ∀ (ns : List Int), ns ≠ [] → ∃ i, i < ns.length ∧ ∀ o ∈ ns, o ≤ ns.getD i 0
  | [], h => absurd rfl h
  | [a], _ => ⟨0, by simp, by intro o ho; simp at ho; simp [ho]⟩
  | a :: b :: r, _ => by
    obtain ⟨i, hi, h⟩ := exists_max (b :: r) (by simp)
    by_cases hab : (b :: r).getD i 0 ≤ a
    · refine ⟨0, by simp, fun o ho => ?_⟩
      rcases List.mem_cons.mp ho with e | ho
      · simp [e]
      · have := h o ho
        show o ≤ a
        omega
    · refine ⟨i + 1, by simp at hi ⊢; omega, fun o ho => ?_⟩
      show o ≤ (b :: r).getD i 0
      rcases List.mem_cons.mp ho with e | ho
      · omega
      · exact h o ho
theorem exists_pk {ns : List Int} (h : ns ≠ []) : ∃ i, i < ns.length ∧ isPk ns i = true := by
  obtain ⟨i, hi, hm⟩ := exists_max ns h
  exact ⟨i, hi, List.all_eq_true.mpr fun o ho => decide_eq_true (hm o (nb_mem ho))⟩
theorem filter_lt {α : Type} {p : α → Bool} : ∀ {l : List α} {x : α}, x ∈ l → p x = false → (l.filter p).length < l.length
  | [], _, h, _ => by simp at h
  | a :: l, x, h, hp => by
    have hle := List.length_filter_le p l
    rcases List.mem_cons.mp h with e | h
    · subst e
      rw [List.filter_cons_of_neg (by simp [hp])]
      simp only [List.length_cons]; omega
    · have ih := filter_lt h hp
      by_cases ha : p a = true
      · rw [List.filter_cons_of_pos ha]; simp only [List.length_cons]; omega
      · rw [List.filter_cons_of_neg ha]; simp only [List.length_cons]; omega
theorem peel1_le (ns : List Int) : (peel1 ns).length ≤ ns.length := by
  unfold peel1
  rw [List.length_map]
  have := List.length_filter_le (fun i => !isPk ns i) (List.range ns.length)
  rw [List.length_range] at this
  exact this
theorem peel1_lt {ns : List Int} (h : ns ≠ []) : (peel1 ns).length < ns.length := by
  obtain ⟨i, hi, hp⟩ := exists_pk h
  unfold peel1
  rw [List.length_map]
  have := filter_lt (p := fun i => !isPk ns i) (List.mem_range.mpr hi) (by simp [hp])
  rw [List.length_range] at this
  exact this
theorem peelN_le : ∀ (k : Nat) (ns : List Int), (peelN k ns).length ≤ ns.length
  | 0, _ => Nat.le_refl _
  | k + 1, ns => Nat.le_trans (peelN_le k (peel1 ns)) (peel1_le ns)
/-- so many rounds leave nothing -/
theorem peelN_end : ∀ (k : Nat) (ns : List Int), ns.length ≤ k → peelN k ns = []
  | 0, ns, h => by
    have : ns = [] := List.eq_nil_of_length_eq_zero (by omega)
    subst this; rfl
  | k + 1, ns, h => by
    by_cases hn : ns = []
    · subst hn; exact peelN_nil _
    · exact peelN_end k (peel1 ns) (by have := peel1_lt hn; omega)
/-- more rounds than entries change nothing -/
theorem peelN_min (k : Nat) (ns : List Int) : peelN (min k ns.length) ns = peelN k ns := by
  by_cases h : k ≤ ns.length
  · rw [Nat.min_eq_left h]
  · rw [Nat.min_eq_right (by omega), peelN_end _ _ (Nat.le_refl _), peelN_end k ns (by omega)]
theorem peel1_mem {ns : List Int} {o : Int} (h : o ∈ peel1 ns) : o ∈ ns := by
  unfold peel1 at h
  obtain ⟨i, hi, rfl⟩ := List.mem_map.mp h
  have h1 := List.mem_range.mp (List.mem_filter.mp hi).1
  rw [List.getD_eq_getElem?_getD, List.getElem?_eq_getElem h1]
  exact List.getElem_mem h1
end Pk
end

section
/-! The times, plainly. -/
namespace Pk
theorem getD_map {α β : Type} (f : α → β) (l : List α) (i : Nat) (a : α) : (l.map f).getD i (f a) = f (l.getD i a) := by
  rw [List.getD_eq_getElem?_getD, List.getD_eq_getElem?_getD, List.getElem?_map]
  cases l[i]? <;> rfl
theorem getD_lt {α : Type} {l : List α} {i : Nat} {a : α} (h : i < l.length) : l.getD i a = l[i] := by
  rw [List.getD_eq_getElem?_getD, List.getElem?_eq_getElem h]; rfl
theorem getD_mem {α : Type} {l : List α} {i : Nat} {a : α} (h : i < l.length) : l.getD i a ∈ l := by
  rw [getD_lt h]; exact List.getElem_mem h
theorem map_range_get {α β : Type} (l : List α) (a : α) (f : α → β) : (List.range l.length).map (fun j => f (l.getD j a)) = l.map f := by
  refine List.ext_getElem (by simp) fun i h1 h2 => ?_
  simp only [List.getElem_map, List.getElem_range]
  rw [getD_lt (by simpa using h2)]
theorem filter_range_get {α β : Type} (a : α) (p : α → Bool) (g : α → β) : ∀ (l : List α), ((List.range l.length).filter fun i => p (l.getD i a)).map (fun i => g (l.getD i a)) = (l.filter p).map g := by
  intro l
  induction l with
  | nil => rfl
  | cons x l ih =>
    rw [List.length_cons, List.range_succ_eq_map, List.filter_cons]
    have e : ((List.map Nat.succ (List.range l.length)).filter fun i => p ((x :: l).getD i a)).map (fun i => g ((x :: l).getD i a)) = (l.filter p).map g := by
      rw [List.filter_map, List.map_map]
      exact ih
    have z : (x :: l).getD 0 a = x := rfl
    rw [z, List.filter_cons]
    cases h : p x
    · simp only [Bool.false_eq_true, if_false]; exact e
    · simp only [if_true, List.map_cons, z]; rw [e]
def subR (ns : List Int) (left : List Nat) : List Int := left.map fun p => ns.getD p 0
def tmSet (left : List Nat) (n : Int) (fd : List Int) (spots : List Nat) : List Int := spots.foldl (fun fd s => fd.set (left.getD s 0) n) fd
def tmGo (ns : List Int) : Nat → List Nat → List Int → Int → List Int
  | 0, _, fd, _ => fd
  | k + 1, left, fd, n => if left = [] then fd else
    tmGo ns k (left.filter fun p => decide ((tmSet left (n + 1) fd (pkPlaces (subR ns left))).getD p 0 = 0)) (tmSet left (n + 1) fd (pkPlaces (subR ns left))) (n + 1)
def timesIn (ns : List Int) : List Int := tmGo ns ns.length (List.range ns.length) (List.replicate ns.length 0) 0
theorem tmSet_len (left : List Nat) (n : Int) : ∀ (spots : List Nat) (fd : List Int), (tmSet left n fd spots).length = fd.length
  | [], _ => rfl
  | s :: ss, fd => by
    show (tmSet left n (fd.set (left.getD s 0) n) ss).length = _
    rw [tmSet_len left n ss, List.length_set]
theorem tmSet_app (left : List Nat) (n : Int) (fd : List Int) (ss : List Nat) (s : Nat) : tmSet left n fd (ss ++ [s]) = (tmSet left n fd ss).set (left.getD s 0) n := by
  unfold tmSet; rw [List.foldl_append]; rfl
theorem getD_set {l : List Int} {i j : Nat} {n : Int} (h : i < l.length) : (l.set i n).getD j 0 = if j = i then n else l.getD j 0 := by
  rw [List.getD_eq_getElem?_getD, List.getD_eq_getElem?_getD, List.getElem?_set]
  by_cases e : i = j
  · subst e; simp [h]
  · have : ¬ j = i := fun z => e z.symm
    simp [e, this]
theorem tmSet_get {left : List Nat} {n : Int} (p : Nat) : ∀ (spots : List Nat) (fd : List Int), (∀ s ∈ spots, left.getD s 0 < fd.length) →
    (tmSet left n fd spots).getD p 0 = if p ∈ spots.map (fun s => left.getD s 0) then n else fd.getD p 0
  | [], fd, _ => by simp [tmSet]
  | s :: ss, fd, h => by
    have ih := tmSet_get (left := left) (n := n) p ss (fd.set (left.getD s 0) n) (fun t ht => by rw [List.length_set]; exact h t (List.mem_cons_of_mem _ ht))
    show (tmSet left n (fd.set (left.getD s 0) n) ss).getD p 0 = _
    rw [ih, getD_set (h s (List.mem_cons_self ..)), List.map_cons]
    by_cases h1 : p ∈ ss.map (fun s => left.getD s 0)
    · rw [if_pos h1, if_pos (List.mem_cons_of_mem _ h1)]
    · by_cases h2 : p = left.getD s 0
      · rw [if_neg h1, if_pos h2, if_pos (h2 ▸ List.mem_cons_self ..)]
      · rw [if_neg h1, if_neg h2, if_neg (fun z => (List.mem_cons.mp z).elim h2 h1)]
theorem pk_lt {ns : List Int} {s : Nat} (h : s ∈ pkPlaces ns) : s < ns.length := List.mem_range.mp (List.mem_filter.mp h).1
theorem sub_len (ns : List Int) (left : List Nat) : (subR ns left).length = left.length := List.length_map ..
/-- what stays after a round -/
def tmStay (ns : List Int) (left : List Nat) (fd : List Int) (n : Int) : List Nat := left.filter fun p => decide ((tmSet left (n + 1) fd (pkPlaces (subR ns left))).getD p 0 = 0)
theorem stay_lt {ns : List Int} {left : List Nat} {fd : List Int} {n : Int} (hl : left ≠ []) (hn : 0 ≤ n) (hb : ∀ p ∈ left, p < fd.length) : (tmStay ns left fd n).length < left.length := by
  obtain ⟨s, hs, hp⟩ := exists_pk (ns := subR ns left) (by intro z; exact hl (List.map_eq_nil_iff.mp z))
  rw [sub_len] at hs
  refine filter_lt (x := left.getD s 0) (getD_mem hs) ?_
  have hm : s ∈ pkPlaces (subR ns left) := List.mem_filter.mpr ⟨List.mem_range.mpr (by rw [sub_len]; exact hs), hp⟩
  rw [tmSet_get _ _ _ fun t ht => hb _ (getD_mem (by have := pk_lt ht; rw [sub_len] at this; exact this)), if_pos (List.mem_map.mpr ⟨s, hm, rfl⟩)]
  exact decide_eq_false (by omega)
theorem stay_mem {ns : List Int} {left : List Nat} {fd : List Int} {n : Int} {p : Nat} (h : p ∈ tmStay ns left fd n) : p ∈ left := (List.mem_filter.mp h).1
theorem nodup_get {l : List Nat} (h : l.Nodup) {i j : Nat} (hi : i < l.length) (hj : j < l.length) (e : l.getD i 0 = l.getD j 0) : i = j := by
  rw [getD_lt hi, getD_lt hj] at e
  exact (List.getElem_inj h).mp e
/-- the places that stay, by their spots -/
theorem stay_eq {ns : List Int} {left : List Nat} {fd : List Int} {n : Int} (hd : left.Nodup) (hn : 0 ≤ n) (hb : ∀ p ∈ left, p < fd.length) (hz : ∀ p ∈ left, fd.getD p 0 = 0) :
    tmStay ns left fd n = ((List.range left.length).filter fun s => !isPk (subR ns left) s).map fun s => left.getD s 0 := by
  unfold tmStay
  have e := filter_range_get 0 (fun p => decide ((tmSet left (n + 1) fd (pkPlaces (subR ns left))).getD p 0 = 0)) id left
  rw [List.map_id] at e
  rw [← e]
  show List.map (fun s => left.getD s 0) _ = _
  congr 1
  refine List.filter_congr fun s hs => ?_
  have hs := List.mem_range.mp hs
  rw [tmSet_get _ _ _ fun t ht => hb _ (getD_mem (by have := pk_lt ht; rw [sub_len] at this; exact this))]
  by_cases hp : isPk (subR ns left) s = true
  · have hm : s ∈ pkPlaces (subR ns left) := List.mem_filter.mpr ⟨List.mem_range.mpr (by rw [sub_len]; exact hs), hp⟩
    rw [if_pos (List.mem_map.mpr ⟨s, hm, rfl⟩), hp]
    exact decide_eq_false (by omega)
  · rw [if_neg, hz _ (getD_mem hs)]
    · rw [Bool.not_eq_true] at hp; rw [hp]; rfl
    · intro z
      obtain ⟨t, ht, e⟩ := List.mem_map.mp z
      have h1 := pk_lt ht
      rw [sub_len] at h1
      have := nodup_get hd h1 hs e
      subst this
      exact hp (List.mem_filter.mp ht).2
/-- what holds between the rounds -/
structure TmInv (ns : List Int) (left : List Nat) (fd : List Int) (n : Int) : Prop where
  nd : left.Nodup
  lt : ∀ p ∈ left, p < fd.length
  z : ∀ p ∈ left, fd.getD p 0 = 0
  len : fd.length = ns.length
  n0 : 0 ≤ n
  ll : left.length ≤ ns.length
theorem TmInv.start (ns : List Int) : TmInv ns (List.range ns.length) (List.replicate ns.length 0) 0 :=
  ⟨List.nodup_range, fun p h => by rw [List.length_replicate]; exact List.mem_range.mp h, fun p h => by rw [getD_lt (by rw [List.length_replicate]; exact List.mem_range.mp h), List.getElem_replicate], List.length_replicate .., Int.le_refl _, by rw [List.length_range]; exact Nat.le_refl _⟩
theorem TmInv.step {ns : List Int} {left : List Nat} {fd : List Int} {n : Int} (I : TmInv ns left fd n) : TmInv ns (tmStay ns left fd n) (tmSet left (n + 1) fd (pkPlaces (subR ns left))) (n + 1) := by
  refine ⟨List.Nodup.sublist List.filter_sublist I.nd, fun p h => by rw [tmSet_len]; exact I.lt p (stay_mem h), fun p h => ?_, by rw [tmSet_len]; exact I.len, by have := I.n0; omega, Nat.le_trans (List.length_filter_le _ _) I.ll⟩
  exact of_decide_eq_true (List.mem_filter.mp h).2
theorem tmGo_len (ns : List Int) : ∀ (k : Nat) (left : List Nat) (fd : List Int) (n : Int), (tmGo ns k left fd n).length = fd.length
  | 0, _, _, _ => rfl
  | k + 1, left, fd, n => by
    unfold tmGo
    split
    · rfl
    · rw [tmGo_len ns k, tmSet_len]
theorem timesIn_len (ns : List Int) : (timesIn ns).length = ns.length := by unfold timesIn; rw [tmGo_len, List.length_replicate]
theorem tmGo_nil (ns : List Int) (k : Nat) (fd : List Int) (n : Int) : tmGo ns k [] fd n = fd := by cases k <;> simp [tmGo]
theorem tmGo_fuel (ns : List Int) : ∀ (k j : Nat) (left : List Nat) (fd : List Int) (n : Int), TmInv ns left fd n → left.length ≤ k → left.length ≤ j → tmGo ns k left fd n = tmGo ns j left fd n
  | 0, j, left, fd, n, I, h, _ => by
    have : left = [] := List.eq_nil_of_length_eq_zero (by omega)
    subst this; rw [tmGo_nil, tmGo_nil]
  | k + 1, 0, left, fd, n, I, _, h => by
    have : left = [] := List.eq_nil_of_length_eq_zero (by omega)
    subst this; rw [tmGo_nil, tmGo_nil]
  | k + 1, j + 1, left, fd, n, I, h1, h2 => by
    unfold tmGo
    by_cases hl : left = []
    · rw [if_pos hl, if_pos hl]
    · rw [if_neg hl, if_neg hl]
      have := stay_lt (ns := ns) hl I.n0 I.lt
      exact tmGo_fuel ns k j _ _ _ I.step (by show (tmStay ns left fd n).length ≤ k; omega) (by show (tmStay ns left fd n).length ≤ j; omega)
/-- one round unrolled -/
theorem tmGo_step {ns : List Int} {left : List Nat} {fd : List Int} {n : Int} {k : Nat} (hl : left ≠ []) : tmGo ns (k + 1) left fd n = tmGo ns k (tmStay ns left fd n) (tmSet left (n + 1) fd (pkPlaces (subR ns left))) (n + 1) := by
  rw [tmGo, if_neg hl]; rfl
end Pk
end

section
/-! Comprehensions over lists of known kind. -/
namespace Pk
open PySem PySem.Spec PyProof.Rows L2 Evl
theorem get_map {α β : Type} {f : α → β} {l : List α} {i : Nat} {y : β} (h : (l.map f)[i]? = some y) : ∃ x, l[i]? = some x ∧ y = f x := by
  rw [List.getElem?_map] at h
  cases e : l[i]? with
  | none => rw [e] at h; cases h
  | some x => rw [e] at h; exact ⟨x, rfl, (Option.some.inj h).symm⟩
theorem given_list {β : Type} (p : β → Bool) (v : β → V) (l : List β) : given l.length (fun i => (l[i]?).elim false p) (fun i => (l[i]?).elim .non v) = (l.filter p).map v := by
  unfold given
  induction l with
  | nil => rfl
  | cons x l ih =>
    rw [List.length_cons, List.range_succ_eq_map, List.filter_cons]
    have e : ((List.map Nat.succ (List.range l.length)).filter fun i => ((x :: l)[i]?).elim false p).map (fun i => ((x :: l)[i]?).elim .non v) = (l.filter p).map v := by
      rw [List.filter_map, List.map_map, ← ih]
      congr 1
    have z : ((x :: l)[0]?).elim false p = p x := rfl
    have z2 : ((x :: l)[0]?).elim .non v = v x := rfl
    rw [z, List.filter_cons]
    cases h : p x
    · simp only [Bool.false_eq_true, if_false]; exact e
    · simp only [if_true, List.map_cons, z2]; rw [e]
section
variable {K : PySem.W.Frag} {σ : L2.St} {H : Hp} {t : TT} {te : TE} {β : Type}
theorem et_none : EvT tYes σ H true := fun H2 _ _ q => q H2 (Ex.refl H2)
/-- [.. for x in l if ..], l a list of known kind -/
theorem el_map {α β : Type} {a : Addr} {tl : TE} {j : Nat} {vs : List Nat} (d : β → V) (l : List β) (p : β → Bool) (g : β → α) (c : α → V) (h : Ev tl σ H (.ref a)) (hx : SqL K H a (l.map d)) (hz : l.length ≤ 40000) (hw : ∀ x, wipe ((wipe σ vs).set j (some x)) vs = wipe σ vs)
    (ht : ∀ n, n ∈ l → ∀ H1, Ex H H1 → EvT t ((wipe σ vs).set j (some (d n))) H1 (p n)) (he : ∀ n, n ∈ l → p n = true → ∀ H1, Ex H H1 → Ev te ((wipe σ vs).set j (some (d n))) H1 (c (g n))) :
    EvL (tLc (iList K tl) (gName j) t te vs) σ H (((l.filter p).map g).map c) := by
  have := el_lcL (K := K) (t := t) (te := te) (σ := σ) (vs := vs) (j := j) (fun i => (l[i]?).elim false p) (fun i => (l[i]?).elim .non fun n => c (g n)) h hx (by rw [List.length_map]; exact hz) hw (fun i x H1 e hi => ?_) (fun i x H1 e hi hf => ?_)
  · rw [List.length_map, given_list] at this
    rw [List.map_map]; exact this
  · obtain ⟨n, hn, rfl⟩ := get_map hi
    rw [hn]
    exact ht n (List.mem_of_getElem? hn) H1 e
  · obtain ⟨n, hn, rfl⟩ := get_map hi
    rw [hn] at hf ⊢
    exact he n (List.mem_of_getElem? hn) hf H1 e
theorem el_mapN {α β : Type} {tl : TE} {j : Nat} {vs : List Nat} (d : β → V) (l : List β) (p : β → Bool) (g : β → α) (c : α → V) (h : EvL tl σ H (l.map d)) (hz : l.length ≤ 40000) (hw : ∀ x, wipe ((wipe σ vs).set j (some x)) vs = wipe σ vs)
    (ht : ∀ n, n ∈ l → ∀ H1, Ex H H1 → EvT t ((wipe σ vs).set j (some (d n))) H1 (p n)) (he : ∀ n, n ∈ l → p n = true → ∀ H1, Ex H H1 → Ev te ((wipe σ vs).set j (some (d n))) H1 (c (g n))) :
    EvL (tLc (iList K tl) (gName j) t te vs) σ H (((l.filter p).map g).map c) := by
  have := el_lcNL (K := K) (t := t) (te := te) (σ := σ) (vs := vs) (j := j) (fun i => (l[i]?).elim false p) (fun i => (l[i]?).elim .non fun n => c (g n)) h (by rw [List.length_map]; exact hz) hw (fun i x H1 e hi => ?_) (fun i x H1 e hi hf => ?_)
  · rw [List.length_map, given_list] at this
    rw [List.map_map]; exact this
  · obtain ⟨n, hn, rfl⟩ := get_map hi
    rw [hn]
    exact ht n (List.mem_of_getElem? hn) H1 e
  · obtain ⟨n, hn, rfl⟩ := get_map hi
    rw [hn] at hf ⊢
    exact he n (List.mem_of_getElem? hn) hf H1 e
/-- without a test -/
theorem el_map1 {α β : Type} {a : Addr} {tl : TE} {j : Nat} {vs : List Nat} (d : β → V) (l : List β) (g : β → α) (c : α → V) (h : Ev tl σ H (.ref a)) (hx : SqL K H a (l.map d)) (hz : l.length ≤ 40000) (hw : ∀ x, wipe ((wipe σ vs).set j (some x)) vs = wipe σ vs)
    (he : ∀ n, n ∈ l → ∀ H1, Ex H H1 → Ev te ((wipe σ vs).set j (some (d n))) H1 (c (g n))) :
    EvL (tLc (iList K tl) (gName j) tYes te vs) σ H ((l.map g).map c) := by
  have := el_map (K := K) (te := te) (σ := σ) (H := H) (vs := vs) (j := j) d l (fun _ => true) g c h hx hz hw (fun _ _ _ _ => et_none) fun n hn _ => he n hn
  rwa [List.filter_eq_self.mpr fun _ _ => rfl] at this
/-- over enumerate -/
theorem el_mapEn {α β : Type} {A : TA} {a : Addr} {vs : List Nat} {i j : Nat} (d : β → V) (l : List β) (p : Nat → Bool) (g : Nat → α) (c : α → V) (h : EvA A σ H [.ref a]) (hx : SqL K H a (l.map d)) (hz : l.length ≤ 40000) (hw : ∀ x y, wipe (((wipe σ vs).set i (some x)).set j (some y)) vs = wipe σ vs)
    (ht : ∀ (k : Nat) (x : β), l[k]? = some x → ∀ H1, Ex H H1 → EvT t (((wipe σ vs).set i (some (.int (k : Nat)))).set j (some (d x))) H1 (p k)) (he : ∀ (k : Nat) (x : β), l[k]? = some x → p k = true → ∀ H1, Ex H H1 → Ev te (((wipe σ vs).set i (some (.int (k : Nat)))).set j (some (d x))) H1 (c (g k))) :
    EvL (tLc (iEnum K A) (gTup K 2 (gCons (gName i) (gCons (gName j) gNil))) t te vs) σ H ((((List.range l.length).filter p).map g).map c) := by
  have := el_lcE (K := K) (t := t) (te := te) (σ := σ) (vs := vs) (i := i) (j := j) p (fun k => c (g k)) h hx (by rw [List.length_map]; exact hz) hw (fun i x H1 e hi => ?_) (fun i x H1 e hi hf => ?_)
  · rw [List.length_map, given_map (c := c) (g := g) fun _ _ _ => rfl] at this
    exact this
  · obtain ⟨n, hn, rfl⟩ := get_map hi
    exact ht i n hn H1 e
  · obtain ⟨n, hn, rfl⟩ := get_map hi
    exact he i n hn hf H1 e
/-- over enumerate of a new list -/
theorem el_lcEL {te : TE} {A : TA} {xs : List V} {vs : List Nat} {i j : Nat} {tl : TE} (f : Nat → Bool) (v : Nat → V) (h : EvL tl σ H xs) (hA : A = tCons tl tNil) (hz : xs.length ≤ 40000) (hw : ∀ x y, wipe (((wipe σ vs).set i (some x)).set j (some y)) vs = wipe σ vs)
    (ht : ∀ (k : Nat) (x : V) H1, Ex H H1 → xs[k]? = some x → EvT t (((wipe σ vs).set i (some (.int (k : Nat)))).set j (some x)) H1 (f k)) (he : ∀ (k : Nat) (x : V) H1, Ex H H1 → xs[k]? = some x → f k = true → Ev te (((wipe σ vs).set i (some (.int (k : Nat)))).set j (some x)) H1 (v k)) :
    EvL (tLc (iEnum K A) (gTup K 2 (gCons (gName i) (gCons (gName j) gNil))) t te vs) σ H (given xs.length f v) := fun H0 e Q q => by
  subst hA
  refine h H0 e _ fun a H1 ha e1 h1 => ?_
  exact (el_lcE (K := K) (t := t) (te := te) (σ := σ) (vs := vs) (i := i) (j := j) (A := fun _ H' R => R [.ref a] H') f v (fun H2 _ Q2 q2 => q2 H2 (Ex.refl H2)) (sq_of h1) hz hw (fun k x H2 e2 hx => ht k x H2 ((e.trans e1).trans e2) hx) (fun k x H2 e2 hx hf => he k x H2 ((e.trans e1).trans e2) hx hf)) H1 (Ex.refl H1) Q fun p H2 hp e2 h2 => q p H2 (fresh_back e1 hp) (e1.trans e2) h2
theorem el_mapEnL {α β : Type} {tl : TE} {vs : List Nat} {i j : Nat} (d : β → V) (l : List β) (p : Nat → Bool) (g : Nat → α) (c : α → V) (h : EvL tl σ H (l.map d)) (hz : l.length ≤ 40000) (hw : ∀ x y, wipe (((wipe σ vs).set i (some x)).set j (some y)) vs = wipe σ vs)
    (ht : ∀ (k : Nat) (x : β), l[k]? = some x → ∀ H1, Ex H H1 → EvT t (((wipe σ vs).set i (some (.int (k : Nat)))).set j (some (d x))) H1 (p k)) (he : ∀ (k : Nat) (x : β), l[k]? = some x → p k = true → ∀ H1, Ex H H1 → Ev te (((wipe σ vs).set i (some (.int (k : Nat)))).set j (some (d x))) H1 (c (g k))) :
    EvL (tLc (iEnum K (tCons tl tNil)) (gTup K 2 (gCons (gName i) (gCons (gName j) gNil))) t te vs) σ H ((((List.range l.length).filter p).map g).map c) := by
  have := el_lcEL (K := K) (t := t) (te := te) (σ := σ) (vs := vs) (i := i) (j := j) p (fun k => c (g k)) h rfl (by rw [List.length_map]; exact hz) hw (fun i x H1 e hi => ?_) (fun i x H1 e hi hf => ?_)
  · rw [List.length_map, given_map (c := c) (g := g) fun _ _ _ => rfl] at this
    exact this
  · obtain ⟨n, hn, rfl⟩ := get_map hi
    exact ht i n hn H1 e
  · obtain ⟨n, hn, rfl⟩ := get_map hi
    exact he i n hn hf H1 e
/-- a list display of what is there -/
theorem rv_at {d : β → V} {l : List β} {a : Addr} {i : Nat} {x : β} (h : SqL K H a (l.map d)) (hx : l[i]? = some x) : RV (rIxL K) (.ref a) (.int (i : Int)) H (d x) := by
  refine rv_ixL h ?_
  have hi := (List.getElem?_eq_some_iff.mp hx).1
  unfold atI
  rw [List.length_map, ixN_nat hi]
  show (l.map d)[i]? = _
  rw [List.getElem?_map, hx]; rfl
/-- the last one -/
theorem rv_last {d : β → V} {l : List β} {a : Addr} {x : β} (h : SqL K H a ((l ++ [x]).map d)) : RV (rIxL K) (.ref a) (.int (-1)) H (d x) := by
  refine rv_ixL h ?_
  unfold atI ixN
  simp
  rw [if_pos (by omega)]
  show (List.map d l ++ [d x])[(-1 + ((l.length : Int) + 1)).toNat]? = _
  rw [show (-1 + ((l.length : Int) + 1)).toNat = l.length by omega, List.getElem?_append_right (by rw [List.length_map]; exact Nat.le_refl _), List.length_map, Nat.sub_self]
  rfl
end
end Pk
end

section
/-! Code that changes objects: M are the objects that may change. -/
namespace Pk
open PySem PySem.Spec PyProof.Rows L2 Evl
def Sm (M : List Addr) (H H' : Hp) : Prop := (∀ a o, a ∉ M → H a = some o → H' a = some o) ∧ ∀ a, H' a = none → H a = none
theorem Sm.refl (M : List Addr) (H : Hp) : Sm M H H := ⟨fun _ _ _ h => h, fun _ h => h⟩
theorem Sm.trans {M : List Addr} {H H1 H2 : Hp} (a : Sm M H H1) (b : Sm M H1 H2) : Sm M H H2 := ⟨fun x o hx h => b.1 x o hx (a.1 x o hx h), fun x h => a.2 x (b.2 x h)⟩
theorem Sm.ex {M : List Addr} {H H1 : Hp} (e : Ex H H1) : Sm M H H1 := ⟨fun a o _ h => e a o h, fun _ h => fresh_back e h⟩
theorem Sm.mono {M M' : List Addr} {H H1 : Hp} (a : Sm M H H1) (h : ∀ x ∈ M, x ∈ M') : Sm M' H H1 := ⟨fun x o hx => a.1 x o fun z => hx (h x z), a.2⟩
theorem Sm.toEx {H H1 : Hp} (a : Sm [] H H1) : Ex H H1 := fun x o h => a.1 x o (List.not_mem_nil) h
theorem Sm.mut {M : List Addr} {H H1 : Hp} {p : Addr} {o : HO} (a : Sm M H H1) (h : p ∈ M ∨ H p = none) : Sm M H (upd H1 p o) := by
  refine ⟨fun x u hx hu => ?_, fun x hx => ?_⟩
  · have : x ≠ p := by
      rintro rfl
      rcases h with h | h
      · exact hx h
      · rw [h] at hu; cases hu
    rw [upd_ne this]
    exact a.1 x u hx hu
  · by_cases e : x = p
    · subst e; rw [upd_same] at hx; cases hx
    · rw [upd_ne e] at hx; exact a.2 x hx
theorem Sm.back {M : List Addr} {H H1 : Hp} {p : Addr} (a : Sm M H H1) (h : H1 p = none) : H p = none := a.2 p h
theorem Sm.at {M : List Addr} {H H1 : Hp} {p : Addr} {o : HO} (a : Sm M H H1) (hp : p ∉ M) (h : H p = some o) : H1 p = some o := a.1 p o hp h
theorem Sm.new {M : List Addr} {H : Hp} {p : Addr} {o : HO} (h : H p = none) : Sm M H (upd H p o) := (Sm.refl M H).mut (.inr h)
/-- a frame over one object less: that object was not there before -/
theorem Sm.drop {M : List Addr} {H H1 : Hp} {p : Addr} (a : Sm (p :: M) H H1) (h : H p = none) : Sm M H H1 := by
  refine ⟨fun x o hx hu => a.1 x o (fun z => ?_) hu, a.2⟩
  rcases List.mem_cons.mp z with e | z
  · subst e; rw [h] at hu; cases hu
  · exact hx z
theorem ne_of_kind {H : Hp} {a b : Addr} {o u : HO} (h1 : H a = some o) (h2 : H b = some u) (h : o ≠ u) : a ≠ b := by
  rintro rfl
  rw [h1] at h2
  exact h (Option.some.inj h2)
theorem ne_of_new {H : Hp} {a b : Addr} {o : HO} (h1 : H a = some o) (h2 : H b = none) : a ≠ b := by
  rintro rfl
  rw [h1] at h2; cases h2
theorem ne_of_new' {H : Hp} {a b : Addr} {o : HO} (h1 : H a = some o) (h2 : H b = none) : b ≠ a := (ne_of_new h1 h2).symm
section
variable {K : PySem.W.Frag} {σ : L2.St} {H : Hp} {D : Ends} {tz tu tw : TS} {ta tb te : TE} {x y v : V} {Q : VK}
theorem Ev.go (h : Ev te σ H v) (q : ∀ H1, Ex H H1 → Q v H1) : te σ H Q := h H (Ex.refl H) Q q
theorem EvL.go {xs : List V} (h : EvL te σ H xs) (q : ∀ p H1, H p = none → Ex H H1 → H1 p = some (.lst xs) → Q (.ref p) H1) : te σ H Q := h H (Ex.refl H) Q q
theorem EvT.go {t : TT} {b : Bool} {R : Bool → Hp → Prop} (h : EvT t σ H b) (q : ∀ H1, Ex H H1 → R b H1) : t σ H R := h H (Ex.refl H) R q
theorem RV.go {r : R2} {z : V} (h : RV r x y H z) (q : ∀ H1, Ex H H1 → Q z H1) : r x y H Q := h H (Ex.refl H) Q q
theorem RC.go {r : List V → Hp → VK → Prop} {vs : List V} {z : V} (h : RC r vs H z) (q : ∀ H1, Ex H H1 → Q z H1) : r vs H Q := h H (Ex.refl H) Q q
theorem RCL.go {r : List V → Hp → VK → Prop} {vs xs : List V} (h : RCL r vs H xs) (q : ∀ p H1, H p = none → Ex H H1 → H1 p = some (.lst xs) → Q (.ref p) H1) : r vs H Q := h H (Ex.refl H) Q q
theorem w_asg {i : Nat} (h : te σ H fun v H1 => D.nx (σ.set i (some v)) H1) : tAsg te (gName i) D σ H := h
theorem wq_asg {i : Nat} (h : te σ H fun v H1 => tz D (σ.set i (some v)) H1) : tSeq (tAsg te (gName i)) tz D σ H := h
theorem wq (h : tu { D with nx := tz D } σ H) : tSeq tu tz D σ H := h
theorem w_drop (h : te σ H fun _ H1 => D.nx σ H1) : tDrop te D σ H := h
theorem wq_drop (h : te σ H fun _ H1 => tz D σ H1) : tSeq (tDrop te) tz D σ H := h
theorem w_ret (h : te σ H D.rt) : tRet te D σ H := h
theorem w_op {r : R2} (h : ta σ H fun x H1 => tb σ H1 fun y H2 => r x y H2 Q) : tOp r ta tb σ H Q := h
theorem w_op1 {r : R2} (h : Ev ta σ H x) (k : ∀ H1, Ex H H1 → tb σ H1 fun y H2 => r x y H2 Q) : tOp r ta tb σ H Q := h H (Ex.refl H) _ k
theorem w_cons {tr : TA} {R : List V → Hp → Prop} (h : te σ H fun x H1 => tr σ H1 fun xs H2 => R (x :: xs) H2) : tCons te tr σ H R := h
theorem w_cons1 {tr : TA} {R : List V → Hp → Prop} (h : Ev te σ H x) (k : ∀ H1, Ex H H1 → tr σ H1 fun xs H2 => R (x :: xs) H2) : tCons te tr σ H R := h H (Ex.refl H) _ k
theorem w_nil {R : List V → Hp → Prop} (h : R [] H) : tNil σ H R := h
theorem EvA.go {ta : TA} {vs : List V} {R : List V → Hp → Prop} (h : EvA ta σ H vs) (k : ∀ H1, Ex H H1 → R vs H1) : ta σ H R := h H (Ex.refl H) R k
theorem w_lst {A : TA} (h : A σ H fun vs H1 => vs.length ≤ sizeLine ∧ ∀ p, H1 p = none → Q (.ref p) (upd H1 p (.lst vs))) : tLst A σ H Q := h
theorem w_par {i j : Nat} {A : TA} (h : A σ H fun vs H1 => ∃ v w, vs = [v, w] ∧ D.nx ((σ.set i (some v)).set j (some w)) H1) : tPar i j A D σ H := h
theorem wq_par {i j : Nat} {A : TA} (h : A σ H fun vs H1 => ∃ v w, vs = [v, w] ∧ tz D ((σ.set i (some v)).set j (some w)) H1) : tSeq (tPar i j A) tz D σ H := h
theorem wq_par3 {i j l : Nat} {A : TA} (h : A σ H fun vs H1 => ∃ u v w, vs = [u, v, w] ∧ tz D (((σ.set i (some u)).set j (some v)).set l (some w)) H1) : tSeq (tPar3 i j l A) tz D σ H := h
theorem w_f {sp : Sp} {W : L2.WX} {A : TA} {vs : List V} (h : EvA A σ H vs) (k : ∀ H1, Ex H H1 → sp vs H1 Q (WE W σ)) : tF sp W A σ H Q := h H (Ex.refl H) _ k
theorem w_cb {r : List V → Hp → VK → Prop} {A : TA} (h : A σ H fun vs H1 => r vs H1 Q) : tCB r A σ H Q := h
/-- an item of a list just made -/
theorem ix_new {xs : List V} {i : Nat} {p : Addr} {H1 : Hp} (hp : H1 p = some (.lst xs)) (hi : xs[i]? = some v) (q : Q v H1) : rIxL K (.ref p) (.int (i : Int)) H1 Q := by
  refine ⟨p, xs, i, v, rfl, rfl, sq_of hp, ?_, q⟩
  have h := (List.getElem?_eq_some_iff.mp hi).1
  unfold atI
  rw [ixN_nat h]
  exact hi
end
/-! the barrel of draws -/
structure BarAt (H : Hp) (b : Addr) (n : Nat) : Prop where
  ex : ∃ x y z : Int, H b = some (.lst [.int x, .int y, .int z]) ∧ 0 ≤ x ∧ 0 ≤ y ∧ y < 2 ^ 160 ∧ 0 ≤ z ∧ z ≤ n
theorem BarAt.le {H : Hp} {b : Addr} {n m : Nat} (h : BarAt H b n) (l : n ≤ m) : BarAt H b m := by
  obtain ⟨x, y, z, h1, h2, h3, h4, h5, h6⟩ := h.ex
  exact ⟨x, y, z, h1, h2, h3, h4, h5, by omega⟩
theorem BarAt.at {H H1 : Hp} {b : Addr} {n : Nat} (h : BarAt H b n) (e : ∀ o, H b = some o → H1 b = some o) : BarAt H1 b n := by
  obtain ⟨x, y, z, h1, h2⟩ := h.ex
  exact ⟨x, y, z, e _ h1, h2⟩
theorem BarAt.mono {H H1 : Hp} {b : Addr} {n : Nat} (h : BarAt H b n) (e : Ex H H1) : BarAt H1 b n := h.at (e b)
theorem BarAt.some {H : Hp} {b : Addr} {n : Nat} (h : BarAt H b n) : ∃ o, H b = some o := by
  obtain ⟨x, y, z, h1, h2⟩ := h.ex
  exact ⟨_, h1⟩
theorem BarAt.ne {H : Hp} {b p : Addr} {n : Nat} (h : BarAt H b n) (hp : H p = none) : b ≠ p := by
  obtain ⟨o, h⟩ := h.some
  exact ne_of_new h hp
/-- a draw -/
def spDraw : Sp := fun vs H Q _ => ∃ (b : Addr) (n : Nat) (many : Int), vs = [.ref b, .int many] ∧ BarAt H b n ∧ n ≤ 1000000000 ∧ 1 ≤ many ∧ many ≤ 10 ^ 40 ∧ ∀ (r : Nat) H1, Sm [b] H H1 → BarAt H1 b (n + 1) → (r : Int) < many → Q (.int (r : Int)) H1
theorem draw_go {A : TA} {W : L2.WX} {σ : L2.St} {H : Hp} {Q : VK} {b : Addr} {n : Nat} {many : Int} (hA : EvA A σ H [.ref b, .int many]) (hb : BarAt H b n) (hn : n ≤ 1000000000) (h1 : 1 ≤ many) (h2 : many ≤ 10 ^ 40)
    (k : ∀ (r : Nat) H1, Sm [b] H H1 → BarAt H1 b (n + 1) → (r : Int) < many → Q (.int (r : Int)) H1) : tF spDraw W A σ H Q :=
  w_f hA fun H1 e => ⟨b, n, many, rfl, hb.mono e, hn, h1, h2, fun r H2 s hb2 hr => k r H2 ((Sm.ex e).trans s) hb2 hr⟩
/-! ranges -/
theorem el_rg1 {ta : TE} {σ : L2.St} {H : Hp} {n : Int} (h : Ev ta σ H (.int n)) (h0 : 0 ≤ n ∧ n ≤ 100000) : EvL (tLstRg (tRg1 ta)) σ H ((List.range n.toNat).map fun (i : Nat) => V.int (i : Int)) := fun H1 e Q q => h H1 e _ fun H2 e2 => by
  refine ⟨n, rfl, RgOk.of_le (by omega) (by omega) (by omega) (by omega), fun p hp => ?_⟩
  have ev : rgV 0 n = (List.range n.toNat).map fun (i : Nat) => V.int (i : Int) := by
    unfold rgV
    rw [Int.sub_zero]
    exact List.map_congr_left fun i _ => by rw [Int.zero_add]
  rw [← ev] at q
  exact q p _ (fresh_back e2 hp) (e2.trans (Ex.new hp)) upd_same
/-- a list of one value n times -/
theorem el_rep {ta tb : TE} {σ : L2.St} {H : Hp} {n : Nat} {v : V} (h : EvL ta σ H [v]) (h2 : ∀ H1, Ex H H1 → Ev tb σ H1 (.int (n : Int))) (hn : n ≤ 100000) : EvL (tOp rRep ta tb) σ H (List.replicate n v) := fun H1 e Q q => h H1 e _ fun p H2 hp e2 h3 =>
  h2 H2 (e.trans e2) H2 (Ex.refl H2) _ fun H3 e3 => by
    refine ⟨p, n, [v], rfl, rfl, e3 p _ h3, by omega, by omega, ?_, fun q2 hq2 => ?_⟩
    · rw [Int.toNat_natCast]
      exact sz_of (by simp only [List.length_cons, List.length_nil]; omega)
    · have ev : (List.replicate (n : Int).toNat [v]).flatten = List.replicate n v := by
        rw [Int.toNat_natCast]; simp
      rw [ev]
      exact q q2 _ (fresh_back (e2.trans e3) hq2) ((e2.trans e3).trans (Ex.new hq2)) upd_same
/-! an item by a draw -/
theorem ixd_go {K : PySem.W.Frag} {A : TA} {W : L2.WX} {σ : L2.St} {H : Hp} {Q : VK} {b p : Addr} {n : Nat} {many : Int} {xs : List V} (hp : H p = some (.lst xs)) (hA : EvA A σ H [.ref b, .int many]) (hb : BarAt H b n) (hn : n ≤ 1000000000) (h1 : 1 ≤ many) (h2 : many ≤ 10 ^ 40)
    (hpb : p ≠ b) (hl : many ≤ xs.length) (k : ∀ (i : Nat) v H1, xs[i]? = some v → Sm [b] H H1 → BarAt H1 b (n + 1) → Q v H1) : tF spDraw W A σ H (fun y H1 => rIxL K (.ref p) y H1 Q) :=
  draw_go hA hb hn h1 h2 fun r H1 s1 hb1 hr => by
    have hi : r < xs.length := by omega
    exact ix_new (s1.at (fun z => hpb (List.mem_singleton.mp z)) hp) (List.getElem?_eq_getElem hi) (k r _ H1 (List.getElem?_eq_getElem hi) s1 hb1)
/-- the draw divided first -/
theorem ixf_go {K : PySem.W.Frag} {A : TA} {W : L2.WX} {σ : L2.St} {H : Hp} {Q : VK} {b p : Addr} {n c : Nat} {many : Int} {xs : List V} (hp : H p = some (.lst xs)) (hA : EvA A σ H [.ref b, .int many]) (hb : BarAt H b n) (hn : n ≤ 1000000000) (h1 : 1 ≤ many) (h2 : many ≤ 10 ^ 40)
    (hpb : p ≠ b) (hc : 0 < c ∧ c < 1000) (hl : many ≤ (xs.length * c : Nat)) (k : ∀ (i : Nat) v H1, xs[i]? = some v → Sm [b] H H1 → BarAt H1 b (n + 1) → Q v H1) : tOp (rI CDiv fun i j => .int (i / j)) (tF spDraw W A) (tC (.int (c : Int))) σ H (fun y H1 => rIxL K (.ref p) y H1 Q) :=
  w_op (draw_go hA hb hn h1 h2 fun r H1 s1 hb1 hr => by
    refine Ev.go ev_c fun H2 e2 => RV.go (z := .int ((r : Int) / c)) (rv_I ⟨by omega, by omega⟩) fun H3 e3 => ?_
    have hi : r / c < xs.length := by
      rw [Nat.div_lt_iff_lt_mul hc.1]; omega
    rw [← Int.natCast_ediv]
    exact ix_new (e3 p _ (e2 p _ (s1.at (fun z => hpb (List.mem_singleton.mp z)) hp))) (List.getElem?_eq_getElem hi) (k (r / c) _ H3 (List.getElem?_eq_getElem hi) (s1.trans (Sm.ex (e2.trans e3))) (hb1.mono (e2.trans e3))))
end Pk
end

section
/-! Objects of one of several classes; ridges. -/
namespace Pk
open PySem PySem.Spec PyProof.Rows L2 Evl
/-- a method of several classes: its promise -/
structure CalM {ι : Type} (P : Program) (w : World) (K : PySem.W.Frag) (mg : Str → Option Value) (base : Heap) (k : Nat) (CC : ι → Addr) (m : Str) (ks : List Str) (sp : ι → Sp) : Prop where
  ex : ∃ f : ι → Addr, (∀ i, Meth K (CC i) m (f i)) ∧ ∀ i, Fn P w K mg base k (f i) ks (sp i)
structure CalP {ι : Type} (P : Program) (w : World) (K : PySem.W.Frag) (mg : Str → Option Value) (base : Heap) (k : Nat) (CC : ι → Addr) (m : Str) (sp : ι → Sp) : Prop where
  ex : ∃ pa g : ι → Addr, (∀ i, PropOf K (CC i) m (pa i) (g i)) ∧ ∀ i, Fn P w K mg base k (g i) [] (sp i)
section
variable {ι : Type} {X : Cx} {k : Nat} {CC : ι → Addr} {sp : ι → Sp} {W : WX} {x m : Str} {p pos apos : Pos} {e o : Expr} {es : List Expr} {ta te tb : TE} {t tk : TA} {pl : Sem Bool}
def tMA (CC : ι → Addr) (m : Str) (sp : ι → Sp) (W : WX) (ta : TE) (t : TA) : TE := fun σ H Q => ∃ i, tM (CC i) m (sp i) W ta t σ H Q
theorem pe_mA (he : PE X o ta) (c : ∀ i, Cls X.K (CC i)) (M : CalM X.prog X.w X.K X.mg X.base k CC m [] sp) (hr : RoomG k X.A) (tks : Takes X W) (ha : PA X (e :: es) t)
    (hst : starEach (e :: es) X.env = (false, eval e X.env) :: starEach es X.env := by rfl) (hpl : (backTo pos (starEach es X.env)).any (·.1) = false := by rfl)
    (ht : eval (.Call (.Attribute o m apos) (e :: es) [] pos) X.env = (do
      let ov ← eval o X.env
      standAt apos.atName
      let (f, first) ← holding [ov] (getMethod ov m pl)
      callWith pos f first (backTo pos (starEach (e :: es) X.env)) (backToKw pos (keywordEach [] X.env))) := by rfl) :
    PE X (.Call (.Attribute o m apos) (e :: es) [] pos) (tMA CC m sp W ta t) := by
  obtain ⟨f, hm, F⟩ := M.ex
  exact PE.any fun i => pe_m he (c i) (hm i) (F i) hr tks ha hst hpl ht
theorem pe_mA0 (he : PE X o ta) (c : ∀ i, Cls X.K (CC i)) (M : CalM X.prog X.w X.K X.mg X.base k CC m [] sp) (hr : RoomG k X.A) (tks : Takes X W)
    (ht : eval (.Call (.Attribute o m apos) [] [] pos) X.env = (do
      let ov ← eval o X.env
      standAt apos.atName
      let (f, first) ← holding [ov] (getMethod ov m pl)
      callWith pos f first (backTo pos (starEach [] X.env)) (backToKw pos (keywordEach [] X.env))) := by rfl) :
    PE X (.Call (.Attribute o m apos) [] [] pos) (tMA CC m sp W ta tNil) := by
  obtain ⟨f, hm, F⟩ := M.ex
  exact PE.any fun i => pe_m0 he (c i) (hm i) (F i) hr tks ht
def tMKA (CC : ι → Addr) (m : Str) (sp : ι → Sp) (W : WX) (ta : TE) (t : TA) : TE := fun σ H Q => ∃ i, tMK (CC i) m (sp i) W ta t σ H Q
theorem pe_mKA {ks : List Str} {kws : List Keyword} (he : PE X o ta) (c : ∀ i, Cls X.K (CC i)) (M : CalM X.prog X.w X.K X.mg X.base k CC m ks sp) (hr : RoomG k X.A) (tks : Takes X W) (hkw : PK X kws tk)
    (hall : (backToKw pos (keywordEach kws X.env)).all (·.1.isSome) = true := by rfl) (hks : (backToKw pos (keywordEach kws X.env)).filterMap (·.1) = ks := by rfl) (hln : ∀ (σ : L2.St) (H : Hp) (Q : List V → Hp → Prop), tk σ H Q → tk σ H (fun zs H' => zs.length = ks.length ∧ Q zs H'))
    (hplain : ((backTo pos (starEach [] X.env)).any (·.1) || (backToKw pos (keywordEach kws X.env)).any (·.1.isNone)) = false := by rfl)
    (ht : eval (.Call (.Attribute o m apos) [] kws pos) X.env = (do
      let ov ← eval o X.env
      standAt apos.atName
      let (f, first) ← holding [ov] (getMethod ov m pl)
      callWith pos f first (backTo pos (starEach [] X.env)) (backToKw pos (keywordEach kws X.env))) := by rfl) :
    PE X (.Call (.Attribute o m apos) [] kws pos) (tMKA CC m sp W ta tk) := by
  obtain ⟨f, hm, F⟩ := M.ex
  exact PE.any fun i => pe_mK he (c i) (hm i) (F i) hr tks hkw hall hks hln hplain ht
def tPrA (CC : ι → Addr) (sp : ι → Sp) (ta : TE) : TE := fun σ H Q => ∃ i, tPr (CC i) (sp i) ta σ H Q
theorem pe_prA {nm : Str} (he : PE X e ta) (c : ∀ i, Cls X.K (CC i)) (M : CalP X.prog X.w X.K X.mg X.base k CC nm sp) (hr : RoomG (k + 1) X.A)
    (hab : attributeBase e nm X.env (eval e X.env) = eval e X.env := by rfl) : PE X (.Attribute e nm pos) (tPrA CC sp ta) := by
  obtain ⟨pa, g, hm, F⟩ := M.ex
  exact PE.any fun i => pe_pr he (c i) (hm i) (F i) hr hab
def tLenA (CC : ι → Addr) (sp : ι → Sp) (W : WX) (ta : TE) : TE := fun σ H Q => ∃ i, tLen (CC i) (sp i) W ta σ H Q
theorem pe_lenA (he : PE X e ta) (M : CalM X.prog X.w X.K X.mg X.base k CC "__len__" [] sp) (hr : RoomG (k + 1) X.A) (tks : Takes X W)
    (hm : X.mg "len" = none) (hg : Gl X "len" := by rfl) (hst : starEach [e] X.env = (false, eval e X.env) :: starEach [] X.env := by rfl) (hpl : (backTo pos (starEach [] X.env)).any (·.1) = false := by rfl) : PE X (.Call (.Name "len" p) [e] [] pos) (tLenA CC sp W ta) := by
  obtain ⟨f, hme, F⟩ := M.ex
  exact PE.any fun i => pe_len he (hme i).at_ (hme i).fn (F i) hr tks hm hg hst hpl
end
/-! reading -/
section
variable {K : PySem.W.Frag} {σ : L2.St} {H : Hp} {D : Ends} {tz : TS} {te : TE} {v : V} {a C dx : Addr} {fs : List (Str × V)} {f : Str}
theorem ev_fld (h : Ev te σ H (.ref a)) (ho : H a = some (.ins C dx fs)) (c : Cls K C) (n : NoAttr K C f) (l : fs.lookup f = some v) : Ev (tFld K te f) σ H v := fun H1 e Q q => h H1 e _ fun H2 e2 => ⟨a, C, dx, fs, v, rfl, (e.trans e2) a _ ho, c, n, l, q H2 e2⟩
theorem ev_con {u : Value} (h : Ev te σ H (.ref a)) (ho : H a = some (.ins C dx fs)) (c : Cls K C) (n : Con K C f v u) (l : fs.lookup f = none) : Ev (tCon K te f) σ H v := fun H1 e Q q => h H1 e _ fun H2 e2 => ⟨a, C, dx, fs, v, u, rfl, (e.trans e2) a _ ho, c, n, l, q H2 e2⟩
/-- l.pop() -/
theorem w_pop {Q : VK} {l : Addr} {xs : List V} {x : V} (hl : H l = some (.lst (xs ++ [x]))) (ha : Ev te σ H (.ref l)) (k : ∀ H1, Ex H H1 → Q x (upd H1 l (.lst xs))) : tBM0 K "list" rPop te σ H Q := ha H (Ex.refl H) _ fun H1 e1 =>
  ⟨Or.inl ⟨rfl, _, sq_of (e1 l _ hl)⟩, l, xs ++ [x], x, rfl, rfl, e1 l _ hl, by simp, by
    rw [List.dropLast_concat]; exact k H1 e1⟩
theorem s_pop {l : Addr} {xs : List V} {x : V} (hl : H l = some (.lst (xs ++ [x]))) (ha : Ev te σ H (.ref l)) (k : ∀ H1, Ex H H1 → D.nx σ (upd H1 l (.lst xs))) : tDrop (tBM0 K "list" rPop te) D σ H := w_pop hl ha k
theorem q_pop {l : Addr} {xs : List V} {x : V} (hl : H l = some (.lst (xs ++ [x]))) (ha : Ev te σ H (.ref l)) (k : ∀ H1, Ex H H1 → tz D σ (upd H1 l (.lst xs))) : tSeq (tDrop (tBM0 K "list" rPop te)) tz D σ H := s_pop (D := { D with nx := tz D }) hl ha k
/-- o.m(..), the object and the written values said -/
theorem m_go {ι : Type} {CC : ι → Addr} {m : Str} {sp : ι → Sp} {W : WX} {ta : TE} {t : TA} {Q : VK} {vs : List V} (i : ι) (h : Ev ta σ H (.ref a)) (ho : H a = some (.ins (CC i) dx fs)) (hf : fs.lookup m = none) (hA : EvA t σ H vs) (k : ∀ H1, Ex H H1 → sp i (.ref a :: vs) H1 Q (WE W σ)) : tMA CC m sp W ta t σ H Q :=
  ⟨i, h H (Ex.refl H) _ fun H1 e1 => ⟨a, dx, fs, rfl, e1 a _ ho, hf, hA H1 e1 _ fun H2 e2 => k H2 (e1.trans e2)⟩⟩
/-- the written values with their effects -/
theorem m_goE {ι : Type} {CC : ι → Addr} {m : Str} {sp : ι → Sp} {W : WX} {ta : TE} {t : TA} {Q : VK} (i : ι) (h : Ev ta σ H (.ref a)) (ho : H a = some (.ins (CC i) dx fs)) (hf : fs.lookup m = none) (k : ∀ H1, Ex H H1 → t σ H1 fun vs H2 => sp i (.ref a :: vs) H2 Q (WE W σ)) : tMA CC m sp W ta t σ H Q :=
  ⟨i, h H (Ex.refl H) _ fun H1 e1 => ⟨a, dx, fs, rfl, e1 a _ ho, hf, k H1 e1⟩⟩
theorem m_goK {ι : Type} {CC : ι → Addr} {m : Str} {sp : ι → Sp} {W : WX} {ta : TE} {t : TA} {Q : VK} {vs : List V} (i : ι) (h : Ev ta σ H (.ref a)) (ho : H a = some (.ins (CC i) dx fs)) (hf : fs.lookup m = none) (hA : EvA t σ H vs) (k : ∀ H1, Ex H H1 → sp i (.ref a :: vs) H1 Q (WE W σ)) : tMKA CC m sp W ta t σ H Q :=
  ⟨i, h H (Ex.refl H) _ fun H1 e1 => ⟨a, dx, fs, rfl, e1 a _ ho, hf, hA H1 e1 _ fun H2 e2 => k H2 (e1.trans e2)⟩⟩
theorem pr_go {ι : Type} {CC : ι → Addr} {sp : ι → Sp} {ta : TE} {Q : VK} (i : ι) (h : Ev ta σ H (.ref a)) (ho : H a = some (.ins (CC i) dx fs)) (k : ∀ H1, Ex H H1 → sp i [.ref a] H1 Q E0) : tPrA CC sp ta σ H Q :=
  ⟨i, h H (Ex.refl H) _ fun H1 e1 => ⟨a, dx, fs, rfl, e1 a _ ho, k H1 e1⟩⟩
theorem ev_pr {ι : Type} {CC : ι → Addr} {sp : ι → Sp} {ta : TE} (i : ι) (h : Ev ta σ H (.ref a)) (ho : H a = some (.ins (CC i) dx fs)) (hs : SpV (sp i) [.ref a] H v) : Ev (tPrA CC sp ta) σ H v := fun H1 e Q q =>
  ⟨i, h H1 e _ fun H2 e2 => ⟨a, dx, fs, rfl, (e.trans e2) a _ ho, hs H2 (e.trans e2) _ (fun H3 e3 => q H3 (e2.trans e3)) _⟩⟩
theorem el_pr {ι : Type} {CC : ι → Addr} {sp : ι → Sp} {ta : TE} {xs : List V} (i : ι) (h : Ev ta σ H (.ref a)) (ho : H a = some (.ins (CC i) dx fs)) (hs : SpL (sp i) [.ref a] H xs) : EvL (tPrA CC sp ta) σ H xs := fun H1 e Q q =>
  ⟨i, h H1 e _ fun H2 e2 => ⟨a, dx, fs, rfl, (e.trans e2) a _ ho, hs H2 (e.trans e2) _ (fun p H3 hp e3 h3 => q p H3 (fresh_back e2 hp) (e2.trans e3) h3) _⟩⟩
theorem ev_lenA {ι : Type} {CC : ι → Addr} {sp : ι → Sp} {W : WX} {ta : TE} {n : Int} (i : ι) (h : Ev ta σ H (.ref a)) (ho : H a = some (.ins (CC i) dx fs)) (hn : 0 ≤ n ∧ n < 2 ^ 63) (hs : SpV (sp i) [.ref a] H (.int n)) : Ev (tLenA CC sp W ta) σ H (.int n) := fun H1 e Q q =>
  ⟨i, h H1 e _ fun H2 e2 => ⟨a, dx, fs, rfl, (e.trans e2) a _ ho, hs H2 (e.trans e2) _ (fun H3 e3 => ⟨n, rfl, hn.1, hn.2, q H3 (e2.trans e3)⟩) _⟩⟩
end
/-! ridges -/
inductive RowsAt (M : List Addr) (H : Hp) : List Addr → List (List Int) → Prop
  | nil : RowsAt M H [] []
  | cons {a : Addr} {ns : List Int} {as : List Addr} {rows : List (List Int)} : a ∉ M → H a = some (.lst (ns.map V.int)) → RowsAt M H as rows → RowsAt M H (a :: as) (ns :: rows)
theorem RowsAt.frame {M M' : List Addr} {H H1 : Hp} (s : Sm M' H H1) (hM : ∀ x ∈ M', x ∈ M) : ∀ {as : List Addr} {rows : List (List Int)}, RowsAt M H as rows → RowsAt M H1 as rows
  | _, _, .nil => .nil
  | _, _, .cons h1 h2 h => .cons h1 (s.at (fun z => h1 (hM _ z)) h2) (h.frame s hM)
theorem RowsAt.len {M : List Addr} {H : Hp} : ∀ {as : List Addr} {rows : List (List Int)}, RowsAt M H as rows → as.length = rows.length
  | _, _, .nil => rfl
  | _, _, .cons _ _ h => by rw [List.length_cons, List.length_cons, h.len]
theorem RowsAt.weak {M M' : List Addr} {H : Hp} (hM : ∀ x ∈ M', x ∉ M → H x = none) : ∀ {as : List Addr} {rows : List (List Int)}, RowsAt M H as rows → RowsAt M' H as rows
  | _, _, .nil => .nil
  | _, _, .cons h1 h2 h => .cons (fun z => by
      have := hM _ z h1
      rw [h2] at this; cases this) h2 (h.weak hM)
theorem RowsAt.get {M : List Addr} {H : Hp} : ∀ {as : List Addr} {rows : List (List Int)} {i : Nat} {ns : List Int}, RowsAt M H as rows → rows[i]? = some ns → ∃ a, as[i]? = some a ∧ a ∉ M ∧ H a = some (.lst (ns.map V.int))
  | _, _, 0, _, .cons h1 h2 h, e => by cases e; exact ⟨_, rfl, h1, h2⟩
  | _, _, i + 1, _, .cons h1 h2 h, e => h.get (i := i) e
def Dom (M : List Addr) (H : Hp) : Prop := ∀ a ∈ M, H a ≠ none
theorem Dom.mono {M M' : List Addr} {H H1 : Hp} (d : Dom M H) (s : Sm M' H H1) : Dom M H1 := fun a h z => d a h (s.2 a z)
theorem Dom.new {M : List Addr} {H : Hp} {p : Addr} (d : Dom M H) (h : H p = none) : p ∉ M := fun z => d p z h
def flds (ad : Bool) (L S : Addr) : List (Str × V) := if ad then [("all_rows", .ref L), ("all_sums", .ref S)] else [("all_rows", .ref L)]
theorem flds_rows {ad : Bool} {L S : Addr} : (flds ad L S).lookup ("all_rows" : Str) = some (V.ref L) := by cases ad <;> rfl
theorem flds_sums {L S : Addr} : (flds true L S).lookup ("all_sums" : Str) = some (V.ref S) := rfl
/-- what the classes of ridges say -/
structure RCls (K : PySem.W.Frag) (CC : Bool → Addr) : Prop where
  cl : ∀ ad, Cls K (CC ad)
  rows : ∀ ad, NoAttr K (CC ad) "all_rows"
  sums : ∀ ad, NoAttr K (CC ad) "all_sums"
  most : ∀ ad, ∃ u, Con K (CC ad) "MOST" (.int 60) u
/-- a ridge: its rows and sums, the last ones first; nothing in M is a row -/
structure RAt (CC : Bool → Addr) (M : List Addr) (H : Hp) (r L S : Addr) (ad : Bool) (rows : List (List Int)) (sums : List Int) : Prop where
  obj : ∃ dx, H r = some (.ins (CC ad) dx (flds ad L S))
  lst : ∃ as, H L = some (.lst (as.reverse.map V.ref)) ∧ RowsAt M H as rows
  sm : ad = true → H S = some (.lst (sums.reverse.map V.int))
  len : sums.length = rows.length
  mem : r ∈ M ∧ L ∈ M ∧ S ∈ M
  ls : ad = true → L ≠ S
  rs : r ≠ S
  sl : ad = false → S = L
  sz : ∀ ns ∈ rows, ns.length ≤ 60
def pushS (sums : List Int) (d : Int) : List Int := (sums.headD 0 + d) :: sums
section
variable {CC : Bool → Addr} {M M' : List Addr} {H H1 : Hp} {r L S : Addr} {ad : Bool} {rows : List (List Int)} {sums : List Int}
theorem RAt.frame (h : RAt CC M H r L S ad rows sums) (s : Sm M' H H1) (hM : ∀ x ∈ M', x ∈ M) (hr : r ∉ M') (hL : L ∉ M') (hS : S ∉ M') : RAt CC M H1 r L S ad rows sums := by
  obtain ⟨dx, h1⟩ := h.obj
  obtain ⟨as, h2, h3⟩ := h.lst
  exact ⟨⟨dx, s.at hr h1⟩, ⟨as, s.at hL h2, h3.frame s hM⟩, fun z => s.at hS (h.sm z), h.len, h.mem, h.ls, h.rs, h.sl, h.sz⟩
theorem RAt.ex (h : RAt CC M H r L S ad rows sums) (e : Ex H H1) : RAt CC M H1 r L S ad rows sums := h.frame (M' := []) (Sm.ex e) (fun _ z => nomatch z) List.not_mem_nil List.not_mem_nil List.not_mem_nil
theorem RAt.rL (h : RAt CC M H r L S ad rows sums) : r ≠ L := by
  obtain ⟨dx, h1⟩ := h.obj
  obtain ⟨as, h2, h3⟩ := h.lst
  exact ne_of_kind h1 h2 (by simp)
theorem RAt.sub (h : RAt CC M H r L S ad rows sums) : ∀ x ∈ [L, S], x ∈ M := fun x hx => by
  rcases List.mem_cons.mp hx with rfl | hx
  · exact h.mem.2.1
  · rw [List.mem_singleton.mp hx]; exact h.mem.2.2
theorem RAt.rLS (h : RAt CC M H r L S ad rows sums) : r ∉ [L, S] := fun hx => by
  rcases List.mem_cons.mp hx with e | hx
  · exact h.rL e
  · exact h.rs (List.mem_singleton.mp hx)
/-- another row behind -/
theorem RAt.push {a : Addr} {as : List Addr} {ns : List Int} {d : Int} (h : RAt CC M H r L S ad rows sums) (s : Sm [L, S] H H1) (ha : a ∉ M) (hns : H a = some (.lst (ns.map V.int))) (hz : ns.length ≤ 60) (hR : RowsAt M H as rows)
    (hL : H1 L = some (.lst (as.reverse.map V.ref ++ [.ref a]))) (hS : ad = true → H1 S = some (.lst (sums.reverse.map V.int ++ [.int (sums.headD 0 + d)]))) : RAt CC M H1 r L S ad (ns :: rows) (pushS sums d) := by
  obtain ⟨dx, h1⟩ := h.obj
  refine ⟨⟨dx, s.at h.rLS h1⟩, ⟨a :: as, ?_, .cons ha (s.at (fun z => ha (h.sub _ z)) hns) (hR.frame s h.sub)⟩, fun z => ?_, by show (pushS sums d).length = _; unfold pushS; rw [List.length_cons, List.length_cons, h.len], h.mem, h.ls, h.rs, h.sl, fun x hx => ?_⟩
  · rw [hL, List.reverse_cons, List.map_append]; rfl
  · rw [hS z]; unfold pushS; rw [List.reverse_cons, List.map_append]; rfl
  · rcases List.mem_cons.mp hx with rfl | hx
    · exact hz
    · exact h.sz x hx
/-- the last row taken away -/
theorem RAt.pop {as : List Addr} {ns : List Int} {d : Int} (h : RAt CC M H r L S ad (ns :: rows) (d :: sums)) (s : Sm [L, S] H H1) (hR : RowsAt M H as rows)
    (hL : H1 L = some (.lst (as.reverse.map V.ref))) (hS : ad = true → H1 S = some (.lst (sums.reverse.map V.int))) : RAt CC M H1 r L S ad rows sums := by
  obtain ⟨dx, h1⟩ := h.obj
  exact ⟨⟨dx, s.at h.rLS h1⟩, ⟨as, hL, hR.frame s h.sub⟩, hS, by have := h.len; simpa using this, h.mem, h.ls, h.rs, h.sl, fun x hx => h.sz x (List.mem_cons_of_mem _ hx)⟩
theorem RAt.dS (h : RAt CC M H r L S ad rows sums) : H S ≠ none := by
  cases ad with
  | true => rw [h.sm rfl]; simp
  | false =>
    obtain ⟨as, h2, _⟩ := h.lst
    rw [h.sl rfl, h2]; simp
/-- the row now -/
theorem RAt.top {row : List Int} (h : RAt CC M H r L S ad (row :: rows) sums) : ∃ dx as a, H r = some (.ins (CC ad) dx (flds ad L S)) ∧ H L = some (.lst (((as.reverse : List Addr) ++ [a]).map V.ref)) ∧ a ∉ M ∧ H a = some (.lst (row.map V.int)) ∧ row.length ≤ 60 ∧ RowsAt M H as rows := by
  obtain ⟨dx, h1⟩ := h.obj
  obtain ⟨as, h2, h3⟩ := h.lst
  cases h3 with
  | cons n1 n2 n3 =>
    rw [List.reverse_cons] at h2
    exact ⟨dx, _, _, h1, h2, n1, n2, h.sz row (List.mem_cons_self ..), n3⟩
end
end Pk
end

section
/-! A ridge, the law's rows and sums so far, and the barrel. -/
namespace Pk
open PySem PySem.Spec PyProof.Rows L2 Evl
/-- the size of what a row may hold -/
def Sz (i : Int) : Prop := i.natAbs < 10 ^ 32
theorem szI {i : Int} (h : -100000000000000000000000000000000 < i) (h2 : i < 100000000000000000000000000000000) : Sz i := by
  have e : (10 : Nat) ^ 32 = 100000000000000000000000000000000 := by decide +kernel
  show i.natAbs < 10 ^ 32
  rw [e]; omega
theorem szL {l : List Int} (h : ∀ x ∈ l, Sz x) {i : Nat} : Sz (l.getD i 0) := by
  by_cases hi : i < l.length
  · exact h _ (getD_mem hi)
  · rw [List.getD_eq_getElem?_getD, List.getElem?_eq_none (by omega)]
    show (0 : Int).natAbs < 10 ^ 32
    decide
theorem peelN_mem {o : Int} : ∀ {k : Nat} {ns : List Int}, o ∈ peelN k ns → o ∈ ns
  | 0, _, h => h
  | k + 1, ns, h => peel1_mem (peelN_mem (k := k) h)
inductive PstAt (M : List Addr) (H : Hp) : List Addr → List (List Int) → List Int → Prop
  | nil : PstAt M H [] [] []
  | cons {t a : Addr} {ns : List Int} {d : Int} {ts : List Addr} {rows : List (List Int)} {sums : List Int} : t ∉ M → H t = some (.tup [.ref a, .int d]) → a ∉ M → H a = some (.lst (ns.map V.int)) → PstAt M H ts rows sums → PstAt M H (t :: ts) (ns :: rows) (d :: sums)
theorem PstAt.frame {M M' : List Addr} {H H1 : Hp} (s : Sm M' H H1) (hM : ∀ x ∈ M', x ∈ M) : ∀ {ts : List Addr} {rows : List (List Int)} {sums : List Int}, PstAt M H ts rows sums → PstAt M H1 ts rows sums
  | _, _, _, .nil => .nil
  | _, _, _, .cons h1 h2 h3 h4 h => .cons h1 (s.at (fun z => h1 (hM _ z)) h2) h3 (s.at (fun z => h3 (hM _ z)) h4) (h.frame s hM)
theorem PstAt.len {M : List Addr} {H : Hp} : ∀ {ts : List Addr} {rows : List (List Int)} {sums : List Int}, PstAt M H ts rows sums → ts.length = rows.length
  | _, _, _, .nil => rfl
  | _, _, _, .cons _ _ _ _ h => by rw [List.length_cons, List.length_cons, h.len]
/-- the law's list of rows and sums, the last ones first -/
structure PAt (M : List Addr) (H : Hp) (q : Addr) (rows : List (List Int)) (sums : List Int) : Prop where
  ex : ∃ ts, H q = some (.lst (ts.reverse.map V.ref)) ∧ PstAt M H ts rows sums
  mem : q ∈ M
section
variable {M M' : List Addr} {H H1 : Hp} {q : Addr} {rows : List (List Int)} {sums : List Int}
theorem PAt.frame (h : PAt M H q rows sums) (s : Sm M' H H1) (hM : ∀ x ∈ M', x ∈ M) (hq : q ∉ M') : PAt M H1 q rows sums := by
  obtain ⟨ts, h1, h2⟩ := h.ex
  exact ⟨⟨ts, s.at hq h1, h2.frame s hM⟩, h.mem⟩
theorem PAt.toEx (h : PAt M H q rows sums) (e : Ex H H1) : PAt M H1 q rows sums := h.frame (M' := []) (Sm.ex e) (fun _ z => nomatch z) List.not_mem_nil
theorem PAt.top {row : List Int} {d : Int} (h : PAt M H q (row :: rows) (d :: sums)) : ∃ ts t a, H q = some (.lst ((ts.reverse : List Addr).map V.ref ++ [.ref t])) ∧ t ∉ M ∧ H t = some (.tup [.ref a, .int d]) ∧ a ∉ M ∧ H a = some (.lst (row.map V.int)) ∧ PstAt M H ts rows sums := by
  obtain ⟨ts, h1, h2⟩ := h.ex
  cases h2 with
  | cons n1 n2 n3 n4 n5 =>
    rw [List.reverse_cons, List.map_append] at h1
    exact ⟨_, _, _, h1, n1, n2, n3, n4, n5⟩
theorem PAt.push {t a : Addr} {ts : List Addr} {row : List Int} {d : Int} (hm : q ∈ M) (h : PstAt M H1 ts rows sums) (h1 : H1 q = some (.lst ((ts.reverse : List Addr).map V.ref ++ [.ref t]))) (ht : t ∉ M) (h2 : H1 t = some (.tup [.ref a, .int d])) (ha : a ∉ M) (h3 : H1 a = some (.lst (row.map V.int))) : PAt M H1 q (row :: rows) (d :: sums) :=
  ⟨⟨t :: ts, by rw [h1, List.reverse_cons, List.map_append]; rfl, .cons ht h2 ha h3 h⟩, hm⟩
end
section
variable {K : PySem.W.Frag} {σ : L2.St} {H : Hp} {D : Ends} {tz : TS} {ta te : TE} {Q : VK}
/-- l.append(e), e with its effects -/
theorem w_app {l : Addr} {xs : List V} (ha : Ev ta σ H (.ref l)) (hl : H l = some (.lst xs)) (k : ∀ H1, Ex H H1 → te σ H1 fun y H2 => rAppend (.ref l) [y] H2 Q) : tBM K "list" rAppend ta (tCons te tNil) σ H Q :=
  ha H (Ex.refl H) _ fun H1 e1 => ⟨Or.inl ⟨rfl, xs, sq_of (e1 _ _ hl)⟩, k H1 e1⟩
theorem app_end {l : Addr} {xs : List V} {y : V} (hl : H l = some (.lst xs)) (hz : xs.length < 100000) (q : Q .non (upd H l (.lst (xs ++ [y])))) : rAppend (.ref l) [y] H Q := ⟨l, xs, y, rfl, rfl, hl, sz_lt hz, q⟩
theorem w_tup {A : TA} (h : A σ H fun vs H1 => vs.length ≤ sizeLine ∧ ∀ p, H1 p = none → Q (.ref p) (upd H1 p (.tup vs))) : tTup A σ H Q := h
end
/-! the state of a law's step -/
structure St (CC : Bool → Addr) (M : List Addr) (H : Hp) (b r L S q : Addr) (ad : Bool) (rows : List (List Int)) (sums : List Int) (n : Nat) : Prop where
  bar : BarAt H b n
  rat : RAt CC M H r L S ad rows sums
  pat : PAt M H q rows sums
  dom : Dom M H
  bM : b ∈ M
  b1 : b ∉ [r, L, S, q]
  q1 : q ∉ [r, L, S]
  zs : ∀ row ∈ rows, ∀ x ∈ row, Sz x
section
variable {CC : Bool → Addr} {M : List Addr} {H H1 : Hp} {b r L S q : Addr} {ad : Bool} {rows : List (List Int)} {sums : List Int} {n m : Nat}
theorem St.nb (h : St CC M H b r L S q ad rows sums n) : b ≠ r ∧ b ≠ L ∧ b ≠ S ∧ b ≠ q ∧ q ≠ r ∧ q ≠ L ∧ q ≠ S := by
  have h1 := h.b1
  have h2 := h.q1
  simp only [List.mem_cons, List.not_mem_nil, or_false, not_or] at h1 h2
  exact ⟨h1.1, h1.2.1, h1.2.2.1, h1.2.2.2, h2.1, h2.2.1, h2.2.2⟩
theorem one_sub {x : Addr} {M : List Addr} (h : x ∈ M) : ∀ y ∈ [x], y ∈ M := fun y hy => by rw [List.mem_singleton.mp hy]; exact h
theorem not_one {x y : Addr} (h : x ≠ y) : x ∉ [y] := fun z => h (List.mem_singleton.mp z)
theorem not_two {x y z : Addr} (h : x ≠ y) (h2 : x ≠ z) : x ∉ [y, z] := fun w => by
  rcases List.mem_cons.mp w with w | w
  · exact h w
  · exact h2 (List.mem_singleton.mp w)
theorem RAt.one (h : RAt CC M H r L S ad rows sums) {x : Addr} (s : Sm [x] H H1) (hx : x ∈ M) (h1 : r ≠ x) (h2 : L ≠ x) (h3 : S ≠ x) : RAt CC M H1 r L S ad rows sums :=
  h.frame s (one_sub hx) (not_one h1) (not_one h2) (not_one h3)
theorem St.draw (h : St CC M H b r L S q ad rows sums n) (s : Sm [b] H H1) (hb : BarAt H1 b m) : St CC M H1 b r L S q ad rows sums m := by
  obtain ⟨n1, n2, n3, n4, n5, n6, n7⟩ := h.nb
  exact ⟨hb, h.rat.one s h.bM n1.symm n2.symm n3.symm, h.pat.frame s (one_sub h.bM) (not_one n4.symm), h.dom.mono s, h.bM, h.b1, h.q1, h.zs⟩
theorem St.toEx (h : St CC M H b r L S q ad rows sums n) (e : Ex H H1) : St CC M H1 b r L S q ad rows sums n := h.draw (Sm.ex e) (h.bar.mono e)
theorem St.le (h : St CC M H b r L S q ad rows sums n) (l : n ≤ m) : St CC M H b r L S q ad rows sums m := ⟨h.bar.le l, h.rat, h.pat, h.dom, h.bM, h.b1, h.q1, h.zs⟩
/-- after a change of the list of rows and one of the ridge -/
theorem St.both {H2 : Hp} {rows2 : List (List Int)} {sums2 : List Int} (h : St CC M H b r L S q ad rows sums n) (s1 : Sm [q] H H1) (hp : PAt M H1 q rows2 sums2) (s2 : Sm [L, S] H1 H2) (hR : RAt CC M H2 r L S ad rows2 sums2) (hz : ∀ row ∈ rows2, ∀ x ∈ row, Sz x) : St CC M H2 b r L S q ad rows2 sums2 n := by
  obtain ⟨n1, n2, n3, n4, n5, n6, n7⟩ := h.nb
  refine ⟨(h.bar.at fun o ho => s1.at (not_one n4) ho).at fun o ho => s2.at (not_two n2 n3) ho, hR, hp.frame s2 hR.sub (not_two n6 n7), (h.dom.mono s1).mono s2, h.bM, h.b1, h.q1, hz⟩
theorem RAt.few (h : RAt CC M H r L S ad rows sums) {k : Nat} (hk : rows.length ≤ k) : sums.length ≤ k := by rw [h.len]; exact hk
/-- all that a step may change -/
theorem sm_b (s : Sm [b] H H1) : Sm [b, L, S, q] H H1 := s.mono fun x hx => by rw [List.mem_singleton.mp hx]; exact List.mem_cons_self ..
theorem sm_q (s : Sm [q] H H1) : Sm [b, L, S, q] H H1 := s.mono fun x hx => by rw [List.mem_singleton.mp hx]; simp
theorem sm_LS (s : Sm [L, S] H H1) : Sm [b, L, S, q] H H1 := s.mono fun x hx => by
  rcases List.mem_cons.mp hx with rfl | hx
  · simp
  · rw [List.mem_singleton.mp hx]; simp
end
section
variable {K : PySem.W.Frag} {CC : Bool → Addr} {M : List Addr} {σ : L2.St} {H H1 : Hp} {D : Ends} {tz : TS} {ta te td : TE} {Q : VK} {b r L S q : Addr} {ad : Bool} {rows : List (List Int)} {sums : List Int} {n m : Nat}
theorem wq_asgG {g : TG} (h : te σ H fun v H1 => g v σ H1 fun σ2 H2 => tz D σ2 H2) : tSeq (tAsg te g) tz D σ H := h
theorem w_asgG {g : TG} (h : te σ H fun v H1 => g v σ H1 D.nx) : tAsg te g D σ H := h
/-- past.append((row, total)) -/
theorem app_go {nw : List Int} {d2 : Int} (h : PAt M H q rows sums) (hD : Dom M H) (hq : Ev ta σ H (.ref q)) (he : ∀ H1, Ex H H1 → EvL te σ H1 (nw.map V.int)) (hd : ∀ H1, Ex H H1 → Ev td σ H1 (.int d2)) (hl : rows.length < 90000)
    (k : ∀ H1, Sm [q] H H1 → PAt M H1 q (nw :: rows) (d2 :: sums) → Q .non H1) : tBM K "list" rAppend ta (tCons (tTup (tCons te (tCons td tNil))) tNil) σ H Q := by
  obtain ⟨ts, h1, h2⟩ := h.ex
  refine w_app hq h1 fun H1 e1 => w_tup (w_cons (EvL.go (he H1 e1) fun p H2 hp e2 hp2 => w_cons (Ev.go (hd H2 (e1.trans e2)) fun H3 e3 => w_nil ⟨show 2 ≤ sizeLine by decide, fun t ht => ?_⟩)))
  have e03 := (e1.trans e2).trans e3
  have hqt : q ≠ t := ne_of_new (e03 _ _ h1) ht
  have hpt : p ≠ t := ne_of_new (e3 _ _ hp2) ht
  have hpq : p ≠ q := ne_of_new' (e1 _ _ h1) hp
  have hpM := hD.new (fresh_back e1 hp)
  have htM := hD.new (fresh_back e03 ht)
  refine app_end (by rw [upd_ne hqt]; exact e03 _ _ h1) (by rw [List.length_map, List.length_reverse, h2.len]; omega) ?_
  have s : Sm [q] H (upd (upd H3 t (.tup [.ref p, .int d2])) q (.lst ((ts.reverse : List Addr).map V.ref ++ [.ref t]))) := (Sm.ex (e03.trans (Ex.new ht))).mut (.inl (List.mem_singleton.mpr rfl))
  refine k _ s (PAt.push h.mem (h2.frame s (one_sub h.mem)) upd_same htM (by rw [upd_ne hqt.symm, upd_same]) hpM ?_)
  rw [upd_ne hpq, upd_ne hpt]; exact e3 _ _ hp2
/-- .. a row that is there -/
theorem app_go2 {nw : List Int} {d2 : Int} {p : Addr} (h : PAt M H q rows sums) (hD : Dom M H) (hq : Ev ta σ H (.ref q)) (hpM : p ∉ M) (hp2 : H p = some (.lst (nw.map V.int))) (he : ∀ H1, Ex H H1 → Ev te σ H1 (.ref p)) (hd : ∀ H1, Ex H H1 → Ev td σ H1 (.int d2)) (hl : rows.length < 90000)
    (k : ∀ H1, Sm [q] H H1 → PAt M H1 q (nw :: rows) (d2 :: sums) → Q .non H1) : tBM K "list" rAppend ta (tCons (tTup (tCons te (tCons td tNil))) tNil) σ H Q := by
  obtain ⟨ts, h1, h2⟩ := h.ex
  refine w_app hq h1 fun H1 e1 => w_tup (w_cons (Ev.go (he H1 e1) fun H2 e2 => w_cons (Ev.go (hd H2 (e1.trans e2)) fun H3 e3 => w_nil ⟨show 2 ≤ sizeLine by decide, fun t ht => ?_⟩)))
  have e03 := (e1.trans e2).trans e3
  have hqt : q ≠ t := ne_of_new (e03 _ _ h1) ht
  have hpt : p ≠ t := ne_of_new (e03 _ _ hp2) ht
  have hpq : p ≠ q := fun z => hpM (z ▸ h.mem)
  have htM := hD.new (fresh_back e03 ht)
  refine app_end (by rw [upd_ne hqt]; exact e03 _ _ h1) (by rw [List.length_map, List.length_reverse, h2.len]; omega) ?_
  have s : Sm [q] H (upd (upd H3 t (.tup [.ref p, .int d2])) q (.lst ((ts.reverse : List Addr).map V.ref ++ [.ref t]))) := (Sm.ex (e03.trans (Ex.new ht))).mut (.inl (List.mem_singleton.mpr rfl))
  refine k _ s (PAt.push h.mem (h2.frame s (one_sub h.mem)) upd_same htM (by rw [upd_ne hqt.symm, upd_same]) hpM ?_)
  rw [upd_ne hpq, upd_ne hpt]; exact e03 _ _ hp2
theorem RAt.addM (h : RAt CC M H r L S ad rows sums) (hq : H q = none) : RAt CC (q :: M) H r L S ad rows sums := by
  obtain ⟨as, h2, h3⟩ := h.lst
  refine ⟨h.obj, ⟨as, h2, h3.weak fun x hx hn => ?_⟩, h.sm, h.len, ⟨List.mem_cons_of_mem _ h.mem.1, List.mem_cons_of_mem _ h.mem.2.1, List.mem_cons_of_mem _ h.mem.2.2⟩, h.ls, h.rs, h.sl, h.sz⟩
  rcases List.mem_cons.mp hx with rfl | hx
  · exact hq
  · exact absurd hx hn
end
end Pk
end

section
/-! repr of rows -/
namespace Pk
open PySem PySem.Spec PyProof.Rows L2 Evl
theorem int_len {i : Int} (h : Sz i) : (PyData.shown (.int i)).length ≤ 100 := by
  have e : (10 : Nat) ^ 32 = 100000000000000000000000000000000 := by decide +kernel
  have h : i.natAbs < 10 ^ 32 := h
  have k : ∀ n : Nat, n < 10 ^ 32 → (Str.ofString (toString (n : Int))).length ≤ 32 := fun n hn => PyProof.Rows.toString_length_le (by omega) (by decide) (by exact_mod_cast hn)
  show (Str.ofString (toString i)).length ≤ 100
  cases i with
  | ofNat n => exact Nat.le_trans (k n h) (by decide)
  | negSucc n =>
    have h2 := k (n + 1) (by simpa using h)
    have e1 : toString (Int.negSucc n) = "-" ++ toString (n + 1) := rfl
    have e2 : toString ((n + 1 : Nat) : Int) = toString (n + 1) := rfl
    rw [e2] at h2
    rw [e1]
    rw [PyProof.Rows.ofString_length] at h2 ⊢
    rw [String.toList_append, List.length_append]
    have e3 : ("-" : String).toList.length = 1 := rfl
    omega
theorem show_ints : ∀ {ns : List Int}, (∀ x ∈ ns, Sz x) → PyData.showableAll (ns.map PyData.int) = true
  | [], _ => rfl
  | n :: ns, h => by
    rw [List.map_cons, PyData.showableAll, show_ints fun x hx => h x (List.mem_cons_of_mem _ hx), Bool.and_true, PyData.showable]
    have h1 : n.natAbs < 10 ^ 32 := h n (List.mem_cons_self ..)
    refine decide_eq_true ?_
    by_cases h0 : n.natAbs = 0
    · rw [h0]; decide
    · exact Nat.lt_trans ((Nat.log2_lt h0).mpr (Nat.lt_trans h1 (show 10 ^ 32 < 2 ^ 107 by decide +kernel))) (by decide)
theorem short_ints : ∀ {ns : List Int}, (∀ x ∈ ns, Sz x) → PyData.leavesShortAll 100 (ns.map PyData.int) = true
  | [], _ => rfl
  | n :: ns, h => by
    rw [List.map_cons, PyData.leavesShortAll, short_ints fun x hx => h x (List.mem_cons_of_mem _ hx), Bool.and_true, PyData.leavesShort]
    exact decide_eq_true (int_len (h n (List.mem_cons_self ..)))
theorem bulk_ints : ∀ ns : List Int, PyData.bulkAll (ns.map PyData.int) = ns.length
  | [] => rfl
  | n :: ns => by rw [List.map_cons, PyData.bulkAll, bulk_ints ns, PyData.bulk, List.length_cons]; omega
theorem nodict_ints : ∀ ns : List Int, PyData.hasDictAll (ns.map PyData.int) = false
  | [] => rfl
  | n :: ns => by rw [List.map_cons, PyData.hasDictAll, nodict_ints ns]; rfl
def rp (ns : List Int) : Str := (PyData.list (ns.map PyData.int)).shown
theorem rp_len {ns : List Int} (h : ∀ x ∈ ns, Sz x) (hz : ns.length ≤ 100) : (rp ns).length ≤ sizeLine := by
  have e := PyData.shown_le_bulk 100 (by decide) (.list (ns.map PyData.int)) (by rw [PyData.leavesShort]; exact short_ints h)
  rw [PyData.bulk, bulk_ints] at e
  have : (100 + 2) * ns.length + 100 ≤ 100000 := by omega
  exact Nat.le_trans e (sz_of this)
theorem rc_repr {K : PySem.W.Frag} {H : Hp} {a : Addr} {ns : List Int} (hS : SqL K H a (ns.map V.int)) (h : ∀ x ∈ ns, Sz x) (hz : ns.length ≤ 100) : RC (rRepr K) [.ref a] H (.str (rp ns)) := fun H1 e Q q =>
  ⟨.ref a, a, _, rfl, rfl, .lst (ex_l e hS) (dpAll_ints ns), by rw [PyData.showable]; exact show_ints h, by rw [PyData.hasDict]; exact nodict_ints ns, by rw [PyData.depth, depth_ints]; decide, rp_len h hz, q H1 (Ex.refl H1)⟩
/-! times are small -/
theorem tmSet_bd {left : List Nat} {n B : Int} (h0 : 0 ≤ n) (hn : n ≤ B) : ∀ (spots : List Nat) (fd : List Int), (∀ x ∈ fd, 0 ≤ x ∧ x ≤ B) → ∀ x ∈ tmSet left n fd spots, 0 ≤ x ∧ x ≤ B
  | [], fd, h => h
  | s :: ss, fd, h => tmSet_bd h0 hn ss (fd.set (left.getD s 0) n) fun x hx => by
      rcases List.mem_or_eq_of_mem_set hx with hx | rfl
      · exact h x hx
      · exact ⟨h0, hn⟩
theorem tmGo_bd (ns : List Int) {B : Int} : ∀ (k : Nat) (left : List Nat) (fd : List Int) (n : Int), 0 ≤ n → n + k ≤ B → (∀ x ∈ fd, 0 ≤ x ∧ x ≤ B) → ∀ x ∈ tmGo ns k left fd n, 0 ≤ x ∧ x ≤ B
  | 0, _, _, _, _, _, h => h
  | k + 1, left, fd, n, h0, hB, h => by
    unfold tmGo
    split
    · exact h
    · exact tmGo_bd ns k _ _ (n + 1) (by omega) (by omega) (tmSet_bd (by omega) (by omega) _ _ h)
theorem times_bd (ns : List Int) : ∀ x ∈ timesIn ns, 0 ≤ x ∧ x ≤ ns.length := tmGo_bd ns _ _ _ _ (Int.le_refl _) (by omega) fun x hx => by
  rw [(List.mem_replicate.mp hx).2]; omega
theorem times_sz {ns : List Int} (h : ns.length ≤ 1000) : ∀ x ∈ timesIn ns, Sz x := fun x hx => by
  have := times_bd ns x hx
  exact szI (by omega) (by omega)
theorem rv_neSame {H : Hp} {s : Str} : RV rNe (.str s) (.str s) H (.bl false) := fun H1 _ _ q => ⟨rfl, by
  rw [decide_eq_true rfl]; exact q H1 (Ex.refl H1)⟩
theorem rv_eqSame {H : Hp} {s : Str} : RV rEq (.str s) (.str s) H (.bl true) := fun H1 _ _ q => ⟨rfl, by
  rw [decide_eq_true rfl]; exact q H1 (Ex.refl H1)⟩
end Pk
end

section
/-! A law's call, its def told by FnB (the caller's guards are none). -/
namespace Pk
open PySem PySem.Spec PyProof.Rows L2
/-- the heap with the script alone tracked -/
theorem end_core {P : Program} {w : World} {K : PySem.W.Frag} {mg mb : Str → Option Value} {k : Nat} {fa a : Addr} {fd : FuncData} {x : Str} {sp : Sp} {s₁ : Shared} {vs : List Value} {H : Hp}
    (KX : K.In s₁.heap) (hns : s₁.heap.Ns mainGlobals mg) (hb : s₁.heap.Ns builtinsNs mb) (hbb : ∀ x : Str, x ≠ "__name__" → mb x = bootBuiltins x) (hlim : s₁.heap.NoLimit) (hg : s₁.gens = #[])
    (ha : s₁.heap.get? a = some { cls := .type "list", data := .seq vs.toArray }) (hr : RoomG k callerA) (F : ∀ base : Heap, FnB P w K mg base k fa fd [x] sp) (hbind : ∀ (s : Shared) (u : Value), BindsTo s fd ⟨[u], []⟩ [(x, u)])
    (hsp : sp [.ref a] H (fun v _ => v = .bl true) fun _ _ _ => False)
    (hok : HOk P w H s₁.heap) (hA : ∀ b, H b ≠ none → b = a ∧ K.lookup a = none) (hO : Only H) :
    codeAny (model P w) callerA (.call (.ref fa) ⟨[.ref a], []⟩) (fun r s' => r = .ok (.ret (.bool true)) ∧ OldK s₁.heap s'.heap ∧ s'.os = s₁.os ∧ AllBare s'.gens) s₁ := by
  have tr : ∀ {b : Addr} {u : HO}, H b = some u → b = a ∧ K.lookup a = none := fun {b u} e => hA b (by rw [e]; simp)
  have un : ∀ {b : Addr}, (∀ u, H b = some u → False) → H b = none := fun {b} h => by
    cases e : H b with
    | none => rfl
    | some u => exact (h u e).elim
  have keep : ∀ {b : Addr} {o : Obj}, s₁.heap.get? b = some o → H b = none → (hidT s₁.heap H).get? b = some o := fun e n => hidT_get e n
  have names : ∀ {b : Addr} {m : Str → Option Value}, s₁.heap.Ns b m → (hidT s₁.heap H).Ns b m := fun {b m} ⟨o, es, ep, e, d, z⟩ => ⟨o, es, ep, keep e (un fun u q => by
    obtain ⟨rfl, _⟩ := tr q
    rw [ha] at e
    cases e
    cases (show Data.seq vs.toArray _ = Data.dict es ep from d)), d, z⟩
  have KB : K.In (hidT s₁.heap H) := fun b o e => keep (KX b o e) (un fun u q => by
    obtain ⟨rfl, z⟩ := tr q
    rw [z] at e; cases e)
  obtain ⟨mc, c1, c2⟩ := hlim
  have e0 : Env0 P w K mg (hidT s₁.heap H) callerA [] s₁ H := ⟨rfl, ⟨KB, names hns, ⟨mb, names hb, hbb⟩, ⟨mc, names c1, c2⟩⟩, fun b o e => of_hidT e, Nat.le_of_eq (hidT_size _ _), trivial, fun b z => (by cases z), hok, .of_eq hg⟩
  refine codeAny_mono ((F (hidT s₁.heap H)).run callerA [] s₁ H ⟨[.ref a], []⟩ [.ref a] [.ref a] _ _ hr e0 (hbind s₁ (.ref a)) (.cons rfl .nil) hsp) fun r s' h => ?_
  cases r with
  | error e =>
    obtain ⟨_, _, _, _, _, _, _, _, _, _, _, _, z⟩ := (show L2.CX P w [] H s₁ (fun _ _ _ => False) e s' from h)
    exact z.elim
  | ok fl =>
    cases fl with
    | ret u =>
      obtain ⟨v, H', os, bare, kp, hok', rv, q⟩ := h
      obtain rfl : v = .bl true := q
      obtain rfl : u = Value.bool true := rv
      refine ⟨rfl, OldK.of_keep fun b o e => ?_, os, bare⟩
      rcases hO b with z | ⟨ob, xs, z⟩
      · exact kp.keep b o e z (fun y => (by cases y)) (by simp)
      · have z2 := kp.frzs b ob _ z
        have g1 := (hok b _ z).1
        have g2 := (hok' b _ z2).1
        rw [e] at g1
        cases g1
        exact g2
    | next => exact h.elim
    | brk => exact h.elim
    | cont => exact h.elim
/-- the call of a law -/
theorem end_call {P : Program} {w : World} {K : PySem.W.Frag} {mg mb : Str → Option Value} {k : Nat} {fa a : Addr} {fd : FuncData} {x : Str} {sp : Sp} {s₁ : Shared} {vs : List Value} {ns : List Int}
    (KX : K.In s₁.heap) (hns : s₁.heap.Ns mainGlobals mg) (hb : s₁.heap.Ns builtinsNs mb) (hbb : ∀ x : Str, x ≠ "__name__" → mb x = bootBuiltins x) (hlim : s₁.heap.NoLimit) (hg : s₁.gens = #[])
    (ha : s₁.heap.get? a = some { cls := .type "list", data := .seq vs.toArray }) (hi : IntsAre vs ns) (hl : ns.length ≤ sizeLine) (hr : RoomG k callerA) (F : ∀ base : Heap, FnB P w K mg base k fa fd [x] sp) (hbind : ∀ (s : Shared) (u : Value), BindsTo s fd ⟨[u], []⟩ [(x, u)])
    (hsp : ∀ H : Hp, SqL K H a (ns.map V.int) → sp [.ref a] H (fun v _ => v = .bl true) fun _ _ _ => False) :
    codeAny (model P w) callerA (.call (.ref fa) ⟨[.ref a], []⟩) (fun r s' => r = .ok (.ret (.bool true)) ∧ OldK s₁.heap s'.heap ∧ s'.os = s₁.os ∧ AllBare s'.gens) s₁ := by
  have rv := vals_ints hi
  have lenV := hi.length
  cases hk : K.lookup a with
  | some o =>
    have e := KX a o hk
    rw [ha] at e
    cases e
    exact end_core (H := fun _ => none) KX hns hb hbb hlim hg ha hr F hbind (hsp _ (.inr ⟨_, vs.toArray, _, hk, rfl, rfl, rfl, by rw [List.size_toArray, lenV]; exact hl, by simpa using rv⟩)) (fun b u z => nomatch z) (fun b z => absurd rfl z) fun _ => .inl rfl
  | none =>
    have at_ : ∀ b u, (if b = a then some (HO.frz { cls := .type "list", data := .seq vs.toArray } (.lst (ns.map V.int))) else none) = some u → b = a ∧ u = .frz { cls := .type "list", data := .seq vs.toArray } (.lst (ns.map V.int)) := fun b u z => by
      by_cases h : b = a
      · rw [if_pos h] at z; exact ⟨h, (Option.some.inj z).symm⟩
      · rw [if_neg h] at z; cases z
    refine end_core (H := fun b => if b = a then some (.frz { cls := .type "list", data := .seq vs.toArray } (.lst (ns.map V.int))) else none) KX hns hb hbb hlim hg ha hr F hbind (hsp _ (.inl (.inr ⟨{ cls := .type "list", data := .seq vs.toArray }, if_pos rfl⟩))) (fun b u z => ?_) (fun b z => ?_) fun b => ?_
    · obtain ⟨rfl, rfl⟩ := at_ b u z
      exact ⟨ha, by rw [List.length_map]; exact hl, vs, _, rv, ha⟩
    · by_cases h : b = a
      · exact ⟨h, hk⟩
      · exact absurd (if_neg h) z
    · by_cases h : b = a
      · exact .inr ⟨_, _, if_pos h⟩
      · exact .inl (if_neg h)
/-- THE END: what a head leaves, from the law's promise -/
theorem walk_ofG {l : PySem.W.OpenLaw} {n k : Nat} {q : Program} {loose : List Str} {XP : (Str → Option Value) → Heap → Prop} {YP : World → Heap → Prop} {d : DefRec} {x : Str}
    (hn : l.most = some n) (hn2 : n ≤ sizeLine) (hdf : d.params.defaults = []) (hr : RoomG k callerA)
    (F : ∀ (w : World) (mg : Str → Option Value) (fa : Addr) (h : Heap), YP w h → h.Ns mainGlobals mg → mg d.name = some (.ref fa) →
      ∃ (K : PySem.W.Frag) (fd : FuncData) (sp : Sp), K.In h ∧ (∀ (s : Shared) (u : Value), BindsTo s fd ⟨[u], []⟩ [(x, u)]) ∧
        (∀ (H : Hp) (a : Addr) (ns : List Int), ns.length ≤ n → (∀ z ∈ ns, Builtin.Int.intBits z ≤ 1048576) → SqL K H a (ns.map V.int) → sp [.ref a] H (fun v _ => v = .bl true) fun _ _ _ => False) ∧
        ∀ base : Heap, FnB l.prog w K mg base k fa fd [x] sp) :
    PySem.W.WalkO q loose XP YP l.row.toRowW d [] (fun f vs => PySem.call f vs) := by
  refine Att.attach_callB hn hdf fun w s₀ s₁ mg mb fa o pm cd doc a vs ns G Y ho hd hcd hmg hobj hints hlen hbits hg => ?_
  obtain ⟨K, fd, sp, KX, hb, hsp, hF⟩ := F w mg fa _ Y G.T.g hmg
  exact end_call KX G.T.g G.T.b G.T.builtins G.T.nolimit hg hobj hints (Nat.le_trans hlen hn2) hr hF hb fun H hS => hsp H a ns hlen hbits hS
theorem roomG_caller : RoomG 40 callerA := ⟨⟨rfl, by decide +kernel, by decide +kernel⟩, rfl⟩
end Pk
end

section
/-! The head's facts: names, defs at any address, methods with a __class__ cell, further checks. -/
namespace Pk
open PySem PySem.Spec PyProof.Rows PySem.W L2 He He5
/-! ### methods with a __class__ cell -/
abbrev FnWS : Type := Option (Str × Str × Arguments × FuncBody × Scope × Addr × List Str × Addr)
def fnS (K : Frag) (a : Addr) : FnWS := match K.lookup a with
  | some ⟨_, _, .func fd, _⟩ => some (fd.name, fd.qualname, fd.params, fd.body, fd.scope, fd.globals, fd.closure.map (·.1), fd.builtins)
  | _ => none
structure SupD where
  at_ : Frag → Addr
  name : Str
  qual : Str
  params : Arguments
  body : List Stmt
  scope : Scope
  cls : Frag → Addr
  file : Str
  dfl : List Dv := []
def SupD.val (d : SupD) : FnWS := some (d.name, d.qual, d.params, .stmts d.body, d.scope, mainGlobals, ["__class__"], builtinsNs)
def SupD.dvs (K : Frag) (d : SupD) : List V := d.dfl.map (Dv.v K)
def cellB (K : Frag) (cl : List (Str × Addr)) (D : Addr) : Bool := match cl with
  | [(_, cc)] => (match K.lookup cc with
    | some ⟨_, _, .cell (some (.ref E)), _⟩ => decide (E = D)
    | _ => false)
  | _ => false
def fileB (K : Frag) (cd : Value) (file : Str) : Bool := match cd with
  | .ref c => (match K.lookup c with
    | some ⟨_, _, .fields vs, _⟩ => (match (vs[2]? : Option Value) with
      | some (Value.str f _) => file == f
      | _ => false)
    | _ => false)
  | _ => false
def SupD.ok (K : Frag) (d : SupD) : Bool := keepIn K (.ref (d.at_ K)) && ((clsIn K (d.cls K)).isSome && (match K.lookup (d.at_ K) with
  | some ⟨_, _, .func fd, _⟩ => codeIn K fd.code d.qual && (dflB K fd.defaults (d.dvs K) && (cellB K fd.closure (d.cls K) && fileB K fd.code d.file))
  | _ => false))
theorem SupD.funS {K : Frag} {P : Program} {d : SupD} (hf : P.main.file = d.file) (e : fnS K (d.at_ K) = d.val) (c : d.ok K = true) : ∃ fd cc cda, FunS P K d.name d.qual d.params d.body d.scope (d.dvs K) (d.at_ K) fd (d.cls K) cc cda := by
  obtain ⟨kp, c⟩ := ba c
  obtain ⟨cl, c2⟩ := ba c
  unfold fnS at e
  cases q : K.lookup (d.at_ K) with
  | none =>
    rw [q] at c2
    cases c2
  | some o =>
    obtain ⟨oc, od, dt, osl⟩ := o
    rw [q] at c2 e
    cases dt with
    | func fd =>
      obtain ⟨n1, n2, n3, n4, n5, n6, n7, n8, n9, n10, n11, n12, n13, n14, n15⟩ := fd
      have e2 : (some (n1, n2, n3, n4, n5, n6, n7.map (·.1), n15) : FnWS) = (some (d.name, d.qual, d.params, FuncBody.stmts d.body, d.scope, mainGlobals, [("__class__" : Str)], builtinsNs) : FnWS) := e
      simp only [Option.some.injEq, Prod.mk.injEq] at e2
      obtain ⟨h1, h2, h3, h4, h5, h6, h7, h8⟩ := e2
      subst h1 h2 h3 h4 h5 h6 h8
      have c3 : (codeIn K n13 d.qual && (dflB K n8 (d.dvs K) && (cellB K n7 (d.cls K) && fileB K n13 d.file))) = true := c2
      obtain ⟨k1, k2⟩ := ba c3
      obtain ⟨k3, k4⟩ := ba k2
      obtain ⟨k5, k6⟩ := ba k4
      match n7, h7, k5 with
      | [(z, cc)], h7, k5 =>
        have hz : z = ("__class__" : Str) := by simpa using h7
        subst hz
        have k5' : (match K.lookup cc with
          | some ⟨_, _, .cell (some (.ref E)), _⟩ => decide (E = d.cls K)
          | _ => false) = true := k5
        split at k5'
        · rename_i a1 a2 E a3 hcc
          have hE : E = d.cls K := of_decide_eq_true k5'
          subst hE
          unfold fileB at k6
          split at k6
          · rename_i cda
            split at k6
            · rename_i b1 b2 vs b3 hcd
              split at k6
              · rename_i f tf hv
                refine ⟨_, cc, cda, ⟨oc, n8, n9, n10, n11, n14, _, _, od, n12, _, _, osl, _, _, vs, f, tf, rfl, q, k1, dflB_ok k3, hcd, hv, ?_, hcc⟩, cl, kp⟩
                rw [hf]; exact k6
              · cases k6
            · cases k6
          · cases k6
        · cases k5'
    | _ => cases c2
/-! ### properties, super -/
def pga (K : Frag) (C : Addr) (nm : Str) : Addr := match recIn K (ma K C nm) "property" with
  | some (.ref g :: _) => g
  | _ => 0
def propB (K : Frag) (C : Addr) (nm : Str) : Bool := eqO (findIn K (.ref C) nm) (some (some (.ref (ma K C nm)))) && (eqO (specialIn K (.ref (ma K C nm)) "__get__") (some (some (.builtin "property.__get__"))) && (decide (takesIn K (.ref (ma K C nm)) = some true) && (match recIn K (ma K C nm) "property" with
  | some (.ref _ :: _) => true
  | _ => false)))
theorem propB_ok {K : Frag} {C : Addr} {nm : Str} (h : propB K C nm = true) : PropOf K C nm (ma K C nm) (pga K C nm) := by
  obtain ⟨h1, h⟩ := ba h
  obtain ⟨h2, h⟩ := ba h
  obtain ⟨h3, h4⟩ := ba h
  refine ⟨eqO_ok h1, eqO_ok h2, of_decide_eq_true h3, ?_⟩
  unfold pga
  split at h4
  · rename_i g r e
    exact ⟨r, by rw [e]⟩
  · cases h4
def supB (K : Frag) (C D : Addr) (m : Str) (g : Addr) : Bool := decide (mroIn K C (.ref D) = some true) && (eqO (ks_superIn K C D m) (some (some (.ref g))) && (decide (typeIn K (.ref g) = some (.type "function")) && (eqO (nsIn K cStatics "thirdparty.any") (some none) && fnIn K g)))
theorem supB_ok {K : Frag} {C D : Addr} {m : Str} {g : Addr} (h : supB K C D m g = true) : SupOf K C D m g := by
  obtain ⟨h1, h⟩ := ba h
  obtain ⟨h2, h⟩ := ba h
  obtain ⟨h3, h⟩ := ba h
  obtain ⟨h4, h5⟩ := ba h
  exact ⟨of_decide_eq_true h1, eqO_ok h2, of_decide_eq_true h3, eqO_ok h4, h5⟩
/-! ### the Hook -/
abbrev AlP : Type := Bool × List He.FnW × List FnWS
def obsP (fa : List Fa) (fn : List DefA) (sf : List SupD) (ex : List (Frag → Bool)) (K : Frag) : AlP := ((fa.all fun f => f.ok K) && ((fn.all fun d => d.ok K) && ((sf.all fun d => d.ok K) && ex.all fun e => e K)), fn.map (fun d => fnA K (d.at_ K)), sf.map fun d => fnS K (d.at_ K))
def valP (fn : List DefA) (sf : List SupD) : AlP := (true, fn.map DefA.val, sf.map SupD.val)
def SaysP (fa : List Fa) (fn : List DefA) (sf : List SupD) (ex : List (Frag → Bool)) (K : Frag) : Prop := obsP fa fn sf ex K = valP fn sf
def obsPG (n : Nat) (fa : List Fa) (fn : List DefA) (sf : List SupD) (ex : List (Frag → Bool)) (g : Addr → Option Obj) : AlP := obsP fa fn sf ex (frG g (asA g n))
def hookP (n : Nat) (fa : List Fa) (fn : List DefA) (sf : List SupD) (ex : List (Frag → Bool)) : PySem.W.Hook where
  α := AlP
  obs := fun s => obsPG n fa fn sf ex s.heap.get?
  val := fun _ => valP fn sf
  says := fun _ h => ∃ K : Frag, K.In h ∧ SaysP fa fn sf ex K
  of := fun _ _ e => ⟨_, frG_in, e⟩
  keeps := fun _ _ _ ⟨K, hK, c⟩ k => ⟨K, Frag.In.keeps hK k, c⟩
theorem obsPG_eq {n : Nat} {fa : List Fa} {fn : List DefA} {sf : List SupD} {ex : List (Frag → Bool)} {g : Addr → Option Obj} {s : Shared} (h : ∀ a, g a = s.heap.get? a) : obsPG n fa fn sf ex g = (hookP n fa fn sf ex).obs s := by
  have e : g = s.heap.get? := funext h
  rw [e] <;> rfl
section
variable {fa : List Fa} {fn : List DefA} {sf : List SupD} {ex : List (Frag → Bool)} {K : Frag}
theorem SaysP.b (c : SaysP fa fn sf ex K) : ((fa.all fun f => f.ok K) && ((fn.all fun d => d.ok K) && ((sf.all fun d => d.ok K) && ex.all fun e => e K))) = true := congrArg (fun z : AlP => z.1) c
theorem SaysP.fact (c : SaysP fa fn sf ex K) (i : Nat) {f : Fa} (h : fa[i]? = some f := by rfl) : f.ok K = true := List.all_eq_true.mp (ba c.b).1 f (List.mem_of_getElem? h)
theorem SaysP.more (c : SaysP fa fn sf ex K) (i : Nat) {e : Frag → Bool} (h : ex[i]? = some e := by rfl) : e K = true := List.all_eq_true.mp (ba (ba (ba c.b).2).2).2 e (List.mem_of_getElem? h)
theorem SaysP.def_ (c : SaysP fa fn sf ex K) (i : Nat) {d : DefA} (h : fn[i]? = some d := by rfl) : ∃ fd, FunD K d.name d.qual d.params d.body d.scope (d.dvs K) (d.kws K) (d.at_ K) fd := by
  have c2 := (ba (ba c.b).2).1
  have e : fn.map (fun d => fnA K (d.at_ K)) = fn.map DefA.val := congrArg (fun z : AlP => z.2.1) c
  have e2 : (fn.map fun d => fnA K (d.at_ K))[i]? = (fn.map DefA.val)[i]? := by rw [e]
  rw [List.getElem?_map, List.getElem?_map, h] at e2
  exact DefA.funD (Option.some.inj e2) (List.all_eq_true.mp c2 d (List.mem_of_getElem? h))
theorem SaysP.sup {P : Program} (c : SaysP fa fn sf ex K) (i : Nat) {d : SupD} (h : sf[i]? = some d := by rfl) (hf : P.main.file = d.file := by rfl) : ∃ fd cc cda, FunS P K d.name d.qual d.params d.body d.scope (d.dvs K) (d.at_ K) fd (d.cls K) cc cda := by
  have c2 := (ba (ba (ba c.b).2).2).1
  have e : sf.map (fun d => fnS K (d.at_ K)) = sf.map SupD.val := congrArg (fun z : AlP => z.2.2) c
  have e2 : (sf.map fun d => fnS K (d.at_ K))[i]? = (sf.map SupD.val)[i]? := by rw [e]
  rw [List.getElem?_map, List.getElem?_map, h] at e2
  exact SupD.funS hf (Option.some.inj e2) (List.all_eq_true.mp c2 d (List.mem_of_getElem? h))
end
/-! ### what the calls of such methods bind -/
section
variable {P : Program} {K : Frag} {x qual : Str} {params : Arguments} {body : List Stmt} {scope : Scope} {dvs : List V} {f : Addr} {fd : FuncData} {D cc cda : Addr} {ps : List Str}
theorem funS_bindsN (F : FunS P K x qual params body scope [] f fd D cc cda)
    (h : ∀ (kV doc pm : Value) (an : Option Addr) (ct : Value) (us : List Value), us.length = ps.length → bindArgs (fnX x qual params body scope [("__class__", cc)] .none kV doc pm an (.ref cda) ct) ⟨us, []⟩ = pure (ps.zip us)) : Binds K fd ps [] := by
  obtain ⟨oc, dV, kV, doc, pm, ct, cl, ccl, od, an, cld, cdd, osl, csl, ccs, vs, file, tf, rfl, lk, hcd, hD, _⟩ := F.ex
  rcases hD with ⟨_, rfl⟩ | ⟨e, _⟩
  · exact .all (h kV doc pm an ct)
  · exact absurd rfl e
theorem funS_binds1 (F : FunS P K x qual params body scope dvs f fd D cc cda) (n j : Nat) (hd : dvs ≠ []) (hn : n + (dvs.length - j) = ps.length)
    (h : ∀ (T : Addr) (kV doc pm : Value) (an : Option Addr) (ct : Value) (us its : List Value), us.length = n → its.length = dvs.length →
      ∃ k, bindArgs (fnX x qual params body scope [("__class__", cc)] (.ref T) kV doc pm an (.ref cda) ct) ⟨us, []⟩ = seqItems? (.ref T) >>= k ∧ k (some its.toArray) = pure (ps.zip (us ++ its.drop j))) : ∃ ds, Vals (dvs.drop j) ds ∧ Binds K fd ps ds := by
  obtain ⟨oc, dV, kV, doc, pm, ct, cl, ccl, od, an, cld, cdd, osl, csl, ccs, vs, file, tf, rfl, lk, hcd, hD, _⟩ := F.ex
  rcases hD with ⟨e, _⟩ | ⟨_, T, o, its, m, rfl, lT, oT, rT⟩
  · exact absurd e hd
  · refine ⟨its.drop j, rT.drop j, fun s us X hlen => ?_⟩
    have l1 : its.length = dvs.length := rT.length.symm
    have l2 : us.length = n := by
      rw [List.length_append, List.length_drop, l1] at hlen
      omega
    obtain ⟨k, e1, e2⟩ := h T kV doc pm an ct us its l2 l1
    exact BindsTo.of_looks fun M => by
      rw [e1]
      exact looks_items X lT oT (Looks.of_pure e2)
end
/-! ### methods of two classes -/
def CCo (CR CS : Addr) : Bool → Addr := fun ad => cond ad CS CR
section
variable {P : Program} {w : World} {K : Frag} {mg : Str → Option Value} {base : Heap} {k : Nat} {CR CS : Addr} {m : Str} {ks : List Str} {sp : Bool → Sp}
theorem calM_same {f g : Addr} (h1 : Meth K CR m f) (h2 : Meth K CS m g) (e : g = f) (F : ∀ ad, Fn P w K mg base k f ks (sp ad)) : CalM P w K mg base k (CCo CR CS) m ks sp :=
  ⟨fun _ => f, fun ad => by cases ad; exact h1; exact e ▸ h2, F⟩
theorem calM_two {f g : Addr} (h1 : Meth K CR m f) (h2 : Meth K CS m g) (F0 : Fn P w K mg base k f ks (sp false)) (F1 : Fn P w K mg base k g ks (sp true)) : CalM P w K mg base k (CCo CR CS) m ks sp :=
  ⟨fun ad => cond ad g f, fun ad => by cases ad; exact h1; exact h2, fun ad => by cases ad; exact F0; exact F1⟩
theorem calP_same {pa pb f g : Addr} (h1 : PropOf K CR m pa f) (h2 : PropOf K CS m pb g) (e : g = f) (F : ∀ ad, Fn P w K mg base k f [] (sp ad)) : CalP P w K mg base k (CCo CR CS) m sp :=
  ⟨fun ad => cond ad pb pa, fun _ => f, fun ad => by cases ad; exact h1; exact e ▸ h2, F⟩
end
end Pk
end

section
/-! max(xs, default=d) of ints -/
namespace Pk
open PySem PySem.Spec PyProof.Rows L2 Evl
def mxD (d : Int) : List Int → Int
  | [] => d
  | x :: xs => xs.foldl (fun a y => if a < y then y else a) x
theorem mx_fold : ∀ (xs : List Int) (a : Int), a ≤ xs.foldl (fun a y => if a < y then y else a) a ∧ (∀ x ∈ xs, x ≤ xs.foldl (fun a y => if a < y then y else a) a) ∧ (xs.foldl (fun a y => if a < y then y else a) a = a ∨ xs.foldl (fun a y => if a < y then y else a) a ∈ xs)
  | [], a => ⟨Int.le_refl _, (fun x hx => nomatch hx), .inl rfl⟩
  | y :: ys, a => by
    rw [List.foldl_cons]
    by_cases h : a < y
    · rw [if_pos h]
      obtain ⟨h1, h2, h3⟩ := mx_fold ys y
      refine ⟨by omega, fun x hx => ?_, ?_⟩
      · rcases List.mem_cons.mp hx with rfl | hx
        · exact h1
        · exact h2 x hx
      · rcases h3 with h3 | h3
        · right; rw [h3]; exact List.mem_cons_self ..
        · right; exact List.mem_cons_of_mem _ h3
    · rw [if_neg h]
      obtain ⟨h1, h2, h3⟩ := mx_fold ys a
      refine ⟨h1, fun x hx => ?_, ?_⟩
      · rcases List.mem_cons.mp hx with rfl | hx
        · omega
        · exact h2 x hx
      · rcases h3 with h3 | h3
        · left; exact h3
        · right; exact List.mem_cons_of_mem _ h3
theorem mxD_ge {d : Int} {l : List Int} {x : Int} (h : x ∈ l) : x ≤ mxD d l := by
  cases l with
  | nil => cases h
  | cons y ys =>
    obtain ⟨h1, h2, h3⟩ := mx_fold ys y
    rcases List.mem_cons.mp h with rfl | h
    · exact h1
    · exact h2 x h
theorem mxD_mem {d : Int} {l : List Int} (h : l ≠ []) : mxD d l ∈ l := by
  cases l with
  | nil => exact absurd rfl h
  | cons y ys =>
    obtain ⟨h1, h2, h3⟩ := mx_fold ys y
    rcases h3 with h3 | h3
    · show List.foldl _ _ _ ∈ _
      rw [h3]; exact List.mem_cons_self ..
    · exact List.mem_cons_of_mem _ h3
def rMaxDf (K : PySem.W.Frag) : List V → List V → Hp → VK → Prop := fun vs zs H Q => ∃ (a : Addr) (ns : List Int) (d : Int), vs = [.ref a] ∧ zs = [.int d] ∧ SqL K H a (ns.map V.int) ∧ Q (.int (mxD d ns)) H
theorem cr_maxDf {X : Cx} {k : Nat} (hc : X.calm = true) (hr : RoomG k X.A) : CallRK X (.builtin "max") [Str.ofString "default"] (rMaxDf X.K) := by
  intro pins s σ H vs zs us ws Q I r rz h
  obtain ⟨a, ns, d, rfl, rfl, hs, q⟩ := h
  obtain ⟨its, rv, hl, hz⟩ := I.list hs
  obtain rfl := Vals.ref1 r
  obtain ⟨w1, rfl, e1⟩ := vals1 rz
  obtain ⟨tk1, rfl⟩ := (show ∃ t, w1 = Value.int d t from e1)
  refine PySem.W.max_list_datum_default (α := Int) (xs := ns) (I.ok.hd hc) hl.isList (PySem.W.HoldAll.of_ints rv.ints) (by have := hr.r.un; show _ + 1 + 0 < _; omega) (fun e h' tk hk => ?_) (fun y ys i v h' tk e hi hv hk => ?_)
  · subst e
    exact ⟨.int d, H, I.kept hk, ⟨_, rfl⟩, q⟩
  · subst e
    obtain ⟨as, hv⟩ := hv
    cases hv
    have e : PySem.W.maxOf y ys = mxD d (y :: ys) := by
      unfold PySem.W.maxOf mxD
      congr 1
      funext a b
      by_cases h : a < b
      · rw [if_pos h]; exact if_pos (decide_eq_true h)
      · rw [if_neg h]; exact if_neg (by show ¬ decide (a < b) = true; simpa using h)
    rw [← e] at q
    exact ⟨.int _, H, I.kept hk, ⟨_, rfl⟩, q⟩
theorem cr_maxDfK {X : Cx} {k : Nat} (K : PySem.W.Frag) (hK : X.K = K) (hc : X.calm = true) (hr : RoomG k X.A) : CallRK X (.builtin "max") [Str.ofString "default"] (rMaxDf K) := by
  subst hK; exact cr_maxDf hc hr
theorem ev_maxDf {K : PySem.W.Frag} {σ : L2.St} {H : Hp} {t tk : TA} {a : Addr} {ns : List Int} {d : Int} (h : EvA t σ H [.ref a]) (h2 : EvA tk σ H [.int d]) (hs : SqL K H a (ns.map V.int)) : Ev (tCKw (rMaxDf K) t tk) σ H (.int (mxD d ns)) := fun H1 e Q q =>
  h H1 e _ fun H2 e2 => h2 H2 (e.trans e2) _ fun H3 e3 => ⟨a, ns, d, rfl, rfl, ex_l ((e.trans e2).trans e3) hs, q H3 (e2.trans e3)⟩
end Pk
end

section
/-! Times and rounds, plainly. -/
namespace Pk
/-- the places that stay after one round -/
def stayP (ns : List Int) : List Nat := (List.range ns.length).filter fun i => !isPk ns i
theorem range_getD {n s : Nat} (h : s < n) : (List.range n).getD s 0 = s := by
  rw [getD_lt (by rw [List.length_range]; exact h), List.getElem_range]
theorem sub_range (ns : List Int) : subR ns (List.range ns.length) = ns := by
  have := map_range_get ns 0 (fun x => x)
  rw [List.map_id'] at this
  exact this
theorem stay_range (ns : List Int) : tmStay ns (List.range ns.length) (List.replicate ns.length 0) 0 = stayP ns := by
  have I := TmInv.start ns
  rw [stay_eq I.nd I.n0 I.lt I.z, sub_range, List.length_range]
  unfold stayP
  refine (List.map_congr_left fun s hs => ?_).trans (List.map_id' _)
  exact range_getD (List.mem_range.mp (List.mem_filter.mp hs).1)
theorem stayP_lt {ns : List Int} {p : Nat} (h : p ∈ stayP ns) : p < ns.length := List.mem_range.mp (List.mem_filter.mp h).1
theorem peel1_stayP (ns : List Int) : peel1 ns = subR ns (stayP ns) := rfl
theorem stayP_len (ns : List Int) : (stayP ns).length = (peel1 ns).length := by rw [peel1_stayP, sub_len]
def fd1 (ns : List Int) : List Int := tmSet (List.range ns.length) (0 + 1) (List.replicate ns.length 0) (pkPlaces (subR ns (List.range ns.length)))
/-- the first round unrolled -/
theorem times_first {ns : List Int} (h : ns ≠ []) {k : Nat} (hk : (stayP ns).length ≤ k) : timesIn ns = tmGo ns k (stayP ns) (fd1 ns) 1 ∧ TmInv ns (stayP ns) (fd1 ns) 1 := by
  have I := (TmInv.start ns).step
  rw [stay_range] at I
  refine ⟨?_, I⟩
  obtain ⟨m, hm⟩ : ∃ m, ns.length = m + 1 := ⟨ns.length - 1, by have := List.length_pos_iff.mpr h; omega⟩
  unfold timesIn
  rw [show tmGo ns ns.length = tmGo ns (m + 1) from by rw [hm], tmGo_step (by rw [hm]; intro z; have := congrArg List.length z; simp at this), stay_range]
  exact tmGo_fuel ns m k _ _ _ I (by rw [stayP_len]; have := peel1_lt h; omega) hk
theorem fd1_get {ns : List Int} {s : Nat} (hs : s < ns.length) : (fd1 ns).getD s 0 = if isPk ns s = true then 1 else 0 := by
  unfold fd1
  rw [sub_range, tmSet_get _ _ _ fun t ht => by rw [range_getD (pk_lt ht), List.length_replicate]; exact pk_lt ht]
  have hz : (List.replicate ns.length (0 : Int)).getD s 0 = 0 := by rw [getD_lt (by rw [List.length_replicate]; exact hs), List.getElem_replicate]
  by_cases hp : isPk ns s = true
  · rw [if_pos hp, if_pos]
    · rfl
    · exact List.mem_map.mpr ⟨s, List.mem_filter.mpr ⟨List.mem_range.mpr hs, hp⟩, range_getD hs⟩
  · rw [if_neg hp, if_neg, hz]
    intro z
    obtain ⟨t, ht, e⟩ := List.mem_map.mp z
    rw [range_getD (pk_lt ht)] at e
    subst e
    exact hp (List.mem_filter.mp ht).2
theorem mem_at {l : List Nat} {x : Nat} (h : x ∈ l) : ∃ t, t < l.length ∧ l.getD t 0 = x := by
  obtain ⟨t, ht, e⟩ := List.mem_iff_getElem.mp h
  exact ⟨t, ht, by rw [getD_lt ht]; exact e⟩
/-- the times of what is left are those of the row of what is left -/
theorem tmGo_rec : ∀ (k : Nat) (ns : List Int) (left : List Nat) (fd : List Int) (n : Int), TmInv ns left fd n → left.length ≤ k →
    (∀ s, s < left.length → (tmGo ns k left fd n).getD (left.getD s 0) 0 = n + (timesIn (subR ns left)).getD s 0) ∧ ∀ p, p ∉ left → (tmGo ns k left fd n).getD p 0 = fd.getD p 0
  | 0, ns, left, fd, n, I, h => ⟨fun s hs => by omega, fun p _ => rfl⟩
  | k + 1, ns, left, fd, n, I, h => by
    by_cases hl : left = []
    · subst hl
      exact ⟨fun s hs => by simp at hs, fun p _ => by rw [tmGo_nil]⟩
    · have hlt := stay_lt (ns := ns) hl I.n0 I.lt
      have hX : subR ns left ≠ [] := fun z => hl (List.map_eq_nil_iff.mp z)
      have hstay : tmStay ns left fd n = (stayP (subR ns left)).map fun s => left.getD s 0 := by
        rw [stay_eq I.nd I.n0 I.lt I.z]
        unfold stayP
        rw [sub_len]
      have hsl : (stayP (subR ns left)).length = (tmStay ns left fd n).length := by rw [hstay, List.length_map]
      obtain ⟨hT, IT⟩ := times_first hX (k := k) (by omega)
      obtain ⟨r1, r2⟩ := tmGo_rec k (subR ns left) _ _ _ IT (by omega)
      obtain ⟨q1, q2⟩ := tmGo_rec k ns _ _ _ I.step (by omega)
      have hgo := tmGo_step (ns := ns) (fd := fd) (n := n) (k := k) hl
      have hset : ∀ p, (tmSet left (n + 1) fd (pkPlaces (subR ns left))).getD p 0 = if p ∈ (pkPlaces (subR ns left)).map (fun s => left.getD s 0) then n + 1 else fd.getD p 0 := fun p =>
        tmSet_get p _ _ fun t ht => I.lt _ (getD_mem (by have := pk_lt ht; rw [sub_len] at this; exact this))
      refine ⟨fun s hs => ?_, fun p hp => ?_⟩
      · have hsX : s < (subR ns left).length := by rw [sub_len]; exact hs
        rw [hgo, hT]
        by_cases hp : isPk (subR ns left) s = true
        · have hnot : left.getD s 0 ∉ tmStay ns left fd n := fun z => by
            rw [hstay] at z
            obtain ⟨t, ht, e⟩ := List.mem_map.mp z
            have htl := stayP_lt ht
            rw [sub_len] at htl
            have := nodup_get I.nd htl hs e
            subst this
            have := (List.mem_filter.mp ht).2
            rw [hp] at this; cases this
          have hnotX : s ∉ stayP (subR ns left) := fun z => by
            have := (List.mem_filter.mp z).2
            rw [hp] at this; cases this
          rw [q2 _ hnot, r2 _ hnotX, hset, fd1_get hsX, if_pos hp, if_pos]
          exact List.mem_map.mpr ⟨s, List.mem_filter.mpr ⟨List.mem_range.mpr hsX, hp⟩, rfl⟩
        · have hmX : s ∈ stayP (subR ns left) := List.mem_filter.mpr ⟨List.mem_range.mpr hsX, by simpa using hp⟩
          obtain ⟨t, ht, et⟩ := mem_at hmX
          have e1 : (tmStay ns left fd n).getD t 0 = left.getD s 0 := by
            rw [hstay, getD_lt (by rw [List.length_map]; exact ht), List.getElem_map, ← et, getD_lt ht]
          have e2 : subR (subR ns left) (stayP (subR ns left)) = subR ns (tmStay ns left fd n) := by
            rw [hstay]
            unfold subR
            rw [List.map_map]
            refine List.map_congr_left fun u hu => ?_
            have hul := stayP_lt hu
            rw [List.length_map] at hul
            show (List.map (fun p => ns.getD p 0) left).getD u 0 = ns.getD (left.getD u 0) 0
            rw [getD_lt (l := List.map (fun p => ns.getD p 0) left) (by rw [List.length_map]; exact hul), List.getElem_map, getD_lt hul]
          have a1 := q1 t (by omega)
          have a2 := r1 t ht
          rw [e1] at a1
          rw [et] at a2
          rw [a1, a2, e2]
          omega
      · rw [hgo, q2 p fun z => hp (stay_mem z), hset, if_neg]
        intro z
        obtain ⟨t, ht, e⟩ := List.mem_map.mp z
        have := pk_lt ht
        rw [sub_len] at this
        exact hp (e ▸ getD_mem this)
theorem times_pk {ns : List Int} {s : Nat} (hs : s < ns.length) (hp : isPk ns s = true) : (timesIn ns).getD s 0 = 1 := by
  have hne : ns ≠ [] := fun z => by rw [z] at hs; simp at hs
  obtain ⟨hT, IT⟩ := times_first hne (Nat.le_refl _)
  obtain ⟨_, r2⟩ := tmGo_rec _ ns _ _ _ IT (Nat.le_refl _)
  rw [hT, r2 s (fun z => by have := (List.mem_filter.mp z).2; rw [hp] at this; cases this), fd1_get hs, if_pos hp]
theorem times_stay {ns : List Int} {t : Nat} (ht : t < (stayP ns).length) : (timesIn ns).getD ((stayP ns).getD t 0) 0 = 1 + (timesIn (peel1 ns)).getD t 0 := by
  have hne : ns ≠ [] := fun z => by rw [z] at ht; simp [stayP] at ht
  obtain ⟨hT, IT⟩ := times_first hne (Nat.le_refl _)
  obtain ⟨r1, _⟩ := tmGo_rec _ ns _ _ _ IT (Nat.le_refl _)
  rw [hT, r1 t ht, peel1_stayP]
theorem times_ge : ∀ (m : Nat) (ns : List Int), ns.length ≤ m → ∀ s, s < ns.length → 1 ≤ (timesIn ns).getD s 0
  | 0, ns, h, s, hs => by omega
  | m + 1, ns, h, s, hs => by
    by_cases hp : isPk ns s = true
    · rw [times_pk hs hp]; omega
    · have hm : s ∈ stayP ns := List.mem_filter.mpr ⟨List.mem_range.mpr hs, by simpa using hp⟩
      obtain ⟨t, ht, et⟩ := mem_at hm
      have hne : ns ≠ [] := fun z => by rw [z] at hs; simp at hs
      have h1 := times_stay ht
      rw [et] at h1
      have h2 := times_ge m (peel1 ns) (by have := peel1_lt hne; omega) t (by rw [← stayP_len]; exact ht)
      omega
theorem times_pos {ns : List Int} {x : Int} (h : x ∈ timesIn ns) : 1 ≤ x := by
  obtain ⟨s, hs, e⟩ := List.mem_iff_getElem.mp h
  have hs' : s < ns.length := by rw [timesIn_len] at hs; exact hs
  have := times_ge _ ns (Nat.le_refl _) s hs'
  rw [getD_lt hs, e] at this
  exact this
theorem times_gt {ns : List Int} {s : Nat} (hs : s < ns.length) : decide ((timesIn ns).getD s 0 > 1) = !isPk ns s := by
  cases hp : isPk ns s with
  | true => rw [times_pk hs hp]; decide
  | false =>
    have hm : s ∈ stayP ns := List.mem_filter.mpr ⟨List.mem_range.mpr hs, by rw [hp]; rfl⟩
    obtain ⟨t, ht, et⟩ := mem_at hm
    have h1 := times_stay ht
    rw [et] at h1
    have h2 := times_ge _ (peel1 ns) (Nat.le_refl _) t (by rw [← stayP_len]; exact ht)
    rw [h1]
    exact decide_eq_true (by omega)
/-- the times after a round -/
theorem times_peel1 (ns : List Int) : timesIn (peel1 ns) = ((timesIn ns).filter fun x => decide (x > 1)).map fun x => x - 1 := by
  have e1 : ((timesIn ns).filter fun x => decide (x > 1)).map (fun x => x - 1) = (stayP ns).map fun s => (timesIn ns).getD s 0 - 1 := by
    rw [← filter_range_get 0 (fun x => decide (x > 1)) (fun x => x - 1) (timesIn ns), timesIn_len]
    unfold stayP
    congr 1
    exact List.filter_congr fun s hs => times_gt (List.mem_range.mp hs)
  rw [e1, ← map_range_get (stayP ns) 0 (fun s => (timesIn ns).getD s 0 - 1)]
  have e2 := map_range_get (timesIn (peel1 ns)) 0 (fun x => x)
  rw [List.map_id'] at e2
  rw [← e2, timesIn_len, stayP_len]
  refine List.map_congr_left fun t ht => ?_
  rw [times_stay (by rw [stayP_len]; exact List.mem_range.mp ht)]
  omega
theorem times_peelN (ns : List Int) : ∀ k : Nat, timesIn (peelN k ns) = ((timesIn ns).filter fun x => decide (x > (k : Int))).map fun x => x - (k : Int)
  | 0 => by
    have : ((timesIn ns).filter fun x => decide (x > ((0 : Nat) : Int))) = timesIn ns := List.filter_eq_self.mpr fun x hx => decide_eq_true (by have := times_pos hx; omega)
    rw [this]
    exact ((List.map_congr_left fun x _ => Int.sub_zero x).trans (List.map_id' _)).symm
  | k + 1 => by
    rw [peelN_succ, times_peel1, times_peelN ns k, List.filter_map, List.filter_filter, List.map_map]
    have e : (timesIn ns).filter (fun x => ((fun x => decide (x > 1)) ∘ fun x => x - (k : Int)) x && decide (x > (k : Int))) = (timesIn ns).filter fun x => decide (x > ((k + 1 : Nat) : Int)) := by
      refine List.filter_congr fun x _ => ?_
      rw [Bool.eq_iff_iff, Bool.and_eq_true, decide_eq_true_iff, decide_eq_true_iff]
      show decide (x - (k : Int) > 1) = true ∧ _ ↔ _
      rw [decide_eq_true_iff]
      omega
    rw [e]
    refine List.map_congr_left fun x _ => ?_
    show x - (k : Int) - 1 = x - ((k + 1 : Nat) : Int)
    omega
theorem peelN_count (ns : List Int) (k : Nat) : (peelN k ns).length = ((timesIn ns).filter fun x => decide (x > (k : Int))).length := by
  rw [← timesIn_len, times_peelN, List.length_map]
theorem peelN_nil_iff (ns : List Int) (k : Nat) : peelN k ns = [] ↔ ∀ x ∈ timesIn ns, x ≤ (k : Int) := by
  rw [← List.length_eq_zero_iff, peelN_count, List.length_eq_zero_iff, List.filter_eq_nil_iff]
  exact ⟨fun h x hx => by have := h x hx; simpa using this, fun h x hx => by have := h x hx; simpa using this⟩
/-- how many vanish in the rounds from 1 to k -/
theorem count_upto (l : List Int) (hl : ∀ x ∈ l, 1 ≤ x) : ∀ k : Nat, (((List.range k).map fun i => (l.filter fun x => decide (x = ((i + 1 : Nat) : Int))).length).sum + (l.filter fun x => decide (x > (k : Int))).length = l.length)
  | 0 => by
    rw [List.filter_eq_self.mpr fun x hx => decide_eq_true (by have := hl x hx; omega)]
    simp
  | k + 1 => by
    have ih := count_upto l hl k
    rw [List.range_succ, List.map_append, List.sum_append, List.map_singleton, List.sum_singleton]
    have : (l.filter fun x => decide (x > (k : Int))).length = (l.filter fun x => decide (x = ((k + 1 : Nat) : Int))).length + (l.filter fun x => decide (x > ((k + 1 : Nat) : Int))).length := by
      clear ih hl
      induction l with
      | nil => rfl
      | cons x l ih =>
        rw [List.filter_cons, List.filter_cons, List.filter_cons]
        by_cases h1 : x > (k : Int)
        · by_cases h2 : x = ((k + 1 : Nat) : Int)
          · rw [if_pos (decide_eq_true h1), if_pos (decide_eq_true h2), if_neg (by simp; omega), List.length_cons, List.length_cons, ih]; omega
          · rw [if_pos (decide_eq_true h1), if_neg (by simp; omega), if_pos (decide_eq_true (by omega)), List.length_cons, List.length_cons, ih]; omega
        · rw [if_neg (by simp; omega), if_neg (by simp; omega), if_neg (by simp; omega), ih]
    omega
end Pk
end

section
/-! A def with a star parameter. -/
namespace Pk
open PySem PySem.Spec PyProof.Rows L2 Evl
theorem fn_starG {P : Program} {w : World} {K : PySem.W.Frag} {mg : Str → Option Value} {base : Heap} {k : Nat} {f : Addr} {fd : FuncData} {x qual : Str} {params : Arguments} {body : List Stmt} {scope : Scope} {N ps : List Str} {sp : Sp} {pv : Str}
    (F : FunD K x qual params body scope [] [] f fd) (S : FnScope N (ps ++ [pv]) scope)
    (hb : ∀ (kV doc pm : Value) (an : Option Addr) (cdv ct : Value) (us rest : List Value), us.length = ps.length → bindArgs (PySem.W.fnOf x qual params body scope .none kV doc pm an cdv ct) ⟨us ++ rest, []⟩ = (newTuple rest >>= fun t => pure (ps.zip us ++ [(pv, t)])))
    (hbody : ∀ (cdv : Value) (A : Around) (outer : List Env) (s : Shared) (H : Hp) (vs : List V) (Q : VK) (E : XK), RoomG k (A.deeper (envOfC qual scope s.heap.objs.size f cdv)) → sp vs H Q E →
      ∃ t, PSs (cxOf (L2.CX P w) P w K mg base N qual scope f cdv A outer s H E) body t ∧ t { nx := fun _ H' => Q .non H', rt := Q } (start N vs) H) :
    Fn P w K mg base (k + 1) f [] (fun vs H Q E => ∃ ws rest, vs = ws ++ rest ∧ ws.length = ps.length ∧ rest.length ≤ sizeLine ∧ ∀ p, H p = none → sp (ws ++ [V.ref p]) (upd H p (.tup rest)) Q E) := by
  obtain ⟨oc, od, dV, kV, doc, pm, an, cdv, ct, osl, rfl, lk, hcd, hD, _⟩ := F.ex
  obtain rfl : dV = .none := by
    rcases hD with ⟨_, e⟩ | ⟨e, _⟩
    · exact e
    · exact absurd rfl e
  refine ⟨fun A outer s H us ws vs zs Q E hr e0 r rz l h => ?_⟩
  have ez : zs = [] := List.eq_nil_of_length_eq_zero (by simpa using l)
  subst ez
  cases rz
  rw [List.append_nil] at h
  obtain ⟨w1, rest, rfl, hl, hz, hq⟩ := h
  obtain ⟨u1, u2, rfl, r1, r2⟩ := StX.vals_split r
  have hn : H s.heap.objs.size = none := e0.hok.fresh (Nat.le_refl _)
  refine StX.run_bnd lk hcd S hr.r e0 (G := fun xs H2 => ∃ p, H p = none ∧ xs = w1 ++ [V.ref p] ∧ H2 = upd H p (.tup rest)) (fun A' Ex Q' k2 => ?_) fun s2 H2 xs ⟨p, hp, ex, eH⟩ _ => ?_
  · show wpAny _ _ (bindArgs _ ⟨u1 ++ u2, []⟩) _ _ _
    rw [hb kV doc pm an cdv ct u1 u2 (by rw [← r1.length]; exact hl)]
    refine wpAny_bind (wpAny_newTuple (wpAny_pure ?_) (by rw [← r2.length]; exact hz))
    have new : ObjOk P w (upd H s.heap.objs.size (.tup rest)) (s.heap.push ({ cls := .type "tuple", data := .seq u2.toArray } : Obj)) s.heap.objs.size (.tup rest) := ⟨hz, u2, r2, ⟨_, Heap.get?_push_size _ rfl, rfl, _, rfl⟩⟩
    have un := StX.un_laid (fs := frs outer) (s := s) (o := ({ cls := .type "tuple", data := .seq u2.toArray } : Obj)) (u := .tup rest) hn
    have z := k2 _ _ (w1 ++ [V.ref s.heap.objs.size]) (u1 ++ [Value.ref s.heap.objs.size]) (StX.env0_laid e0 new) un rfl (fun e s' => StX.cxUp outer s H _ _ E e s' un (fun b o q => Heap.get?_push_of_some _ q) rfl) (r1.append (.cons rfl .nil)) (by rw [List.length_append, List.length_append, hl] <;> rfl) ⟨_, hn, rfl, rfl⟩
    rw [List.zip_append (by rw [← hl, r1.length])] at z
    exact z
  · subst ex eH
    exact hbody cdv A outer s2 _ _ Q E (hr.deeper _) (hq p hp)
end Pk
end

section
/-! Lists of new lists. -/
namespace Pk
open PySem PySem.Spec PyProof.Rows L2 Evl
/-- new lists, each another one -/
structure NR (H0 H : Hp) (as : List Addr) (xss : List (List V)) : Prop where
  len : as.length = xss.length
  at_ : ∀ (i : Nat) (a : Addr) (xs : List V), as[i]? = some a → xss[i]? = some xs → H0 a = none ∧ H a = some (.lst xs)
  nd : as.Nodup
theorem NR.nil {H0 H : Hp} : NR H0 H [] [] := ⟨rfl, fun i a xs h => by simp at h, List.nodup_nil⟩
theorem NR.mem {H0 H : Hp} {as : List Addr} {xss : List (List V)} (h : NR H0 H as xss) {a : Addr} (ha : a ∈ as) : H0 a = none ∧ ∃ xs, H a = some (.lst xs) := by
  obtain ⟨i, hi, e⟩ := List.mem_iff_getElem.mp ha
  have hx : i < xss.length := by rw [← h.len]; exact hi
  have h2 : xss[i]? = some xss[i] := List.getElem?_eq_getElem hx
  obtain ⟨z1, z2⟩ := h.at_ i a _ (by rw [List.getElem?_eq_getElem hi, e]) h2
  exact ⟨z1, _, z2⟩
theorem NR.ex {H0 H H1 : Hp} {as : List Addr} {xss : List (List V)} (h : NR H0 H as xss) (e : Ex H H1) : NR H0 H1 as xss := ⟨h.len, fun i a xs h1 h2 => ⟨(h.at_ i a xs h1 h2).1, e _ _ (h.at_ i a xs h1 h2).2⟩, h.nd⟩
theorem NR.back {H0 H H1 : Hp} {as : List Addr} {xss : List (List V)} (h : NR H0 H as xss) (e : Ex H1 H0) : NR H1 H as xss := ⟨h.len, fun i a xs h1 h2 => ⟨fresh_back e (h.at_ i a xs h1 h2).1, (h.at_ i a xs h1 h2).2⟩, h.nd⟩
theorem NR.snoc {H0 H : Hp} {as : List Addr} {xss : List (List V)} {a : Addr} {xs : List V} (h : NR H0 H as xss) (h0 : H0 a = none) (h1 : H a = some (.lst xs)) (hn : a ∉ as) : NR H0 H (as ++ [a]) (xss ++ [xs]) := by
  refine ⟨by rw [List.length_append, List.length_append, h.len]; rfl, fun i b ys e1 e2 => ?_, ?_⟩
  · by_cases hi : i < as.length
    · rw [List.getElem?_append_left hi] at e1
      rw [List.getElem?_append_left (by rw [← h.len]; exact hi)] at e2
      exact h.at_ i b ys e1 e2
    · rw [List.getElem?_append_right (by omega)] at e1
      rw [List.getElem?_append_right (by rw [← h.len]; omega), ← h.len] at e2
      cases hk : i - as.length with
      | zero =>
        rw [hk] at e1 e2
        cases e1
        cases e2
        exact ⟨h0, h1⟩
      | succ k => rw [hk] at e1; simp at e1
  · exact List.nodup_append.mpr ⟨h.nd, by simp, fun x hx y hy e => hn (by rw [List.mem_singleton] at hy; rw [← hy, ← e]; exact hx)⟩
def EvLL (te : TE) (σ : L2.St) (H : Hp) (xss : List (List V)) : Prop := ∀ H1, Ex H H1 → ∀ Q : VK, (∀ p as H2, H1 p = none → Ex H1 H2 → H2 p = some (.lst (as.map V.ref)) → NR H1 H2 as xss → p ∉ as → Q (.ref p) H2) → te σ H1 Q
def Clw (H : Hp) (ys : Nat → List V) (Dl : Addr) (i : Nat) (H' : Hp) : Prop := H Dl = none ∧ Ex H H' ∧ ∃ as, H' Dl = some (.lst (as.map V.ref)) ∧ NR H H' as ((List.range i).map ys) ∧ Dl ∉ as
theorem clw_turn {H H' : Hp} {ys : Nat → List V} {Dl : Addr} {i : Nat} {σ2 : L2.St} {te : TE} (p : Clw H ys Dl i H') (hi : i < 50000) (he : EvL te σ2 H (ys i)) :
    tYes σ2 H' fun b H3 => if b = true then te σ2 H3 fun y H4 => ∃ acc, H4 Dl = some (.lst acc) ∧ acc.length < sizeLine ∧ Clw H ys Dl (i + 1) (upd H4 Dl (.lst (acc ++ [y]))) else Clw H ys Dl (i + 1) H3 := by
  obtain ⟨p1, p2, as, p3, p4, p5⟩ := p
  show te σ2 H' fun y H4 => ∃ acc, H4 Dl = some (.lst acc) ∧ acc.length < sizeLine ∧ Clw H ys Dl (i + 1) (upd H4 Dl (.lst (acc ++ [y])))
  refine he H' p2 _ fun q H4 hq e4 h4 => ⟨as.map V.ref, e4 _ _ p3, sz_lt (by rw [List.length_map, p4.len, List.length_map, List.length_range]; omega), p1, Ex.mut (p2.trans e4) p1, as ++ [q], ?_, ?_, ?_⟩
  · rw [upd_same, List.map_append]; rfl
  · have hqD : q ≠ Dl := ne_of_new' p3 hq
    have hqa : q ∉ as := fun z => by
      obtain ⟨_, xs, e⟩ := p4.mem z
      rw [hq] at e; cases e
    rw [List.range_succ, List.map_append]
    have k4 := (p4.ex e4)
    refine NR.snoc (H := upd H4 Dl (.lst (as.map V.ref ++ [V.ref q]))) ⟨k4.len, fun j a xs h1 h2 => ?_, k4.nd⟩ (fresh_back p2 hq) (by rw [upd_ne hqD]; exact h4) hqa
    obtain ⟨z1, z2⟩ := k4.at_ j a xs h1 h2
    have : a ≠ Dl := fun z => p5 (z ▸ List.mem_of_getElem? h1)
    exact ⟨z1, by rw [upd_ne this]; exact z2⟩
  · intro z
    rcases List.mem_append.mp z with z | z
    · exact p5 z
    · rw [List.mem_singleton] at z
      rw [← z, p3] at hq; cases hq
section
variable {K : PySem.W.Frag} {σ : L2.St} {H : Hp} {te : TE}
theorem ell_T {a : Addr} {xs : List V} {tl : TE} {j : Nat} {vs : List Nat} (ys : Nat → List V) (h : Ev tl σ H (.ref a)) (hx : SqT K H a xs) (hz : xs.length ≤ 40000) (hw : ∀ x, wipe ((wipe σ vs).set j (some x)) vs = wipe σ vs)
    (he : ∀ (i : Nat) (x : V) H1, Ex H H1 → xs[i]? = some x → EvL te ((wipe σ vs).set j (some x)) H1 (ys i)) : EvLL (tLc (iTup K tl) (gName j) tYes te vs) σ H ((List.range xs.length).map ys) := fun H0 e Q q => h H0 e _ fun H1 e1 => ⟨a, rfl, ⟨xs, ex_t (e.trans e1) hx⟩, fun Dl hD =>
  lc_tup (xs := xs) (Clw H1 ys Dl) ⟨hD, Ex.new hD, [], upd_same, .nil, List.not_mem_nil⟩ (fun i H' _ p => ex_t ((e.trans e1).trans p.2.1) hx) (fun i x H' hi p => ⟨hw x, clw_turn p (by have := (List.getElem?_eq_some_iff.mp hi).1; omega) (he i x H1 (e.trans e1) hi)⟩)
    (fun H' ⟨p1, p2, as, p3, p4, p5⟩ => q Dl as H' (fresh_back e1 p1) (e1.trans p2) p3 (p4.back e1) p5)⟩
theorem ell_L {a : Addr} {xs : List V} {tl : TE} {j : Nat} {vs : List Nat} (ys : Nat → List V) (h : Ev tl σ H (.ref a)) (hx : SqL K H a xs) (hz : xs.length ≤ 40000) (hw : ∀ x, wipe ((wipe σ vs).set j (some x)) vs = wipe σ vs)
    (he : ∀ (i : Nat) (x : V) H1, Ex H H1 → xs[i]? = some x → EvL te ((wipe σ vs).set j (some x)) H1 (ys i)) : EvLL (tLc (iList K tl) (gName j) tYes te vs) σ H ((List.range xs.length).map ys) := fun H0 e Q q => h H0 e _ fun H1 e1 => ⟨a, rfl, ⟨xs, ex_l (e.trans e1) hx⟩, fun Dl hD =>
  lc_list (xs := xs) (Clw H1 ys Dl) ⟨hD, Ex.new hD, [], upd_same, .nil, List.not_mem_nil⟩ (fun i H' _ p => ex_l ((e.trans e1).trans p.2.1) hx) (fun i x H' hi p => ⟨hw x, clw_turn p (by have := (List.getElem?_eq_some_iff.mp hi).1; omega) (he i x H1 (e.trans e1) hi)⟩)
    (fun H' ⟨p1, p2, as, p3, p4, p5⟩ => q Dl as H' (fresh_back e1 p1) (e1.trans p2) p3 (p4.back e1) p5)⟩
/-- for x in a tuple: the body lets what is there stand -/
theorem q_forTn {D : Ends} {tu tz : TS} {a : Addr} {xs : List V} {tl : TE} {j : Nat} (h : Ev tl σ H (.ref a)) (hx : SqT K H a xs) (Pv : Nat → L2.St → Hp → Prop) (h0 : ∀ H1, Ex H H1 → Pv 0 σ H1) (hl : ∀ i σ' H', i ≤ xs.length → Pv i σ' H' → SqT K H' a xs)
    (hs : ∀ i x σ' H', xs[i]? = some x → Pv i σ' H' → tu { D with nx := Pv (i + 1), ct := Pv (i + 1), bk := tz D } (σ'.set j (some x)) H') (hd : ∀ σ' H', Pv xs.length σ' H' → tz D σ' H') : tSeq (tFor (iTup K tl) (gName j) tu) tz D σ H :=
  q_forT h hx Pv h0 hl hs hd
/-- lists of rows of ints as data -/
theorem dp_rows {H0 : Hp} : ∀ {as : List Addr} {rows : List (List Int)}, NR H0 H as (rows.map fun r => r.map V.int) → DpAll K H (as.map V.ref) (rows.map fun r => PyData.list (r.map PyData.int))
  | [], [], _ => .nil
  | [], _ :: _, h => by have := h.len; simp at this
  | _ :: _, [], h => by have := h.len; simp at this
  | a :: as, r :: rows, h => by
    have h1 := (h.at_ 0 a (r.map V.int) rfl rfl).2
    refine .cons (.lst (sq_of h1) (dpAll_ints r)) (dp_rows (H0 := H0) ⟨by have := h.len; simpa using this, fun i b xs e1 e2 => h.at_ (i + 1) b xs e1 e2, (List.nodup_cons.mp h.nd).2⟩)
theorem eqv_rows : ∀ (a b : List (List Int)), PyData.eqvAll (a.map fun r => PyData.list (r.map PyData.int)) (b.map fun r => PyData.list (r.map PyData.int)) = decide (a = b)
  | [], [] => by simp [PyData.eqvAll]
  | [], _ :: _ => by simp [PyData.eqvAll]
  | _ :: _, [] => by simp [PyData.eqvAll]
  | x :: a, y :: b => by
    rw [List.map_cons, List.map_cons, PyData.eqvAll, eqv_rows a b, PyData.eqv, eqvAll_ints]
    by_cases h : x = y
    · subst h; simp
    · simp [h]
theorem canLay_rows : ∀ a : List (List Int), PyData.canLayAll0 (a.map fun r => PyData.list (r.map PyData.int)) = true
  | [] => rfl
  | x :: a => by rw [List.map_cons, PyData.canLayAll0, canLay_rows a, PyData.canLay0, canLay_ints]; rfl
theorem depth_rows : ∀ a : List (List Int), PyData.depthAll (a.map fun r => PyData.list (r.map PyData.int)) ≤ 1
  | [] => by simp [PyData.depthAll]
  | x :: a => by
    have := depth_rows a
    rw [List.map_cons, PyData.depthAll, PyData.depth, depth_ints]; omega
theorem shaped_rows (a : List (List Int)) : SeqAt.shaped (.list (a.map fun r => PyData.list (r.map PyData.int))) = true := by
  have := depth_rows a
  unfold SeqAt.shaped
  rw [PyData.canLay0, canLay_rows, PyData.depth]
  simp
  omega
def IsRows (K : PySem.W.Frag) (H : Hp) (p : Addr) (rows : List (List Int)) : Prop := Dp K H (.ref p) (.list (rows.map fun r => PyData.list (r.map PyData.int)))
theorem isRows_of {H0 : Hp} {p : Addr} {as : List Addr} {rows : List (List Int)} (h : H p = some (.lst (as.map V.ref))) (n : NR H0 H as (rows.map fun r => r.map V.int)) : IsRows K H p rows := .lst (sq_of h) (dp_rows n)
theorem rv_eqRows {x y : Addr} {a b : List (List Int)} (h1 : ∀ H1, Ex H H1 → IsRows K H1 x a) (h2 : ∀ H1, Ex H H1 → IsRows K H1 y b) : RV (rEqD K) (.ref x) (.ref y) H (.bl (decide (a = b))) := fun H1 e Q q =>
  ⟨_, _, h1 H1 e, h2 H1 e, shaped_rows a, shaped_rows b, by rw [PyData.eqv, eqv_rows]; exact q H1 (Ex.refl H1)⟩
theorem rv_neRows {x y : Addr} {a b : List (List Int)} (h1 : ∀ H1, Ex H H1 → IsRows K H1 x a) (h2 : ∀ H1, Ex H H1 → IsRows K H1 y b) : RV (rNeD K) (.ref x) (.ref y) H (.bl (!decide (a = b))) := fun H1 e Q q =>
  ⟨_, _, h1 H1 e, h2 H1 e, shaped_rows a, shaped_rows b, by rw [PyData.eqv, eqv_rows]; exact q H1 (Ex.refl H1)⟩
/-- over range(lo, hi) -/
theorem el_lcR2 {t : TT} {ta : TA} {j : Nat} {vs : List Nat} {lo n : Int} (f : Nat → Bool) (v : Nat → V) (h : EvA ta σ H [.int lo, .int n]) (hn : 0 ≤ lo ∧ lo ≤ 40000 ∧ -40000 ≤ n ∧ n ≤ 40000) (hw : ∀ x, wipe ((wipe σ vs).set j (some x)) vs = wipe σ vs)
    (ht : ∀ (i : Nat) H1, Ex H H1 → lo + (i : Int) < n → EvT t ((wipe σ vs).set j (some (.int (lo + (i : Int))))) H1 (f i)) (he : ∀ (i : Nat) H1, Ex H H1 → lo + (i : Int) < n → f i = true → Ev te ((wipe σ vs).set j (some (.int (lo + (i : Int))))) H1 (v i)) :
    EvL (tLc (iRng2 ta) (gName j) t te vs) σ H (given (n - lo).toNat f v) := fun H0 e Q q => h H0 e _ fun H1 e1 => ⟨lo, n, rfl, ⟨by omega, by omega, by omega, by omega⟩, fun Dl hD =>
  lc_range (lo := lo) (n := (n - lo).toNat) (Cw H1 f v Dl) ⟨hD, Ex.new hD, upd_same⟩ (fun i H' hi p => ⟨hw _, cw_turn p (by omega) (ht i H1 (e.trans e1) (by omega)) (fun hf => he i H1 (e.trans e1) (by omega) hf)⟩) (fun H' p => q Dl H' (fresh_back e1 p.1) (e1.trans p.2.1) p.2.2)⟩
end
end Pk
end

section
/-! A for loop in a generator's body. -/
namespace Pk
open PySem PySem.Spec PyProof.Rows L2 Evl
section
variable {M : Model} {A : Around} {R : GenEnd} {Y : Protocol} {n : Nat} {s₀ : Shared} {c : Code} {fs : List Frame} {s : Shared} {env : Env} {K : Flow → Sem PySem.Fin} {J : Value → Sem PySem.Fin} {gd : Bool → Bool} {lv : List Value → List Value}
theorem seg_For {target iter : Expr} {body orelse : List Stmt} {pos : Pos} (hs : ∀ x, foldedSetIterable iter env x = pure x)
    (h : wpAny M (A.over c fs) (eval iter env) (fun x s1 => wpAny M (A.over c fs) (pyIter x) (fun it s2 => ∀ p, Seg M A R Y n s₀ (.forLoop target it body orelse env) (M.den (.forLoop target it body orelse env))
        (.ret (fun r => ((match r with | .ok f => (.pure f : Sem Flow) | .error e => .raise e).onRaise (cameBack env)).wrap K J gd lv) none (gd false) (lv []) c p [] :: fs) s2)
      (fun x s' => Seg M A R Y n s₀ c (J x) fs s') s1) (fun x s' => Seg M A R Y n s₀ c (J x) fs s') s) :
    Seg M A R Y n s₀ c ((exec (.For target iter body orelse pos) env).wrap K J gd lv) fs s := by
  rw [exec_For]
  refine seg_bind_wrap (wpAny_standAt ?_)
  refine seg_bind_wrap (wpAny_mono h (fun x s1 h1 => ?_) fun _ _ z => z)
  refine seg_bind_wrap (wpAny_of_eq (hs x) ?_)
  refine seg_bind_wrap (wpAny_standAt ?_)
  refine seg_bind_wrap (wpAny_holding (wpAny_mono h1 (fun it s2 h2 => ?_) fun _ _ z => z))
  exact seg_call h2
end
section
variable {prog : Program} {w : World} {A : Around} {R : GenEnd} {Y : Protocol} {n : Nat} {s₀ : Shared} {fs : List Frame} {s : Shared} {env : Env}
abbrev noted (env : Env) (e : Value) : Sem PySem.Fin := (do noteFrame e env; theTreesLotGoes e : Sem Unit).wrap (fun _ => .raise e) .raise id id
theorem seg_forLoop {target : Expr} {it : Value} {body : List Stmt}
    (h : wpAny (model prog w) (A.over (.forLoop target it body [] env) fs) (pyNext it) (fun r s1 => match r with
        | none => Seg (model prog w) A R Y n s₀ (.block [] env) (leafOf (.ok .next)) fs s1
        | some v => wpAny (model prog w) (A.over (.forLoop target it body [] env) fs) (letOwnedTupleGo target it v) (fun _ s1' => wpAny (model prog w) (A.over (.forLoop target it body [] env) fs) (assign target env v) (fun _ s2 =>
            Seg (model prog w) A R Y n s₀ (.forLoop target it body [] env) ((execs body env).wrap (fun f => match f with
              | .next | .cont => .pure (.again (.forLoop target it body [] env))
              | .brk => .pure (.done .next)
              | .ret v => .pure (.done (.ret v))) (noted env) id id) fs s2)
          (fun x s' => Seg (model prog w) A R Y n s₀ (.forLoop target it body [] env) (noted env x) fs s') s1') (fun x s' => Seg (model prog w) A R Y n s₀ (.forLoop target it body [] env) (noted env x) fs s') s1)
      (fun x s' => Seg (model prog w) A R Y n s₀ (.forLoop target it body [] env) (noted env x) fs s') s) :
    Seg (model prog w) A R Y n s₀ (.forLoop target it body [] env) ((model prog w).den (.forLoop target it body [] env)) fs s := by
  show Seg _ A R Y n s₀ _ ((forTurn target it body [] env).onRaise (fun x => do noteFrame x env; theTreesLotGoes x)) fs s
  unfold forTurn
  have e : ∀ m : Sem PySem.Fin, (m.onRaise fun x => do noteFrame x env; theTreesLotGoes x) = m.wrap .pure (noted env) id id := fun m => by
    rw [Sem.onRaise_eq_wrap]
    refine Sem.wrap_congr m _ _ (fun _ => rfl) fun x => ?_
    first
      | rfl
      | exact Sem.bind_eq_wrap _ _
      | (show (do noteFrame x env; theTreesLotGoes x : Sem Unit).bind (fun _ => .raise x) = _; rw [Sem.bind_eq_wrap])
  rw [e]
  refine seg_bind_wrap (wpAny_standAt ?_)
  refine seg_bind_wrap (wpAny_onRaise (wpAny_mono h (fun r s1 h1 => ?_) fun _ _ z => wpAny_standAt z))
  cases r with
  | none => exact seg_again (c' := .block [] env) rfl h1
  | some v =>
    refine seg_bind_wrap (wpAny_mono h1 (fun _ s1' h1' => ?_) fun _ _ z => z)
    refine seg_bind_wrap (wpAny_mono h1' (fun _ s2 h2 => ?_) fun _ _ z => z)
    rw [Sem.bind_eq_wrap', Sem.wrap_wrap]
    rw [Sem.wrap_congr (execs body env) _ _ (K' := fun f => match f with
              | .next | .cont => .pure (.again (.forLoop target it body [] env))
              | .brk => .pure (.done .next)
              | .ret v => .pure (.done (.ret v))) (H' := noted env) (fun f => by cases f <;> rfl) (fun e => by rfl)]
    exact h2
end
section
variable {X : Cx}
def tGFor (wi : TI) (g : TG) (tb : TGn) : TGn := fun D ys σ H => wi σ H fun J H1 => ∃ W : Nat → Nat → List V → L2.St → Hp → Prop, (∃ m, W 0 m ys σ H1) ∧ ∀ i m ys σ H, W i m ys σ H →
  (J.stop i H ∧ D.nx ys σ H) ∨ (J.go i H ∧ ∃ N : List V → L2.St → Hp → Prop, (∀ ys' σ' H', N ys' σ' H' → ∃ m', m' < m ∧ W (i + 1) m' ys' σ' H') ∧ ∀ x H', J.yld i H x H' → g x σ H' fun σ2 H2 => tb { D with nx := N, ct := N, bk := D.nx } ys σ2 H2)
theorem gs_for {nmx : Str} {px : Pos} {iter : Expr} {body : List Stmt} {wi : TI} {g : TG} {tb : TGn} {pos : Pos} (hp : PassesOwn (model X.prog X.w) X.A X.env X.xe) (hc : X.calm = true) (hi : PI X (.Name nmx px) iter wi) (hg : PG X (.Name nmx px) g) (hb : GSs X body tb)
    (hs : ∀ x, foldedSetIterable iter X.env x = pure x := by intro _; rfl) : GS X (.For (.Name nmx px) iter body [] pos) (tGFor wi g tb) := by
  refine ⟨fun A S ip R n ys s₀ c fs K J gd lv s σ H D gc hn k hI ht => ?_⟩
  obtain ⟨acc, cc, r, I⟩ := hI
  refine seg_For hs ?_
  rw [gc.over]
  refine wpAny_mono (hi.run _ s σ H _ I ht) (fun v s1 h1 => wpAny_mono h1 (fun itv s2 h2 => ?_) fun x s' hx => k.exc n s₀ x s' hx) fun x s' hx => k.exc n s₀ x s' hx
  obtain ⟨it, fp, tn, Ji, H2, e, I2, T, st2, f2, W, ⟨m0, w0⟩, turn⟩ := h2
  subst e
  intro p
  have stat : ∀ {H' : Hp}, (∀ b ∈ fp, H' b = none) → ∀ b ∈ fp, FpOk X ((S, lstObj acc cc) :: ip) H' b := fun hn b hb => ⟨hn b hb, (f2 b hb).2⟩
  -- the same with what the list at S holds by now
  have stat2 : ∀ {H' : Hp} {acc' : Array Value} {c' : Nat}, (∀ b ∈ fp, H' b = none) → ∀ b ∈ fp, FpOk X ((S, lstObj acc' c') :: ip) H' b := fun {H' acc' c'} hn b hb => by
    obtain ⟨z1, z2, z3, z4, z5⟩ := (f2 b hb).2
    refine ⟨hn b hb, z1, z2, z3, z4, fun q hq => ?_⟩
    rcases List.mem_append.mp hq with hq | hq
    · exact z5 q (List.mem_append_left _ hq)
    · rcases List.mem_cons.mp hq with rfl | hq
      · exact z5 (S, lstObj acc cc) (List.mem_append_right _ (List.mem_cons_self ..))
      · exact z5 q (List.mem_append_right _ (List.mem_cons_of_mem _ hq))
  have hpS : ∀ b ∈ fp, S ≠ b := fun b hb => by
    have z5 := (f2 b hb).2.2.2.2.2
    exact z5 (S, lstObj acc cc) (List.mem_append_right _ (List.mem_cons_self ..))
  have gl := fun (kk : Result → Sem PySem.Fin) (ip' : List (Addr × Obj)) (h' : ∀ q ∈ ip', q.1 ≠ S) => gc_loop (k := kk) (c' := .forLoop (.Name nmx px) (.ref it) body [] X.env) (l := lv []) (kp := []) (p := p) (ip := ip') (show GC X S ip' A c fs gd from ⟨gc.pn, h', gc.apart, gc.over, gc.split, gc.guard, gc.gd⟩) rfl rfl
  have ee : ∀ (n : Nat) (s₀ : Shared) (y : Value) (s' : Shared), X.xe y s' → Seg (model X.prog X.w) A R (GY X S) n s₀ (.forLoop (.Name nmx px) (.ref it) body [] X.env) (noted X.env y)
      (.ret (fun r => ((match r with | .ok f => (.pure f : Sem Flow) | .error e => .raise e).onRaise (cameBack X.env)).wrap K J gd lv) none (gd false) (lv []) c p [] :: fs) s' := fun n s₀ y s' hx => by
    refine seg_wrap ?_
    rw [(gl _ ip gc.ip).over]
    refine wpAny_bind (wpAny_mono (hp y s' hx) (fun _ s'' hcb => wpAny_theTreesLotGoes ?_) fun z s'' hcb => ?_)
    · exact seg_leaf (.error y) (seg_cameBack gc k hcb)
    · exact seg_leaf (.error z) (seg_cameBack gc k hcb)
  have loop : ∀ (m i n : Nat) (ys : List V) (s₀ s : Shared) (σ : L2.St) (H : Hp), n + ys.length = sizeLine → W i m ys σ H → GI X S ip ys σ H s → tn i s.heap → (∀ b ∈ fp, H b = none) →
      Seg (model X.prog X.w) A R (GY X S) n s₀ (.forLoop (.Name nmx px) (.ref it) body [] X.env) ((model X.prog X.w).den (.forLoop (.Name nmx px) (.ref it) body [] X.env))
        (.ret (fun r => ((match r with | .ok f => (.pure f : Sem Flow) | .error e => .raise e).onRaise (cameBack X.env)).wrap K J gd lv) none (gd false) (lv []) c p [] :: fs) s := by
    intro m
    induction m using Nat.strongRecOn with
    | ind m ih =>
      intro i n ys s₀ s3 σ3 H3 hn w3 hI3 st3 fr3
      obtain ⟨acc3, c3, r3, I3⟩ := hI3
      refine seg_forLoop ?_
      rw [(gl _ ip gc.ip).over]
      rcases turn i m ys σ3 H3 w3 with ⟨stop, qn⟩ | ⟨go, N, hN, step⟩
      · refine wpAny_mono (T.done X rfl rfl rfl hc i _ s3 σ3 H3 X.xe I3 (stat2 fr3) st3 stop) (fun r s4 ⟨hr, I4⟩ => ?_) fun y s' hx => ee n s₀ y s' hx
        subst hr
        exact seg_leaf (.ok .next) (k.ok n ys s₀ s4 .next hn ⟨σ3, H3, ⟨acc3, c3, r3, I4⟩, qn⟩)
      · refine wpAny_mono (T.item X rfl rfl rfl hc i _ s3 σ3 H3 X.xe I3 (stat2 fr3) st3 go) (fun r s4 ⟨u, hr, h4⟩ => ?_) fun y s' hx => ee n s₀ y s' hx
        subst hr
        refine wpAny_mono h4 (fun _ s5 ⟨x, H5, I5, r5, y5, st5, fr5⟩ => ?_) fun y s' hx => ee n s₀ y s' hx
        have I5' := I5.pinned (stat2 fr5) (T.obj _ _ st5)
        refine wpAny_mono (hg.run _ s5 σ3 H5 x u _ I5' r5 (step x H5 y5)) (fun _ s6 ⟨σ6, H6, I6, q6⟩ => ?_) fun y s' hx => ee n s₀ y s' hx
        have hip2 : ∀ q ∈ ip ++ pinsAt fp s5.heap, q.1 ≠ S := fun q hq => by
          rcases List.mem_append.mp hq with hq | hq
          · exact gc.ip q hq
          · exact (hpS q.1 (of_pinsAt hq).1).symm
        have again : ∀ {f : Flow} {n' : Nat} {ys' : List V} {s₀' s7 : Shared} {σ7 : L2.St} {H7 : Hp}, n' + ys'.length = sizeLine → GI X S (ip ++ pinsAt fp s5.heap) ys' σ7 H7 s7 → N ys' σ7 H7 →
            Seg (model X.prog X.w) A R (GY X S) n' s₀' (.forLoop (.Name nmx px) (.ref it) body [] X.env) (.pure (.again (.forLoop (.Name nmx px) (.ref it) body [] X.env)))
              (.ret (fun r => ((match r with | .ok f => (.pure f : Sem Flow) | .error e => .raise e).onRaise (cameBack X.env)).wrap K J gd lv) none (gd false) (lv []) c p [] :: fs) s7 := fun {f n' ys' s₀' s7 σ7 H7} hn' hI7 n7 => by
          obtain ⟨m', hm, w7⟩ := hN ys' σ7 H7 n7
          obtain ⟨acc7, c7, r7, I7⟩ := hI7
          have pin7 : ∀ q ∈ pinsAt fp s5.heap, q ∈ X.pn ++ ((S, lstObj acc7 c7) :: (ip ++ pinsAt fp s5.heap)) := fun q hq => List.mem_append_right _ (List.mem_cons_of_mem _ (List.mem_append_right _ hq))
          refine seg_again rfl (ih m' hm (i + 1) n' ys' s₀' s7 σ7 H7 hn' w7 ⟨acc7, c7, r7, I7.pins_of fun q hq => ?_⟩ (T.keep _ _ _ st5 fun b hb o e => (I7.pin (b, o) (pin7 _ (mem_pinsAt hb e))).1) fun b hb => ?_)
          · rcases List.mem_cons.mp hq with rfl | hq
            · exact I7.pin _ (List.mem_append_right _ (List.mem_cons_self ..))
            · exact I7.pin q (List.mem_append_right _ (List.mem_cons_of_mem _ (List.mem_append_left _ hq)))
          · obtain ⟨o, e, d⟩ := T.obj _ _ st5 b hb
            exact (I7.pin (b, o) (pin7 _ (mem_pinsAt hb e))).2.1
        refine hb.run A S (ip ++ pinsAt fp s5.heap) R n ys s₀ _ _ _ _ id id s6 σ6 H6 { D with nx := N, ct := N, bk := D.nx } (gl _ _ hip2) hn ⟨fun n' ys' s₀' s7 f hn' hs => ?_, fun n' s₀' y s7 hx => ee n' s₀' y s7 hx⟩ ⟨acc3, c3, r3, I6⟩ q6
        have back : ∀ {ys' : List V} {σ7 : L2.St} {H7 : Hp}, GI X S (ip ++ pinsAt fp s5.heap) ys' σ7 H7 s7 → GI X S ip ys' σ7 H7 s7 := fun ⟨acc7, c7, r7, I7⟩ => ⟨acc7, c7, r7, I7.pins_of fun q hq => by
          rcases List.mem_cons.mp hq with rfl | hq
          · exact I7.pin _ (List.mem_append_right _ (List.mem_cons_self ..))
          · exact I7.pin q (List.mem_append_right _ (List.mem_cons_of_mem _ (List.mem_append_left _ hq)))⟩
        cases f with
        | next =>
          obtain ⟨σ7, H7, I7, n7⟩ := hs
          exact again (f := .next) hn' I7 n7
        | cont =>
          obtain ⟨σ7, H7, I7, n7⟩ := hs
          exact again (f := .cont) hn' I7 n7
        | brk =>
          obtain ⟨σ7, H7, I7, q7⟩ := hs
          exact seg_leaf (.ok .next) (k.ok n' ys' s₀' s7 .next hn' ⟨σ7, H7, back I7, q7⟩)
        | ret v =>
          obtain ⟨x7, σ7, H7, I7, r7, q7⟩ := hs
          exact seg_leaf (.ok (.ret v)) (k.ok n' ys' s₀' s7 (.ret v) hn' ⟨x7, σ7, H7, back I7, r7, q7⟩)
  exact loop m0 0 n ys s₀ s2 σ H2 hn w0 ⟨acc, cc, r, I2⟩ st2 fun b hb => (f2 b hb).1
end
end Pk
end

section
/-! Generator methods of several classes; list(o.m()). -/
namespace Pk
open PySem PySem.Spec PyProof.Rows L2 Evl
structure CalG {ι : Type} (P : Program) (w : World) (K : PySem.W.Frag) (mg : Str → Option Value) (base : Heap) (k : Nat) (CC : ι → Addr) (m : Str) (sp : ι → SpG) : Prop where
  ex : ∃ (f : ι → Addr) (fd : ι → FuncData), (∀ i, Meth K (CC i) m (f i)) ∧ (∀ i, GFn P w K mg base k (f i) (fd i) ["self"] (sp i)) ∧ ∀ i, Binds K (fd i) ["self"] []
theorem GFn.imp {P : Program} {w : World} {K : PySem.W.Frag} {mg : Str → Option Value} {base : Heap} {k : Nat} {f : Addr} {fd : FuncData} {ps : List Str} {sp sp' : SpG} (F : GFn P w K mg base k f fd ps sp) (h : ∀ vs H Q E, sp' vs H Q E → sp vs H Q E) : GFn P w K mg base k f fd ps sp' :=
  ⟨fun vs H Q E q => F.len _ _ _ _ (h _ _ _ _ q), fun A o s H ar us vs Q E r e b v q => F.run A o s H ar us vs Q E r e b v (h _ _ _ _ q)⟩
theorem gfn_ofD {P : Program} {w : World} {K : PySem.W.Frag} {mg : Str → Option Value} {base : Heap} {k : Nat} {f : Addr} {fd : FuncData} {x qual : Str} {params : Arguments} {body : List Stmt} {scope : Scope} {N ps : List Str} {sp : SpG}
    (F : FunD K x qual params body scope [] [] f fd) (S : GScope N ps scope) (len : ∀ vs H Q E, sp vs H Q E → vs.length = ps.length)
    (hbody : ∀ (cdv : Value) (A : Around) (outer : List Env) (s : Shared) (H : Hp) (vs : List V) (Q : List V → Hp → Prop) (E : XK) (pn : List (Addr × Obj)), Room k (A.deeper (envOfC qual scope s.heap.objs.size f cdv)) → sp vs H Q E →
      ∃ t, GSs (gcxOf P w K mg base N qual scope f cdv A outer s H E pn) body t ∧ t { nx := fun ys _ H' => Q ys H', rt := fun ys v H' => v = .non ∧ Q ys H' } [] (start N vs) H) :
    GFn P w K mg base (k + 1) f fd ps sp := by
  obtain ⟨oc, od, dV, kV, doc, pm, an, cdv, ct, osl, rfl, lk, hcd, hD, _⟩ := F.ex
  exact gfn_of lk hcd S len fun A outer s H vs Q E pn hr hs => hbody cdv A outer s H vs Q E pn hr hs
section
variable {ι : Type} {X : Cx} {k : Nat} {CC : ι → Addr} {sp : ι → SpG} {m : Str} {p pos apos : Pos} {o : Expr} {ta : TE}
def tListM (CC : ι → Addr) (m : Str) (sp : ι → SpG) (ta : TE) : TE := fun σ H Q => ∃ i, tListG (tMethG (CC i) m (sp i) [] E0 ta tNil) σ H Q
theorem pe_listM {pos' : Pos} {pl : Sem Bool} (he : PE X o ta) (c : ∀ i, Cls X.K (CC i)) (M : CalG X.prog X.w X.K X.mg X.base k CC m sp) (hr : Room (k + 3) X.A) (hmg : X.mg "list" = none) (hg : Gl X "list" := by rfl)
    (ht : eval (.Call (.Attribute o m apos) [] [] pos') X.env = (do
      let ov ← eval o X.env
      standAt apos.atName
      let (f, first) ← holding [ov] (getMethod ov m pl)
      callWith pos' f first (backTo pos' (starEach [] X.env)) (backToKw pos' (keywordEach [] X.env))) := by rfl)
    (hst : starEach [.Call (.Attribute o m apos) [] [] pos'] X.env = (false, eval (.Call (.Attribute o m apos) [] [] pos') X.env) :: starEach [] X.env := by rfl) :
    PE X (.Call (.Name "list" p) [.Call (.Attribute o m apos) [] [] pos'] [] pos) (tListM CC m sp ta) := by
  obtain ⟨f, fd, hm, F, B⟩ := M.ex
  exact PE.any fun i => pe_listG (pgen_meth0 he (c i) (hm i) (F i) ⟨hr.hd, by have := hr.dp; omega, by have := hr.un; omega⟩ (B i) .nil ht) (fun _ _ _ _ _ _ _ h => (cx_none h).elim) (fun _ _ _ h => h.elim) hr hg hmg rfl (he := hst)
end
section
variable {K : PySem.W.Frag} {σ : L2.St} {H : Hp} {te : TE}
theorem qg_forL {D : GEnds} {tb : TGn} {a : Addr} {xs : List V} {tl : TE} {j : Nat} {ys : List V} (h : Ev tl σ H (.ref a)) (hx : SqL K H a xs) (Pv : Nat → List V → L2.St → Hp → Prop) (h0 : ∀ H1, Ex H H1 → Pv 0 ys σ H1) (hl : ∀ i ys σ' H', i ≤ xs.length → Pv i ys σ' H' → SqL K H' a xs)
    (hs : ∀ i x ys σ' H', xs[i]? = some x → Pv i ys σ' H' → tb { D with nx := Pv (i + 1), ct := Pv (i + 1), bk := D.nx } ys (σ'.set j (some x)) H') (hd : ∀ ys σ' H', Pv xs.length ys σ' H' → D.nx ys σ' H') : tGFor (iList K tl) (gName j) tb D ys σ H :=
  h H (Ex.refl H) _ fun H1 e => ⟨a, rfl, ⟨xs, ex_l e hx⟩, fun i m ys σ H => m = xs.length - i ∧ i ≤ xs.length ∧ Pv i ys σ H, ⟨xs.length, by simp, Nat.zero_le _, h0 H1 e⟩, by
    rintro i m ys σ H ⟨rfl, hi, p⟩
    have q := hl i ys σ H hi p
    by_cases hlt : i < xs.length
    · refine .inr ⟨⟨xs, xs[i], q, by simp [hlt]⟩, Pv (i + 1), fun ys' σ' H' p' => ⟨xs.length - (i + 1), by omega, rfl, hlt, p'⟩, fun x H' y => ?_⟩
      obtain ⟨e, y⟩ := y
      subst e
      exact hs i x ys σ _ (y xs q) p
    · have e : i = xs.length := by omega
      subst e
      exact .inl ⟨⟨xs, q, Nat.le_refl _⟩, hd ys σ H p⟩⟩
theorem calG_same {P : Program} {w : World} {K : PySem.W.Frag} {mg : Str → Option Value} {base : Heap} {k : Nat} {CR CS : Addr} {m : Str} {sp : Bool → SpG} {f g : Addr} {fd : FuncData} (h1 : Meth K CR m f) (h2 : Meth K CS m g) (e : g = f) (F : ∀ ad, GFn P w K mg base k f fd ["self"] (sp ad)) (B : Binds K fd ["self"] []) : CalG P w K mg base k (CCo CR CS) m sp :=
  ⟨fun _ => f, fun _ => fd, fun ad => by cases ad; exact h1; exact e ▸ h2, F, fun _ => B⟩
/-- list(o.m()) of rows -/
theorem ell_listM {ι : Type} {CC : ι → Addr} {sp : ι → SpG} {m : Str} {xss : List (List V)} {a dx : Addr} {fs : List (Str × V)} (i : ι) (h : Ev te σ H (.ref a)) (ho : H a = some (.ins (CC i) dx fs)) (hf : fs.lookup m = none)
    (hs : ∀ H1, Ex H H1 → ∀ (Q : List V → Hp → Prop), (∀ as H2, Ex H1 H2 → NR H1 H2 as xss → Q (as.map V.ref) H2) → sp i [.ref a] H1 Q E0) : EvLL (tListM CC m sp te) σ H xss := fun H1 e Q q =>
  ⟨i, h H1 e _ fun H2 e2 => ⟨a, dx, fs, rfl, (e.trans e2) _ _ ho, hf, hs H2 (e.trans e2) _ fun as H3 e3 nr p hp => by
    refine q p as _ ?_ ((e2.trans e3).trans (Ex.new hp)) upd_same ?_ ?_
    · exact fresh_back (e2.trans e3) hp
    · exact (nr.ex (Ex.new hp)).back e2
    · intro z
      obtain ⟨_, xs, e4⟩ := nr.mem z
      rw [hp] at e4; cases e4⟩⟩
end
end Pk
end

section
/-! Lists of rows: read, compared, shown. -/
namespace Pk
open PySem PySem.Spec PyProof.Rows L2 Evl
section
variable {K : PySem.W.Frag}
/-- an expression whose value is a list of rows -/
def EvRows (K : PySem.W.Frag) (te : TE) (σ : L2.St) (H : Hp) (rows : List (List Int)) : Prop := ∀ H1, Ex H H1 → ∀ Q : VK, (∀ p H2, Ex H1 H2 → (∀ H3, Ex H2 H3 → IsRows K H3 p rows) → Q (.ref p) H2) → te σ H1 Q
theorem er_nil {σ : L2.St} {H : Hp} : EvRows K (tLst (tCons (tLst tNil) tNil)) σ H [[]] := fun H1 e Q q =>
  w_lst (w_cons (EvL.go (el_lst ea_nil (by decide)) fun p H2 hp e2 h2 => w_nil ⟨show 1 ≤ sizeLine by decide, fun u hu => q u _ (e2.trans (Ex.new hu)) fun H3 e3 => .lst (sq_of (e3 _ _ upd_same)) (.cons (.lst (sq_of (e3 _ _ (Ex.new hu _ _ h2))) (dpAll_ints [])) .nil)⟩))
theorem er_one {σ : L2.St} {H : Hp} {te : TE} {row : List Int} (h : ∀ H1, Ex H H1 → EvL te σ H1 (row.map V.int)) : EvRows K (tLst (tCons te tNil)) σ H [row] := fun H1 e Q q =>
  w_lst (w_cons (EvL.go (h H1 e) fun p H2 hp e2 h2 => w_nil ⟨show 1 ≤ sizeLine by decide, fun u hu => q u _ (e2.trans (Ex.new hu)) fun H3 e3 => .lst (sq_of (e3 _ _ upd_same)) (.cons (.lst (sq_of (e3 _ _ (Ex.new hu _ _ h2))) (dpAll_ints row)) .nil)⟩))
theorem ev_neRows {σ : L2.St} {H : Hp} {ta tb : TE} {a b : List (List Int)} (h1 : EvRows K ta σ H a) (h2 : EvRows K tb σ H b) : Ev (tOp (rNeD K) ta tb) σ H (.bl (!decide (a = b))) := fun H1 e Q q =>
  h1 H1 e _ fun p H2 e2 hp => h2 H2 (e.trans e2) _ fun u H3 e3 hu => RV.go (rv_neRows (fun H4 e4 => hp H4 (e3.trans e4)) hu) fun H4 e4 => q H4 ((e2.trans e3).trans e4)
theorem ev_eqRows {σ : L2.St} {H : Hp} {ta tb : TE} {a b : List (List Int)} (h1 : EvRows K ta σ H a) (h2 : EvRows K tb σ H b) : Ev (tOp (rEqD K) ta tb) σ H (.bl (decide (a = b))) := fun H1 e Q q =>
  h1 H1 e _ fun p H2 e2 hp => h2 H2 (e.trans e2) _ fun u H3 e3 hu => RV.go (rv_eqRows (fun H4 e4 => hp H4 (e3.trans e4)) hu) fun H4 e4 => q H4 ((e2.trans e3).trans e4)

theorem er_ell {te : TE} {σ : L2.St} {H : Hp} {rows : List (List Int)} (h : EvLL te σ H (rows.map fun r => r.map V.int)) : EvRows K te σ H rows := fun H1 e Q q =>
  h H1 e _ fun p as H2 hp e2 h2 nr hn => q p H2 e2 fun H3 e3 => isRows_of (e3 _ _ h2) (nr.ex e3)
theorem given_all {n : Nat} {v : Nat → V} : given n (fun _ => true) v = (List.range n).map v := by
  unfold given
  rw [List.filter_eq_self.mpr fun _ _ => rfl]
/-- over a list of pairs -/
theorem el_lcP {σ : L2.St} {H : Hp} {a : Addr} {ts : List Addr} {tl te : TE} {vs : List Nat} {i j : Nat} (pr : Nat → V × V) (v : Nat → V) (h : Ev tl σ H (.ref a)) (hx : SqL K H a (ts.map V.ref)) (hz : ts.length ≤ 40000) (hw : ∀ x y, wipe (((wipe σ vs).set i (some x)).set j (some y)) vs = wipe σ vs)
    (hp : ∀ k t, ts[k]? = some t → H t = some (.tup [(pr k).1, (pr k).2]))
    (he : ∀ k t H1, Ex H H1 → ts[k]? = some t → Ev te (((wipe σ vs).set i (some (pr k).1)).set j (some (pr k).2)) H1 (v k)) :
    EvL (tLc (iList K tl) (gTup K 2 (gCons (gName i) (gCons (gName j) gNil))) tYes te vs) σ H ((List.range ts.length).map v) := fun H0 e Q q => h H0 e _ fun H1 e1 => ⟨a, rfl, ⟨_, ex_l (e.trans e1) hx⟩, fun Dl hD =>
  lc_list (xs := ts.map V.ref) (Cw H1 (fun _ => true) v Dl) ⟨hD, Ex.new hD, upd_same⟩ (fun i H' _ p => ex_l ((e.trans e1).trans p.2.1) hx) (fun k x H' hi p => by
      obtain ⟨t, ht, rfl⟩ := get_map hi
      have hk := (List.getElem?_eq_some_iff.mp ht).1
      exact g_pair (((e.trans e1).trans p.2.1) _ _ (hp k t ht)) ⟨hw _ _, cw_turn p (by omega) et_none (fun _ => he k t H1 (e.trans e1) ht)⟩)
    (fun H' p => by
      have h3 := p.2.2
      rw [given_all, List.length_map] at h3
      exact q Dl H' (fresh_back e1 p.1) (e1.trans p.2.1) h3)⟩
theorem dp_at {H : Hp} : ∀ {as : List Addr} {rows : List (List Int)}, as.length = rows.length → (∀ (i : Nat) (a : Addr) (r : List Int), as[i]? = some a → rows[i]? = some r → H a = some (.lst (r.map V.int))) → DpAll K H (as.map V.ref) (rows.map fun r => PyData.list (r.map PyData.int))
  | [], [], _, _ => .nil
  | [], _ :: _, h, _ => by simp at h
  | _ :: _, [], h, _ => by simp at h
  | a :: as, r :: rows, h, k => .cons (.lst (sq_of (k 0 a r rfl rfl)) (dpAll_ints r)) (dp_at (by simpa using h) fun i a r h1 h2 => k (i + 1) a r h1 h2)
theorem PstAt.rows {M : List Addr} {H : Hp} : ∀ {ts : List Addr} {rows : List (List Int)} {sums : List Int}, PstAt M H ts rows sums → ∃ as : List Addr, as.length = rows.length ∧ (∀ (i : Nat) (a : Addr) (r : List Int), as[i]? = some a → rows[i]? = some r → H a = some (.lst (r.map V.int))) ∧ ∀ (k : Nat) (t : Addr), ts[k]? = some t → ∃ a d, as[k]? = some a ∧ H t = some (.tup [.ref a, .int d])
  | _, _, _, .nil => ⟨[], rfl, fun i a r h _ => by simp at h, fun k t h => by simp at h⟩
  | _, _, _, .cons (a := a0) (d := d0) h1 h2 h3 h4 h => by
    obtain ⟨as, l, g, k⟩ := h.rows
    refine ⟨a0 :: as, by rw [List.length_cons, List.length_cons, l], fun i a r e1 e2 => ?_, fun n t e => ?_⟩
    · cases i with
      | zero => cases e1; cases e2; exact h4
      | succ i => exact g i a r e1 e2
    · cases n with
      | zero => cases e; exact ⟨_, _, rfl, h2⟩
      | succ n => exact k n t e
/-- [before for before, sums in past] -/
theorem er_past {M : List Addr} {σ : L2.St} {H : Hp} {q : Addr} {rows : List (List Int)} {sums : List Int} {tl : TE} {vs : List Nat} {i j : Nat} (hP : PAt M H q rows sums) (hz : rows.length ≤ 40000) (h : Ev tl σ H (.ref q)) (hw : ∀ x y, wipe (((wipe σ vs).set i (some x)).set j (some y)) vs = wipe σ vs)
    (hv : ∀ (x y : V) (H1 : Hp), Ev (tVar i) (((wipe σ vs).set i (some x)).set j (some y)) H1 x) : EvRows K (tLc (iList K tl) (gTup K 2 (gCons (gName i) (gCons (gName j) gNil))) tYes (tVar i) vs) σ H rows.reverse := by
  obtain ⟨ts, h1, h2⟩ := hP.ex
  obtain ⟨as, l, g, k⟩ := h2.rows
  have hl := h2.len
  -- the pairs, the first ones first
  have kr : ∀ (n : Nat) (t : Addr), ts.reverse[n]? = some t → ∃ a d, as.reverse[n]? = some a ∧ H t = some (.tup [.ref a, .int d]) := fun n t e => by
    have hn : n < ts.length := by have := (List.getElem?_eq_some_iff.mp e).1; rwa [List.length_reverse] at this
    rw [List.getElem?_reverse hn] at e
    obtain ⟨a, d, e1, e2⟩ := k _ _ e
    refine ⟨a, d, ?_, e2⟩
    rw [List.getElem?_reverse (by omega), l, ← hl]; exact e1
  have gr : ∀ (i : Nat) (a : Addr) (r : List Int), as.reverse[i]? = some a → rows.reverse[i]? = some r → H a = some (.lst (r.map V.int)) := fun i a r e1 e2 => by
    have hn : i < as.length := by have := (List.getElem?_eq_some_iff.mp e1).1; rwa [List.length_reverse] at this
    rw [List.getElem?_reverse hn] at e1
    rw [List.getElem?_reverse (by omega), ← l] at e2
    exact g _ a r e1 e2
  have dd : ∀ (n : Nat), ∃ d : Int, ∀ t, ts.reverse[n]? = some t → H t = some (.tup [.ref (as.reverse.getD n 0), .int d]) := fun n => by
    cases e : ts.reverse[n]? with
    | none => exact ⟨0, fun t z => nomatch z⟩
    | some t =>
      obtain ⟨a, d, e1, e2⟩ := kr n t e
      refine ⟨d, fun t' z => ?_⟩
      cases z
      rw [List.getD_eq_getElem?_getD, e1]; exact e2
  have el := el_lcP (K := K) (te := tVar i) (vs := vs) (i := i) (j := j) (fun n => (V.ref (as.reverse.getD n 0), V.int ((dd n).choose))) (fun n => V.ref (as.reverse.getD n 0)) h (sq_of h1) (by rw [List.length_reverse, hl]; exact hz) hw (fun n t e => (dd n).choose_spec t e) fun n t H1 e1 e => hv _ _ H1
  have ee : (List.range ts.reverse.length).map (fun n => V.ref (as.reverse.getD n 0)) = as.reverse.map V.ref := by
    rw [List.length_reverse, show ts.length = as.reverse.length by rw [List.length_reverse]; omega, map_range_get as.reverse 0 fun a => V.ref a]
  rw [ee] at el
  intro H1 e Q q
  refine el H1 e _ fun p H2 hp e2 h3 => q p H2 e2 fun H3 e3 => .lst (sq_of (e3 _ _ h3)) (dp_at (by rw [List.length_reverse, List.length_reverse, l]) fun i a r z1 z2 => (e.trans (e2.trans e3)) _ _ (gr i a r z1 z2))
/-! the text of a list of rows -/
theorem show_rows : ∀ {rows : List (List Int)}, (∀ r ∈ rows, ∀ x ∈ r, Sz x) → PyData.showableAll (rows.map fun r => PyData.list (r.map PyData.int)) = true
  | [], _ => rfl
  | r :: rows, h => by
    rw [List.map_cons, PyData.showableAll, show_rows fun x hx => h x (List.mem_cons_of_mem _ hx), Bool.and_true, PyData.showable]
    exact show_ints (h r (List.mem_cons_self ..))
theorem short_rows : ∀ {rows : List (List Int)}, (∀ r ∈ rows, ∀ x ∈ r, Sz x) → PyData.leavesShortAll 100 (rows.map fun r => PyData.list (r.map PyData.int)) = true
  | [], _ => rfl
  | r :: rows, h => by
    rw [List.map_cons, PyData.leavesShortAll, short_rows fun x hx => h x (List.mem_cons_of_mem _ hx), Bool.and_true, PyData.leavesShort]
    exact short_ints (h r (List.mem_cons_self ..))
theorem bulk_rows {B : Nat} : ∀ {rows : List (List Int)}, (∀ r ∈ rows, r.length ≤ B) → PyData.bulkAll (rows.map fun r => PyData.list (r.map PyData.int)) ≤ (B + 1) * rows.length
  | [], _ => by simp [PyData.bulkAll]
  | r :: rows, h => by
    have h1 := bulk_rows (rows := rows) fun x hx => h x (List.mem_cons_of_mem _ hx)
    have h2 := h r (List.mem_cons_self ..)
    rw [List.map_cons, PyData.bulkAll, PyData.bulk, bulk_ints, List.length_cons, Nat.mul_succ]
    omega
theorem nodict_rows : ∀ rows : List (List Int), PyData.hasDictAll (rows.map fun r => PyData.list (r.map PyData.int)) = false
  | [] => rfl
  | r :: rows => by rw [List.map_cons, PyData.hasDictAll, nodict_rows rows, PyData.hasDict, nodict_ints]; rfl
def rpL (rows : List (List Int)) : Str := (PyData.list (rows.map fun r => PyData.list (r.map PyData.int))).shown
theorem rpL_len {rows : List (List Int)} (h : ∀ r ∈ rows, ∀ x ∈ r, Sz x) (hr : ∀ r ∈ rows, r.length ≤ 60) (hz : rows.length ≤ 14) : (rpL rows).length ≤ sizeLine := by
  have e := PyData.shown_le_bulk 100 (by decide) (.list (rows.map fun r => PyData.list (r.map PyData.int))) (by rw [PyData.leavesShort]; exact short_rows h)
  have b := bulk_rows hr
  rw [PyData.bulk] at e
  have h1 : (60 + 1) * rows.length ≤ 61 * 14 := Nat.mul_le_mul_left 61 hz
  have : (100 + 2) * PyData.bulkAll (rows.map fun r => PyData.list (r.map PyData.int)) + 100 ≤ 100000 := by omega
  exact Nat.le_trans e (sz_of this)
theorem rc_reprRows {H : Hp} {a : Addr} {rows : List (List Int)} (hS : ∀ H1, Ex H H1 → IsRows K H1 a rows) (h : ∀ r ∈ rows, ∀ x ∈ r, Sz x) (hr : ∀ r ∈ rows, r.length ≤ 60) (hz : rows.length ≤ 14) : RC (rRepr K) [.ref a] H (.str (rpL rows)) := fun H1 e Q q =>
  ⟨.ref a, a, _, rfl, rfl, hS H1 e, by rw [PyData.showable]; exact show_rows h, by rw [PyData.hasDict]; exact nodict_rows rows, by
    have := depth_rows rows
    rw [PyData.depth]; omega, rpL_len h hr hz, q H1 (Ex.refl H1)⟩
/-! lists of rows that are written down -/
abbrev rowsD (rows : List (List Int)) : List PyData := rows.map fun r => PyData.list (r.map PyData.int)
def EvRw (K : PySem.W.Frag) (te : TE) (σ : L2.St) (H : Hp) (rows : List (List Int)) : Prop := ∀ H1, Ex H H1 → ∀ Q : VK, (∀ p xs H2, H1 p = none → Ex H1 H2 → H2 p = some (.lst xs) → xs.length = rows.length → (∀ H3, Ex H2 H3 → DpAll K H3 xs (rowsD rows)) → Q (.ref p) H2) → te σ H1 Q
def EaRw (K : PySem.W.Frag) (A : TA) (σ : L2.St) (H : Hp) (rows : List (List Int)) : Prop := ∀ H1, Ex H H1 → ∀ Q : List V → Hp → Prop, (∀ xs H2, Ex H1 H2 → xs.length = rows.length → (∀ H3, Ex H2 H3 → DpAll K H3 xs (rowsD rows)) → Q xs H2) → A σ H1 Q
theorem ear_nil {σ : L2.St} {H : Hp} : EaRw K tNil σ H [] := fun H1 e Q q => q [] H1 (Ex.refl H1) rfl fun H3 e3 => .nil
theorem ear_cons {σ : L2.St} {H : Hp} {te : TE} {A : TA} {row : List Int} {rows : List (List Int)} (he : EvL te σ H (row.map V.int)) (h : EaRw K A σ H rows) : EaRw K (tCons te A) σ H (row :: rows) := fun H1 e Q q =>
  he H1 e _ fun p H2 hp e2 h2 => h H2 (e.trans e2) _ fun xs H3 e3 hl hd => q (.ref p :: xs) H3 (e2.trans e3) (by rw [List.length_cons, List.length_cons, hl]) fun H4 e4 => .cons (.lst (sq_of ((e3.trans e4) _ _ h2)) (dpAll_ints row)) (hd H4 e4)
theorem erw_lst {σ : L2.St} {H : Hp} {A : TA} {rows : List (List Int)} (h : EaRw K A σ H rows) (hz : rows.length ≤ 100000) : EvRw K (tLst A) σ H rows := fun H1 e Q q =>
  w_lst (h H1 e _ fun xs H2 e2 hl hd => ⟨sz_of (by omega), fun p hp => q p xs _ (fresh_back e2 hp) (e2.trans (Ex.new hp)) upd_same hl fun H3 e3 => hd H3 ((Ex.new hp).trans e3)⟩)
theorem dpAll_app {H : Hp} : ∀ {xs ys : List V} {ds es : List PyData}, DpAll K H xs ds → DpAll K H ys es → DpAll K H (xs ++ ys) (ds ++ es)
  | _, _, _, _, .nil, h => h
  | _, _, _, _, .cons a b, h => .cons a (dpAll_app b h)
theorem erw_cat {σ : L2.St} {H : Hp} {ta tb : TE} {a b : List (List Int)} (h1 : EvRw K ta σ H a) (h2 : EvRw K tb σ H b) (hz : a.length + b.length ≤ 100000) : EvRw K (tOp rCat ta tb) σ H (a ++ b) := fun H1 e Q q =>
  h1 H1 e _ fun p xs H2 hp e2 hp2 hl hd => h2 H2 (e.trans e2) _ fun u ys H3 hu e3 hu2 hm hd2 =>
    ⟨p, u, xs, ys, rfl, rfl, e3 _ _ hp2, hu2, sz_of (by omega), fun w hw => q w (xs ++ ys) _ (fresh_back (e2.trans e3) hw) ((e2.trans e3).trans (Ex.new hw)) upd_same (by rw [List.length_append, List.length_append]; omega) fun H4 e4 => by
      have := dpAll_app (hd H4 (e3.trans ((Ex.new hw).trans e4))) (hd2 H4 ((Ex.new hw).trans e4))
      rw [← List.map_append] at this; exact this⟩
theorem dpAll_rep {H : Hp} {xs : List V} {ds : List PyData} (h : DpAll K H xs ds) : ∀ n : Nat, DpAll K H (List.replicate n xs).flatten (List.replicate n ds).flatten
  | 0 => .nil
  | n + 1 => by
    rw [List.replicate_succ, List.replicate_succ, List.flatten_cons, List.flatten_cons]
    exact dpAll_app h (dpAll_rep h n)
theorem erw_rep {σ : L2.St} {H : Hp} {ta tb : TE} {a : List (List Int)} {n : Nat} (h1 : EvRw K ta σ H a) (h2 : Ev tb σ H (.int (n : Int))) (hz : n * a.length ≤ 100000) (hn : n ≤ 100000) : EvRw K (tOp rRep ta tb) σ H (List.replicate n a).flatten := fun H1 e Q q =>
  h1 H1 e _ fun p xs H2 hp e2 hp2 hl hd => h2 H2 (e.trans e2) _ fun H3 e3 => by
    have el : ((List.replicate n xs).flatten).length = n * a.length := by rw [List.length_flatten, List.map_replicate, List.sum_replicate_nat, hl]
    refine ⟨p, n, xs, rfl, rfl, e3 _ _ hp2, by omega, by omega, ?_, fun w hw => ?_⟩
    · rw [Int.toNat_natCast, hl, Nat.mul_comm]; exact sz_of (by omega)
    · rw [Int.toNat_natCast] at *
      refine q w (List.replicate n xs).flatten _ (fresh_back (e2.trans e3) hw) ((e2.trans e3).trans (Ex.new hw)) upd_same ?_ fun H4 e4 => ?_
      · rw [el, List.length_flatten, List.map_replicate, List.sum_replicate_nat]
      · have := dpAll_rep (hd H4 (e3.trans ((Ex.new hw).trans e4))) n
        have e5 : (List.replicate n (rowsD a)).flatten = rowsD (List.replicate n a).flatten := by
          unfold rowsD
          rw [List.map_flatten, List.map_replicate]
        rw [e5] at this; exact this
theorem er_rw {te : TE} {σ : L2.St} {H : Hp} {rows : List (List Int)} (h : EvRw K te σ H rows) : EvRows K te σ H rows := fun H1 e Q q =>
  h H1 e _ fun p xs H2 hp e2 h2 _ hd => q p H2 e2 fun H3 e3 => .lst (sq_of (e3 _ _ h2)) (hd H3 e3)
theorem er_var {j : Nat} {σ : L2.St} {H : Hp} {p : Addr} {rows : List (List Int)} (h : σ[j]? = some (some (.ref p))) (hI : ∀ H1, Ex H H1 → IsRows K H1 p rows) : EvRows K (tVar j) σ H rows := fun H1 e Q q =>
  ev_var h H1 e _ fun H2 e2 => q p H2 e2 fun H3 e3 => hI H3 (e.trans (e2.trans e3))
end
end Pk
end

section
/-! Own error classes over ValueError: raised with a text, caught without a name. -/
namespace Pk
open PySem PySem.Spec PyProof.Rows L2 Evl
abbrev bmV : List Value := [.type "ValueError", .type "Exception", .type "BaseException", .type "object"]
/-- an own error class without an own __init__ -/
structure ErrC (K : PySem.W.Frag) (mg : Str → Option Value) (x : Str) (C : Addr) : Prop where
  gl : mg x = some (.ref C)
  ex : PySem.W.excIn K C bmV "ValueError.__new__" = true
  kp : PySem.W.keepIn K (.ref C) = true
  sub : PySem.W.subIn K (.ref C) (.type "BaseException") = some true
  ty : PySem.W.typeIn K (.ref C) = some (.type "type")
  self : PySem.W.exmOne K (.ref C) (.ref C) = some true
def errB (C : PySem.W.Frag → Addr) (K : PySem.W.Frag) : Bool := PySem.W.excIn K (C K) bmV "ValueError.__new__" && (PySem.W.keepIn K (.ref (C K)) && (decide (PySem.W.subIn K (.ref (C K)) (.type "BaseException") = some true) && (decide (PySem.W.typeIn K (.ref (C K)) = some (.type "type")) && decide (PySem.W.exmOne K (.ref (C K)) (.ref (C K)) = some true))))
theorem errB_ok {C : PySem.W.Frag → Addr} {K : PySem.W.Frag} {mg : Str → Option Value} {x : Str} (h : errB C K = true) (g : mg x = some (.ref (C K))) : ErrC K mg x (C K) := by
  obtain ⟨h1, h⟩ := He.ba h
  obtain ⟨h2, h⟩ := He.ba h
  obtain ⟨h3, h⟩ := He.ba h
  obtain ⟨h4, h5⟩ := He.ba h
  exact ⟨g, h1, h2, of_decide_eq_true h3, of_decide_eq_true h4, of_decide_eq_true h5⟩
theorem CalM.imp {ι : Type} {P : Program} {w : World} {K : PySem.W.Frag} {mg : Str → Option Value} {base : Heap} {k : Nat} {CC : ι → Addr} {m : Str} {ks : List Str} {sp sp' : ι → Sp} (c : CalM P w K mg base k CC m ks sp) (h : ∀ i vs H Q E, sp' i vs H Q E → sp i vs H Q E) : CalM P w K mg base k CC m ks sp' := by
  obtain ⟨f, a, F⟩ := c.ex
  exact ⟨f, a, fun i => (F i).imp fun vs H Q E q => h i vs H Q E q⟩
section
variable {X : Cx} {W : WX} {x m : Str} {j : Nat} {C : Addr} {p p2 pos pos' : Pos}
def tRz (W : WX) (C : Addr) : TS := fun _ σ H => W (.ref C) none σ H
/-- raise X('..') -/
theorem ps_raiseE (e : ErrC X.K X.mg x C) (hc : X.calm = true) (tk : Takes X W) (hg : Gl X x := by rfl) (hdb : (x == ("__debug__" : Str)) = false := by decide) : PS X (.Raise (some (.Call (.Name x p) [.Constant (.str m) j p2] [] pos)) none pos') (tRz W C) :=
  ps_raise hc tk (pmk_own PySem.F.excBase_ValueError e.ex e.gl e.kp (raises_own e.sub e.ty) hg hdb)
variable {body suite : List Stmt} {b₀ : Stmt} {np : Pos} {tb : WX → TS} {ts : Addr → Value → Option Addr → TS} {Wout : WX}
def tTry (K : PySem.W.Frag) (C : Addr) (tb : WX → TS) (ts : Addr → Value → Option Addr → TS) (Wout : WX) : TS := fun D σ H => tb (wOnly K (.ref C) ts Wout D) D σ H
/-- try: .. except X: .. -/
theorem ps_tryE (e : ErrC X.K X.mg x C) (hs : X.stack = X.env :: X.outer) (hf : X.env.frame = some X.env.locals) (tk : Takes X Wout)
    (hb : ∀ (W : WX) (pn : List (Addr × Obj)) (xe : Value → Shared → Prop), Takes (X.tr pn xe) W → PassesOwn (model X.prog X.w) X.A X.env xe → PSs (X.tr pn xe) body (tb W))
    (hsu : ∀ (a : Addr) (oe : Obj) (cls : Value) (d : Option Addr) (pn : List (Addr × Obj)), Zc cls d oe → (∃ vs, oe.data = .fields vs) → PSs (X.suite a ((a, oe) :: pn)) (b₀ :: suite) (ts a cls d))
    (hg : Gl X x := by rfl) (hdb : (x == ("__debug__" : Str)) = false := by decide) :
    PS X (.Try body [.ExceptHandler (some (.Name x np)) none (b₀ :: suite) pos'] [] [] pos) (tTry X.K C tb ts Wout) :=
  ps_try_only hs hf ⟨hg, hdb, .inl e.gl⟩ tk hb hsu
/-- the error is caught -/
theorem w_caught {K : PySem.W.Frag} {mg : Str → Option Value} {D : Ends} {σ : L2.St} {H : Hp} (e : ErrC K mg x C) (h : ∀ a, H a = none → ts a (.ref C) none D σ H) : wOnly K (.ref C) ts Wout D (.ref C) none σ H :=
  ⟨true, e.self, fun _ a ha => h a ha, fun z => nomatch z⟩
end
section
variable {σ : L2.St} {H : Hp} {ta tb : TE}
/-- a list that is there and a new one, joined -/
theorem el_catEL {a : Addr} {xs ys : List V} (ha : Ev ta σ H (.ref a)) (hx : H a = some (.lst xs)) (hb : EvL tb σ H ys) (hz : xs.length + ys.length ≤ 100000) : EvL (tOp rCat ta tb) σ H (xs ++ ys) := fun H1 e Q q =>
  ha H1 e _ fun H2 e2 => hb H2 (e.trans e2) _ fun p H3 hp e3 h3 => ⟨a, p, xs, ys, rfl, rfl, (e.trans (e2.trans e3)) _ _ hx, h3, sz_of hz, fun u hu => q u _ (fresh_back (e2.trans e3) hu) ((e2.trans e3).trans (Ex.new hu)) upd_same⟩
theorem el_catEE {a b : Addr} {xs ys : List V} (ha : Ev ta σ H (.ref a)) (hx : H a = some (.lst xs)) (hb : Ev tb σ H (.ref b)) (hy : H b = some (.lst ys)) (hz : xs.length + ys.length ≤ 100000) : EvL (tOp rCat ta tb) σ H (xs ++ ys) := fun H1 e Q q =>
  ha H1 e _ fun H2 e2 => hb H2 (e.trans e2) _ fun H3 e3 => ⟨a, b, xs, ys, rfl, rfl, (e.trans (e2.trans e3)) _ _ hx, (e.trans (e2.trans e3)) _ _ hy, sz_of hz, fun u hu => q u _ (fresh_back (e2.trans e3) hu) ((e2.trans e3).trans (Ex.new hu)) upd_same⟩
theorem el_catLE {b : Addr} {xs ys : List V} (ha : EvL ta σ H xs) (hb : Ev tb σ H (.ref b)) (hy : H b = some (.lst ys)) (hz : xs.length + ys.length ≤ 100000) : EvL (tOp rCat ta tb) σ H (xs ++ ys) := fun H1 e Q q =>
  ha H1 e _ fun p H2 hp e2 h2 => hb H2 (e.trans e2) _ fun H3 e3 => ⟨p, b, xs, ys, rfl, rfl, e3 _ _ h2, (e.trans (e2.trans e3)) _ _ hy, sz_of hz, fun u hu => q u _ (fresh_back (e2.trans e3) hu) ((e2.trans e3).trans (Ex.new hu)) upd_same⟩
end
end Pk
end

section
namespace Pk
open PySem PySem.Spec PyProof.Rows L2 Evl
def top (i : Nat) : Stmt := PySem.Challenge.pw_peakpeel_k39_long_histories.main.body.getD i (.Pass ⟨0, 0, 0, 0⟩)
abbrev s_wall : Stmt := top 0
abbrev s_TooLarge__init : Stmt := inClass (top 9) 0
abbrev s_is_integer : Stmt := top 11
abbrev s_is_row : Stmt := top 12
abbrev s_need_row : Stmt := top 13
abbrev s_need_rounds : Stmt := top 14
abbrev s_peak_places : Stmt := top 15
abbrev s_peeled_once : Stmt := top 16
abbrev s_peeled : Stmt := top 17
abbrev s_size_in : Stmt := top 23
abbrev s_integer_in : Stmt := top 24
abbrev s_read_row : Stmt := top 25
abbrev s_Ridge__init : Stmt := inClass (top 27) 1
abbrev s_Ridge_read : Stmt := inClass (top 27) 2
abbrev s_Ridge_go_on : Stmt := inClass (top 27) 3
abbrev s_Ridge_need_place_below : Stmt := inClass (top 27) 4
abbrev s_Ridge_need_entry : Stmt := inClass (top 27) 5
abbrev s_Ridge_put : Stmt := inClass (top 27) 6
abbrev s_Ridge_take : Stmt := inClass (top 27) 7
abbrev s_Ridge_change : Stmt := inClass (top 27) 8
abbrev s_Ridge_peel : Stmt := inClass (top 27) 9
abbrev s_Ridge_undo : Stmt := inClass (top 27) 10
abbrev s_Ridge_try_peel : Stmt := inClass (top 27) 11
abbrev s_Ridge_row_now : Stmt := inClass (top 27) 12
abbrev s_Ridge_times_now : Stmt := inClass (top 27) 13
abbrev s_Ridge_rows_so_far : Stmt := inClass (top 27) 14
abbrev s_Ridge_fresh : Stmt := inClass (top 27) 15
abbrev s_Ridge_twin : Stmt := inClass (top 27) 16
abbrev s_Ridge__len : Stmt := inClass (top 27) 17
abbrev s_Ridge__eq : Stmt := inClass (top 27) 18
abbrev s_SumRidge__init : Stmt := inClass (top 28) 0
abbrev s_SumRidge_go_on : Stmt := inClass (top 28) 1
abbrev s_SumRidge_undo : Stmt := inClass (top 28) 2
abbrev s_SumRidge_sum_now : Stmt := inClass (top 28) 3
abbrev s_SumRidge_fresh : Stmt := inClass (top 28) 4
abbrev s_SumRidge_twin : Stmt := inClass (top 28) 5
abbrev s_law_barrel : Stmt := top 30
abbrev s_law_draw : Stmt := top 31
abbrev s_law_entries : Stmt := top 32
abbrev s_law_one_round : Stmt := top 33
abbrev s_law_after : Stmt := top 34
abbrev s_law_made : Stmt := top 35
abbrev s_law_nothing : Stmt := top 36
abbrev s_law_changed : Stmt := top 37
abbrev s_law_run : Stmt := top 38
abbrev s_law : Stmt := top 39
/-! ### the text's defs -/
abbrev FnP (K : PySem.W.Frag) (x : Str) (st : Stmt) (f : Addr) (fd : FuncData) : Prop := FunD K x x (defArgs st) (defBody st) (defScope st) [] [] f fd
/-- the built-ins are what they are -/
structure Bl (mg : Str → Option Value) : Prop where
  n_len : mg "len" = none
  n_max : mg "max" = none
  n_min : mg "min" = none
  n_isinstance : mg "isinstance" = none
  n_list : mg "list" = none
  n_sum : mg "sum" = none
  n_all : mg "all" = none
  n_any : mg "any" = none
  n_range : mg "range" = none
  n_enumerate : mg "enumerate" = none
  n_zip : mg "zip" = none
  n_int : mg "int" = none
  n_str : mg "str" = none
  n_bool : mg "bool" = none
  n_repr : mg "repr" = none
  n_sorted : mg "sorted" = none
  n_super : mg "super" = none
  n_tuple : mg "tuple" = none
  n_set : mg "set" = none
  n_abs : mg "abs" = none
  n_reversed : mg "reversed" = none
section
variable {P : Program} {w : World} {K : PySem.W.Frag} {mg : Str → Option Value} {base : Heap}
theorem cal_of {k : Nat} {x : Str} {f : Addr} {fd : FuncData} {ps : List Str} {sp : Sp} (kp : PySem.W.keepIn K (.ref f) = true) (g : mg x = some (.ref f)) (b : Binds K fd ps []) (B : FnB P w K mg base k f fd ps sp) : Cal P w K mg base k x sp := ⟨f, g, kp, B.fn b⟩
end

section
variable {P : Program} {w : World} {K : PySem.W.Frag} {mg : Str → Option Value} {base : Heap} {CC : Bool → Addr} {NT : Addr}
/-! ### rows.py -/
/-- a bound that may lack -/
def optI : Option Int → V
  | none => .non
  | some i => .int i
def isIntB : V → Option Int → Option Int → Bool
  | .int i, lo, hi => (lo.all fun l => decide (l ≤ i)) && hi.all fun l => decide (i ≤ l)
  | _, _, _ => false
def isI : V → Bool
  | .int _ => true
  | _ => false
/-- what isinstance tells of a value -/
structure KindV (K : PySem.W.Frag) (H : Hp) (v : V) : Prop where
  ex : ∃ (t : Value) (bI bB : Bool), (∀ H1, Ex H H1 → TyX K H1 v t) ∧ PySem.W.kitOne K t (.type "int") = some bI ∧ PySem.W.kitOne K t (.type "bool") = some bB ∧ (bI && !bB) = isI v
theorem KindV.int {i : Int} {H : Hp} : KindV K H (.int i) := ⟨_, true, false, fun _ _ => .base (.int i), kit_ty (by decide +kernel), kit_ty (by decide +kernel), rfl⟩
theorem KindV.mono {H H1 : Hp} {v : V} (h : KindV K H v) (e : Ex H H1) : KindV K H1 v := by
  obtain ⟨t, bI, bB, a, b⟩ := h.ex
  exact ⟨t, bI, bB, fun H2 e2 => a H2 (e.trans e2), b⟩
def spInteger (K : PySem.W.Frag) : Sp := fun vs H Q _ => ∃ v lo hi, vs = [v, optI lo, optI hi] ∧ KindV K H v ∧ RetV (.bl (isIntB v lo hi)) H Q
theorem sc_is_integer : FnScope ["value", "least", "most"] ["value", "least", "most"] (defScope s_is_integer) := ⟨rfl, rfl, rfl, by decide +kernel, rfl, by decide +kernel, by decide +kernel⟩
theorem ok_is_integer {f : Addr} {fd : FuncData} (F : FnP K "is_integer" s_is_integer f fd) (g : mg "is_integer" = some (.ref f)) (T : Bl mg)   : Cal P w K mg base 1 "is_integer" (spInteger K) := by
  have nd := sc_is_integer.nd
  refine cal_of F.kp g (F.bindsN fun _ _ _ _ _ _ us hl => match us, hl with | [_, _, _], _ => rfl) (fn_body F sc_is_integer (fun vs H Q E h => ?_) (fun cdv A outer s H vs Q E hr h => ?_))
  · first | (obtain ⟨rfl, _⟩ := h; rfl) | (obtain ⟨_, rfl, _⟩ := h; rfl) | (obtain ⟨_, _, rfl, _⟩ := h; rfl) | (obtain ⟨_, _, _, rfl, _⟩ := h; rfl) | (obtain ⟨_, _, _, _, rfl, _⟩ := h; rfl) | (obtain ⟨_, _, _, _, _, rfl, _⟩ := h; rfl) | (obtain ⟨_, _, _, _, _, _, rfl, _⟩ := h; rfl) | (obtain ⟨_, _, _, _, _, _, _, rfl, _⟩ := h; rfl) | (obtain ⟨_, _, _, _, _, _, _, _, rfl, _⟩ := h; rfl) | (obtain ⟨_, _, _, _, _, _, _, _, _, rfl, _⟩ := h; rfl) | (obtain ⟨_, _, _, _, _, _, _, _, _, _, rfl, _⟩ := h; rfl) | (obtain ⟨_, _, _, _, _, _, _, _, _, _, _, rfl, _⟩ := h; rfl) | (obtain ⟨_, _, _, _, _, _, _, _, _, _, _, _, rfl, _⟩ := h; rfl) | (obtain ⟨_, _, _, _, _, _, _, _, _, _, _, _, _, rfl, _⟩ := h; rfl) | (obtain ⟨_, _, _, _, _, _, _, _, _, _, _, _, _, _, rfl, _⟩ := h; rfl) | (obtain ⟨_, _, _, _, _, _, _, _, _, _, _, _, _, _, _, rfl, _⟩ := h; rfl) | (obtain ⟨_, _, _, _, _, _, _, _, _, _, _, _, _, _, _, _, rfl, _⟩ := h; rfl) | (obtain ⟨_, _, _, _, _, _, _, _, _, _, _, _, _, _, _, _, _, rfl, _⟩ := h; rfl) | (obtain ⟨_, _, _, _, _, _, _, _, _, _, _, _, _, _, _, _, _, _, rfl, _⟩ := h; rfl) | (obtain ⟨_, _, _, _, _, _, _, _, _, _, _, _, _, _, _, _, _, _, _, rfl, _⟩ := h; rfl) | (obtain ⟨_, _, _, _, _, _, _, _, _, _, _, _, _, _, _, _, _, _, _, _, rfl, _⟩ := h; rfl) | (obtain ⟨_, _, _, _, _, _, _, _, _, _, _, _, _, _, _, _, _, _, _, _, _, rfl, _⟩ := h; rfl) | (obtain ⟨_, _, _, _, _, _, _, _, _, _, _, _, _, _, _, _, _, _, _, _, _, _, rfl, _⟩ := h; rfl) | (obtain ⟨_, _, _, _, _, _, _, _, _, _, _, _, _, _, _, _, _, _, _, _, _, _, _, rfl, _⟩ := h; rfl)
  refine ⟨_, (pss_cons (ps_if (PW.pt (pw_or (pt_not (pt_val (pe_callB (call_isiK K) (by rfl) T.n_isinstance (by decide +kernel) (pa_cons (pv 0) (pa_cons (pe_bltn (v := .ty "int") (by rfl) T.n_int (by decide +kernel) rfl) pa_nil))))) (pw_or1 (pt_val (pe_callB (call_isiK K) (by rfl) T.n_isinstance (by decide +kernel) (pa_cons (pv 0) (pa_cons (pe_bltn (v := .ty "bool") (by rfl) T.n_bool (by decide +kernel) rfl) pa_nil))))))) (pss_one (ps_ret pe_bl)) pss_nil)
    (pss_one (ps_ret (pe_and (pe_or (pe_cmpR (op_isN1) (pv 1) pe_non (nomark _)) (pe_one (pe_cmpR (op_ge) (pv 0) (pv 1) (nomark _)))) (pe_one (pe_or (pe_cmpR (op_isN1) (pv 2) pe_non (nomark _)) (pe_one (pe_cmpR (op_le) (pv 0) (pv 2) (nomark _))))))))), ?_⟩
  obtain ⟨v, lo, hi, rfl, hk, k⟩ := h
  obtain ⟨t, bI, bB, ht, hI, hB, hb⟩ := hk.ex
  refine q_when (b := !bI || bB) (et_or (et_not (et_B (ev_cb (ea_cons (ev_var rfl) (ea_cons ev_c ea_nil)) (rc_isi (ht H (Ex.refl H)) ht hI)))) (fun _ => et_B (ev_cb (ea_cons (ev_var rfl) (ea_cons ev_c ea_nil)) (rc_isi (ht H (Ex.refl H)) ht hB)))) (fun hx H1 e1 => ?_) (fun hx H1 e1 => ?_)
  · refine s_ret ev_c fun H2 e2 => ?_
    have e : isIntB v lo hi = false := by
      have z : isI v = false := by rw [← hb]; cases bI <;> cases bB <;> simp_all
      cases v <;> first | rfl | (simp [isI] at z)
    rw [e] at k
    exact k.go (e1.trans e2)
  · have z : isI v = true := by rw [← hb]; cases bI <;> cases bB <;> simp_all
    cases v with
    | int i =>
      refine s_ret (v := .bl (isIntB (.int i) lo hi)) (ev_andV (a := lo.all fun l => decide (l ≤ i)) (b := hi.all fun l => decide (i ≤ l)) ?_ fun _ => ?_) fun H2 e2 => k.go (e1.trans e2)
      · cases lo with
        | none => exact ev_orV (a := true) (b := false) (ev_op (ev_var rfl) ev_c rv_isN) fun z => nomatch z
        | some l => exact ev_orV (a := false) (b := decide (l ≤ i)) (ev_op (ev_var rfl) ev_c rv_isN) fun _ => ev_op (ev_var rfl) (ev_var rfl) rv_I0
      · cases hi with
        | none => exact ev_orV (a := true) (b := false) (ev_op (ev_var rfl) ev_c rv_isN) fun z => nomatch z
        | some l => exact ev_orV (a := false) (b := decide (i ≤ l)) (ev_op (ev_var rfl) ev_c rv_isN) fun _ => ev_op (ev_var rfl) (ev_var rfl) rv_I0
    | _ => simp [isI] at z
theorem spv_integer {H : Hp} {v : V} {lo hi : Option Int} (hk : KindV K H v) : SpV (spInteger K) [v, optI lo, optI hi] H (.bl (isIntB v lo hi)) := fun H1 e Q q E => ⟨v, lo, hi, rfl, hk.mono e, q⟩
theorem tyx_of {H : Hp} {a : Addr} {xs : List V} (h : SqL K H a xs) : TyX K H (.ref a) (.type "list") := by
  rcases h with (h | ⟨o, h⟩) | ⟨o, its, n, h1, h2, _⟩
  · exact .base (.lst h)
  · exact .base (.frz h)
  · exact .kList h1 h2
theorem map_get {α β : Type} {f : α → β} {l : List α} {i : Nat} {y : β} (h : (l.map f)[i]? = some y) : ∃ x, l[i]? = some x ∧ y = f x := by
  rw [List.getElem?_map] at h
  cases e : l[i]? with
  | none => rw [e] at h; cases h
  | some x => rw [e] at h; exact ⟨x, rfl, (Option.some.inj h).symm⟩
/-- rows of ints -/
def spIsRow (K : PySem.W.Frag) : Sp := fun vs H Q _ => ∃ a ns, vs = [.ref a] ∧ SqL K H a (List.map V.int ns) ∧ ns.length ≤ 30000 ∧ RetV (.bl true) H Q
theorem sc_is_row : FnScope ["value", "entry"] ["value"] (defScope s_is_row) := ⟨rfl, rfl, rfl, by decide +kernel, rfl, by decide +kernel, by decide +kernel⟩
theorem ok_is_row {f : Addr} {fd : FuncData} (F : FnP K "is_row" s_is_row f fd) (g : mg "is_row" = some (.ref f)) (T : Bl mg) (c_is_integer : Cal P w K mg base 1 "is_integer" (spInteger K))  : Cal P w K mg base 2 "is_row" (spIsRow K) := by
  have nd := sc_is_row.nd
  refine cal_of F.kp g (F.bindsN fun _ _ _ _ _ _ us hl => match us, hl with | [_], _ => rfl) (fn_body F sc_is_row (fun vs H Q E h => ?_) (fun cdv A outer s H vs Q E hr h => ?_))
  · first | (obtain ⟨rfl, _⟩ := h; rfl) | (obtain ⟨_, rfl, _⟩ := h; rfl) | (obtain ⟨_, _, rfl, _⟩ := h; rfl) | (obtain ⟨_, _, _, rfl, _⟩ := h; rfl) | (obtain ⟨_, _, _, _, rfl, _⟩ := h; rfl) | (obtain ⟨_, _, _, _, _, rfl, _⟩ := h; rfl) | (obtain ⟨_, _, _, _, _, _, rfl, _⟩ := h; rfl) | (obtain ⟨_, _, _, _, _, _, _, rfl, _⟩ := h; rfl) | (obtain ⟨_, _, _, _, _, _, _, _, rfl, _⟩ := h; rfl) | (obtain ⟨_, _, _, _, _, _, _, _, _, rfl, _⟩ := h; rfl) | (obtain ⟨_, _, _, _, _, _, _, _, _, _, rfl, _⟩ := h; rfl) | (obtain ⟨_, _, _, _, _, _, _, _, _, _, _, rfl, _⟩ := h; rfl) | (obtain ⟨_, _, _, _, _, _, _, _, _, _, _, _, rfl, _⟩ := h; rfl) | (obtain ⟨_, _, _, _, _, _, _, _, _, _, _, _, _, rfl, _⟩ := h; rfl) | (obtain ⟨_, _, _, _, _, _, _, _, _, _, _, _, _, _, rfl, _⟩ := h; rfl) | (obtain ⟨_, _, _, _, _, _, _, _, _, _, _, _, _, _, _, rfl, _⟩ := h; rfl) | (obtain ⟨_, _, _, _, _, _, _, _, _, _, _, _, _, _, _, _, rfl, _⟩ := h; rfl) | (obtain ⟨_, _, _, _, _, _, _, _, _, _, _, _, _, _, _, _, _, rfl, _⟩ := h; rfl) | (obtain ⟨_, _, _, _, _, _, _, _, _, _, _, _, _, _, _, _, _, _, rfl, _⟩ := h; rfl) | (obtain ⟨_, _, _, _, _, _, _, _, _, _, _, _, _, _, _, _, _, _, _, rfl, _⟩ := h; rfl) | (obtain ⟨_, _, _, _, _, _, _, _, _, _, _, _, _, _, _, _, _, _, _, _, rfl, _⟩ := h; rfl) | (obtain ⟨_, _, _, _, _, _, _, _, _, _, _, _, _, _, _, _, _, _, _, _, _, rfl, _⟩ := h; rfl) | (obtain ⟨_, _, _, _, _, _, _, _, _, _, _, _, _, _, _, _, _, _, _, _, _, _, rfl, _⟩ := h; rfl) | (obtain ⟨_, _, _, _, _, _, _, _, _, _, _, _, _, _, _, _, _, _, _, _, _, _, _, rfl, _⟩ := h; rfl)
  refine ⟨_, (pss_one (ps_ret (pe_and (pe_callB (call_isiK K) (by rfl) T.n_isinstance (by decide +kernel) (pa_cons (pv 0) (pa_cons (pe_bltn (v := .ty "list") (by rfl) T.n_list (by decide +kernel) rfl) pa_nil))) (pe_one (pe_callB (cr_allK K) (by rfl) T.n_all (by decide +kernel) (pa_cons (pe_lc (own := [("entry", 1)]) rfl nd (pi_listK K (by rfl) (pv 0)) (blkOk_by (N := ["value", "entry"]) (sc := defScope s_is_row) (by decide +kernel)) (fun _ _ _ _ _ => (by exact (pg_name (i := 1) nd rfl (.inl rfl)))) (fun _ _ _ _ _ => (by exact pts_nil)) (fun _ _ _ _ _ => (by exact (pe_c c_is_integer (hr.mono (by decide)) takes0 (pa_cons (pv 1) (pa_cons pe_non (pa_cons pe_non pa_nil))))))) pa_nil)))))), ?_⟩
  obtain ⟨a, ns, rfl, hS, hz, k⟩ := h
  refine s_ret (ev_andV (a := true) (ev_cb (ea_cons (ev_var rfl) (ea_cons ev_c ea_nil)) (rc_isi (b := true) (tyx_of hS) (fun H1 e => tyx_of (ex_l e hS)) (kit_ty (by decide +kernel)))) fun _ => ?_) fun H1 e1 => k.go e1
  refine ev_cbL (el_isL (el_lcL (fun _ => true) (fun _ => .bl true) (ev_var rfl) hS (by rw [List.length_map]; omega) (fun x => rfl) (fun i x H1 _ _ => fun H2 _ _ q => q H2 (Ex.refl H2)) (fun i x H1 e hx _ => ?_)) (given_map (c := V.bl) (g := fun _ => true) fun _ _ _ => rfl)) fun p H1 hp _ => ?_
  · obtain ⟨n, hn, rfl⟩ := map_get hx
    exact ev_f (ea_cons (ev_var rfl) (ea_cons ev_c (ea_cons ev_c ea_nil))) (spv_integer (lo := none) (hi := none) KindV.int)
  · have e : (((List.range (List.map V.int ns).length).filter fun _ => true).map fun _ => true).all id = true := by simp
    rw [← e]
    exact rc_all (sq_of hp)
theorem spv_isRow {H : Hp} {a : Addr} {ns : List Int} (h : SqL K H a (ns.map V.int)) (hz : ns.length ≤ 30000) : SpV (spIsRow K) [.ref a] H (.bl true) := fun H1 e Q q E => ⟨a, ns, rfl, ex_l e h, hz, q⟩
def spNeedRow (K : PySem.W.Frag) : Sp := fun vs H Q _ => ∃ a ns, vs = [.ref a] ∧ SqL K H a (List.map V.int ns) ∧ ns.length ≤ 30000 ∧ RetV .non H Q
theorem sc_need_row : FnScope ["value"] ["value"] (defScope s_need_row) := ⟨rfl, rfl, rfl, by decide +kernel, rfl, by decide +kernel, by decide +kernel⟩
theorem ok_need_row {f : Addr} {fd : FuncData} (F : FnP K "need_row" s_need_row f fd) (g : mg "need_row" = some (.ref f)) (T : Bl mg) (c_is_row : Cal P w K mg base 2 "is_row" (spIsRow K))  : Cal P w K mg base 3 "need_row" (spNeedRow K) := by
  have nd := sc_need_row.nd
  refine cal_of F.kp g (F.bindsN fun _ _ _ _ _ _ us hl => match us, hl with | [_], _ => rfl) (fn_body F sc_need_row (fun vs H Q E h => ?_) (fun cdv A outer s H vs Q E hr h => ?_))
  · first | (obtain ⟨rfl, _⟩ := h; rfl) | (obtain ⟨_, rfl, _⟩ := h; rfl) | (obtain ⟨_, _, rfl, _⟩ := h; rfl) | (obtain ⟨_, _, _, rfl, _⟩ := h; rfl) | (obtain ⟨_, _, _, _, rfl, _⟩ := h; rfl) | (obtain ⟨_, _, _, _, _, rfl, _⟩ := h; rfl) | (obtain ⟨_, _, _, _, _, _, rfl, _⟩ := h; rfl) | (obtain ⟨_, _, _, _, _, _, _, rfl, _⟩ := h; rfl) | (obtain ⟨_, _, _, _, _, _, _, _, rfl, _⟩ := h; rfl) | (obtain ⟨_, _, _, _, _, _, _, _, _, rfl, _⟩ := h; rfl) | (obtain ⟨_, _, _, _, _, _, _, _, _, _, rfl, _⟩ := h; rfl) | (obtain ⟨_, _, _, _, _, _, _, _, _, _, _, rfl, _⟩ := h; rfl) | (obtain ⟨_, _, _, _, _, _, _, _, _, _, _, _, rfl, _⟩ := h; rfl) | (obtain ⟨_, _, _, _, _, _, _, _, _, _, _, _, _, rfl, _⟩ := h; rfl) | (obtain ⟨_, _, _, _, _, _, _, _, _, _, _, _, _, _, rfl, _⟩ := h; rfl) | (obtain ⟨_, _, _, _, _, _, _, _, _, _, _, _, _, _, _, rfl, _⟩ := h; rfl) | (obtain ⟨_, _, _, _, _, _, _, _, _, _, _, _, _, _, _, _, rfl, _⟩ := h; rfl) | (obtain ⟨_, _, _, _, _, _, _, _, _, _, _, _, _, _, _, _, _, rfl, _⟩ := h; rfl) | (obtain ⟨_, _, _, _, _, _, _, _, _, _, _, _, _, _, _, _, _, _, rfl, _⟩ := h; rfl) | (obtain ⟨_, _, _, _, _, _, _, _, _, _, _, _, _, _, _, _, _, _, _, rfl, _⟩ := h; rfl) | (obtain ⟨_, _, _, _, _, _, _, _, _, _, _, _, _, _, _, _, _, _, _, _, rfl, _⟩ := h; rfl) | (obtain ⟨_, _, _, _, _, _, _, _, _, _, _, _, _, _, _, _, _, _, _, _, _, rfl, _⟩ := h; rfl) | (obtain ⟨_, _, _, _, _, _, _, _, _, _, _, _, _, _, _, _, _, _, _, _, _, _, rfl, _⟩ := h; rfl) | (obtain ⟨_, _, _, _, _, _, _, _, _, _, _, _, _, _, _, _, _, _, _, _, _, _, _, rfl, _⟩ := h; rfl)
  refine ⟨_, (pss_one (ps_if (pt_not (pt_val (pe_c c_is_row (hr.mono (by decide)) takesD (pa_cons (pv 0) pa_nil)))) (pss_one ps_never) pss_nil)), ?_⟩
  obtain ⟨a, ns, rfl, hS, hz, k⟩ := h
  refine s_when (b := false) (et_not (a := true) (et_B (ev_f (ea_cons (ev_var rfl) ea_nil) (spv_isRow hS hz)))) (fun z => nomatch z) fun _ H1 e1 => k.go e1
theorem spv_needRow {H : Hp} {a : Addr} {ns : List Int} (h : SqL K H a (ns.map V.int)) (hz : ns.length ≤ 30000) : SpV (spNeedRow K) [.ref a] H .non := fun H1 e Q q E => ⟨a, ns, rfl, ex_l e h, hz, q⟩
def spNeedRounds (K : PySem.W.Frag) : Sp := fun vs H Q _ => ∃ (n l : Int), vs = [.int n, .int l] ∧ l ≤ n ∧ RetV .non H Q
theorem sc_need_rounds : FnScope ["value", "least"] ["value", "least"] (defScope s_need_rounds) := ⟨rfl, rfl, rfl, by decide +kernel, rfl, by decide +kernel, by decide +kernel⟩
theorem ok_need_rounds {f : Addr} {fd : FuncData} (F : FnP K "need_rounds" s_need_rounds f fd) (g : mg "need_rounds" = some (.ref f)) (T : Bl mg) (c_is_integer : Cal P w K mg base 1 "is_integer" (spInteger K))  : Cal P w K mg base 2 "need_rounds" (spNeedRounds K) := by
  have nd := sc_need_rounds.nd
  refine cal_of F.kp g (F.bindsN fun _ _ _ _ _ _ us hl => match us, hl with | [_, _], _ => rfl) (fn_body F sc_need_rounds (fun vs H Q E h => ?_) (fun cdv A outer s H vs Q E hr h => ?_))
  · first | (obtain ⟨rfl, _⟩ := h; rfl) | (obtain ⟨_, rfl, _⟩ := h; rfl) | (obtain ⟨_, _, rfl, _⟩ := h; rfl) | (obtain ⟨_, _, _, rfl, _⟩ := h; rfl) | (obtain ⟨_, _, _, _, rfl, _⟩ := h; rfl) | (obtain ⟨_, _, _, _, _, rfl, _⟩ := h; rfl) | (obtain ⟨_, _, _, _, _, _, rfl, _⟩ := h; rfl) | (obtain ⟨_, _, _, _, _, _, _, rfl, _⟩ := h; rfl) | (obtain ⟨_, _, _, _, _, _, _, _, rfl, _⟩ := h; rfl) | (obtain ⟨_, _, _, _, _, _, _, _, _, rfl, _⟩ := h; rfl) | (obtain ⟨_, _, _, _, _, _, _, _, _, _, rfl, _⟩ := h; rfl) | (obtain ⟨_, _, _, _, _, _, _, _, _, _, _, rfl, _⟩ := h; rfl) | (obtain ⟨_, _, _, _, _, _, _, _, _, _, _, _, rfl, _⟩ := h; rfl) | (obtain ⟨_, _, _, _, _, _, _, _, _, _, _, _, _, rfl, _⟩ := h; rfl) | (obtain ⟨_, _, _, _, _, _, _, _, _, _, _, _, _, _, rfl, _⟩ := h; rfl) | (obtain ⟨_, _, _, _, _, _, _, _, _, _, _, _, _, _, _, rfl, _⟩ := h; rfl) | (obtain ⟨_, _, _, _, _, _, _, _, _, _, _, _, _, _, _, _, rfl, _⟩ := h; rfl) | (obtain ⟨_, _, _, _, _, _, _, _, _, _, _, _, _, _, _, _, _, rfl, _⟩ := h; rfl) | (obtain ⟨_, _, _, _, _, _, _, _, _, _, _, _, _, _, _, _, _, _, rfl, _⟩ := h; rfl) | (obtain ⟨_, _, _, _, _, _, _, _, _, _, _, _, _, _, _, _, _, _, _, rfl, _⟩ := h; rfl) | (obtain ⟨_, _, _, _, _, _, _, _, _, _, _, _, _, _, _, _, _, _, _, _, rfl, _⟩ := h; rfl) | (obtain ⟨_, _, _, _, _, _, _, _, _, _, _, _, _, _, _, _, _, _, _, _, _, rfl, _⟩ := h; rfl) | (obtain ⟨_, _, _, _, _, _, _, _, _, _, _, _, _, _, _, _, _, _, _, _, _, _, rfl, _⟩ := h; rfl) | (obtain ⟨_, _, _, _, _, _, _, _, _, _, _, _, _, _, _, _, _, _, _, _, _, _, _, rfl, _⟩ := h; rfl)
  refine ⟨_, (pss_one (ps_if (pt_not (pt_val (pe_c c_is_integer (hr.mono (by decide)) takesD (pa_cons (pv 0) (pa_cons (pv 1) (pa_cons pe_non pa_nil)))))) (pss_one ps_never) pss_nil)), ?_⟩
  obtain ⟨n, l, rfl, hl, k⟩ := h
  refine s_when (b := false) (et_not (a := true) (et_B (ev_f (ea_cons (ev_var rfl) (ea_cons (ev_var rfl) (ea_cons ev_c ea_nil))) ?_))) (fun z => nomatch z) fun _ H1 e1 => k.go e1
  have e : isIntB (.int n) (some l) none = true := by simp [isIntB, hl]
  rw [← e]
  exact spv_integer (lo := some l) (hi := none) KindV.int
theorem spv_needRounds {H : Hp} {n l : Int} (h : l ≤ n) : SpV (spNeedRounds K) [.int n, .int l] H .non := fun H1 e Q q E => ⟨n, l, rfl, h, q⟩
/-! slices -/
theorem cut_mid (ns : List Int) (lo hi : Nat) : cutV (ns.map V.int) (some (lo : Int)) (some (hi : Int)) = ((ns.drop lo).take (hi - lo)).map V.int := by
  unfold cutV
  rw [HT.sIx_nat, HT.sIx_nat, List.length_map]
  by_cases h : lo ≤ ns.length
  · rw [Nat.min_eq_left h, ← List.map_drop, ← List.map_take]
    by_cases h2 : hi ≤ ns.length
    · rw [Nat.min_eq_left h2]
    · rw [Nat.min_eq_right (show ns.length ≤ hi by omega), List.take_of_length_le (show (ns.drop lo).length ≤ ns.length - lo by simp), List.take_of_length_le (show (ns.drop lo).length ≤ hi - lo by simp; omega)]
  · rw [Nat.min_eq_right (show ns.length ≤ lo by omega), List.drop_of_length_le (show (ns.map V.int).length ≤ ns.length by simp), List.drop_of_length_le (show ns.length ≤ lo by omega)]
    simp
theorem cut_to (ns : List Int) (hi : Nat) : cutV (ns.map V.int) none (some (hi : Int)) = (ns.take hi).map V.int := by
  unfold cutV
  rw [HT.sIx_nat, HT.sIx_none, List.length_map]
  simp only [List.drop_zero, Nat.sub_zero]
  rw [← List.map_take]
  by_cases h : hi ≤ ns.length
  · rw [Nat.min_eq_left h]
  · rw [Nat.min_eq_right (by omega), List.take_of_length_le (Nat.le_refl _), List.take_of_length_le (by omega)]
theorem cut_from (ns : List Int) (lo : Nat) : cutV (ns.map V.int) (some (lo : Int)) none = (ns.drop lo).map V.int := by
  unfold cutV
  rw [HT.sIx_nat, HT.sIx_none, List.length_map]
  by_cases h : lo ≤ ns.length
  · rw [Nat.min_eq_left h, ← List.map_drop, List.take_of_length_le (by simp)]
  · rw [Nat.min_eq_right (show ns.length ≤ lo by omega), List.drop_of_length_le (show (ns.map V.int).length ≤ ns.length by simp), List.drop_of_length_le (show ns.length ≤ lo by omega)]
    simp
theorem get_int {ns : List Int} {i : Nat} {x : V} (h : (ns.map V.int)[i]? = some x) : i < ns.length ∧ x = V.int (ns.getD i 0) := by
  obtain ⟨n, hn, rfl⟩ := map_get h
  refine ⟨(List.getElem?_eq_some_iff.mp hn).1, ?_⟩
  rw [List.getD_eq_getElem?_getD, hn]; rfl
def nlist (l : List Nat) : List Int := l.map fun (i : Nat) => (i : Int)
theorem nlist_len (l : List Nat) : (nlist l).length = l.length := List.length_map ..
theorem nlist_app (l : List Nat) (i : Nat) : (nlist (l ++ [i])).map V.int = (nlist l).map V.int ++ [V.int (i : Int)] := by unfold nlist; rw [List.map_append, List.map_append]; rfl
theorem nlist_get (l : List Nat) (i : Nat) : (nlist l).getD i 0 = ((l.getD i 0 : Nat) : Int) := by
  unfold nlist
  rw [List.getD_eq_getElem?_getD, List.getD_eq_getElem?_getD, List.getElem?_map]
  cases l[i]? <;> rfl
theorem filter_range_succ {f : Nat → Bool} {i : Nat} : (List.range (i + 1)).filter f = (List.range i).filter f ++ if f i = true then [i] else [] := by
  rw [List.range_succ, List.filter_append]
  cases h : f i <;> simp [h]
theorem map_range_getD {α : Type} (l : List Int) (f : Int → α) : (((List.range l.length).filter fun _ => true).map fun j => f (l.getD j 0)) = l.map f := by
  rw [List.filter_eq_self.mpr fun _ _ => rfl]
  refine List.ext_getElem (by simp) fun i h1 h2 => ?_
  simp at h1 h2 ⊢
  rw [List.getElem?_eq_getElem h1]; rfl
theorem if_not {c : Bool} (h : c = false) {α : Type} {a b : α} : (if c = true then a else b) = b := by rw [h]; rfl
/-- the two slices about a place -/
theorem el_near {σ : L2.St} {H : Hp} {a : Addr} {ns : List Int} {i ip : Nat} (h0 : σ[0]? = some (some (.ref a))) (h2 : σ[ip]? = some (some (.int (i : Int)))) (hS : SqL K H a (ns.map V.int)) (hz : ns.length ≤ 30000) :
    EvL (tOp rCat (tSl (rSlL K) (tVar 0) (tPart (tCB rMax2 (tCons (tC (.int 0)) (tCons (tOp (rI0 fun i j => .int (i - j)) (tVar ip) (tC (.int 1))) tNil)))) (tPart (tVar ip)))
      (tSl (rSlL K) (tVar 0) (tPart (tOp (rI0 fun i j => .int (i + j)) (tVar ip) (tC (.int 1)))) (tPart (tOp (rI0 fun i j => .int (i + j)) (tVar ip) (tC (.int 2)))))) σ H ((nb ns i).map V.int) := by
  have e1 : cutV (ns.map V.int) (some ((i - 1 : Nat) : Int)) (some (i : Int)) = ((ns.drop (i - 1)).take (i - (i - 1))).map V.int := cut_mid ns (i - 1) i
  have e2 : cutV (ns.map V.int) (some ((i + 1 : Nat) : Int)) (some ((i + 2 : Nat) : Int)) = ((ns.drop (i + 1)).take 1).map V.int := by
    rw [cut_mid ns (i + 1) (i + 2)]
    rw [show i + 2 - (i + 1) = 1 by omega]
  refine el_isL (el_catLL (el_sl (lo := some ((i - 1 : Nat) : Int)) (hi := some (i : Int)) (ev_var h0) (eo_some (ev_is (ev_cb (ea_cons ev_c (ea_cons (ev_op (ev_var h2) ev_c rv_I0) ea_nil)) rc_max2) ?_)) (eo_some (ev_var h2)) hS)
    (el_sl (lo := some ((i + 1 : Nat) : Int)) (hi := some ((i + 2 : Nat) : Int)) (ev_var h0) (eo_some (ev_is (ev_op (ev_var h2) ev_c rv_I0) ?_)) (eo_some (ev_is (ev_op (ev_var h2) ev_c rv_I0) ?_)) hS) ?_) ?_
  · congr 1
    split <;> omega
  · congr 1
  · congr 1
  · rw [e1, e2, List.length_map, List.length_map, List.length_take, List.length_take, List.length_drop, List.length_drop]
    omega
  · rw [e1, e2, ← List.map_append]; rfl
def spPeaks (K : PySem.W.Frag) : Sp := fun vs H Q _ => ∃ a ns, vs = [.ref a] ∧ SqL K H a (List.map V.int ns) ∧ ns.length ≤ 30000 ∧ RetL ((nlist (pkPlaces ns)).map V.int) H Q
theorem sc_peak_places : FnScope ["row", "found", "place", "entry", "neighbours", "other"] ["row"] (defScope s_peak_places) := ⟨rfl, rfl, rfl, by decide +kernel, rfl, by decide +kernel, by decide +kernel⟩
theorem ok_peak_places {f : Addr} {fd : FuncData} (F : FnP K "peak_places" s_peak_places f fd) (g : mg "peak_places" = some (.ref f)) (T : Bl mg)   : Cal P w K mg base 1 "peak_places" (spPeaks K) := by
  have nd := sc_peak_places.nd
  refine cal_of F.kp g (F.bindsN fun _ _ _ _ _ _ us hl => match us, hl with | [_], _ => rfl) (fn_body F sc_peak_places (fun vs H Q E h => ?_) (fun cdv A outer s H vs Q E hr h => ?_))
  · first | (obtain ⟨rfl, _⟩ := h; rfl) | (obtain ⟨_, rfl, _⟩ := h; rfl) | (obtain ⟨_, _, rfl, _⟩ := h; rfl) | (obtain ⟨_, _, _, rfl, _⟩ := h; rfl) | (obtain ⟨_, _, _, _, rfl, _⟩ := h; rfl) | (obtain ⟨_, _, _, _, _, rfl, _⟩ := h; rfl) | (obtain ⟨_, _, _, _, _, _, rfl, _⟩ := h; rfl) | (obtain ⟨_, _, _, _, _, _, _, rfl, _⟩ := h; rfl) | (obtain ⟨_, _, _, _, _, _, _, _, rfl, _⟩ := h; rfl) | (obtain ⟨_, _, _, _, _, _, _, _, _, rfl, _⟩ := h; rfl) | (obtain ⟨_, _, _, _, _, _, _, _, _, _, rfl, _⟩ := h; rfl) | (obtain ⟨_, _, _, _, _, _, _, _, _, _, _, rfl, _⟩ := h; rfl) | (obtain ⟨_, _, _, _, _, _, _, _, _, _, _, _, rfl, _⟩ := h; rfl) | (obtain ⟨_, _, _, _, _, _, _, _, _, _, _, _, _, rfl, _⟩ := h; rfl) | (obtain ⟨_, _, _, _, _, _, _, _, _, _, _, _, _, _, rfl, _⟩ := h; rfl) | (obtain ⟨_, _, _, _, _, _, _, _, _, _, _, _, _, _, _, rfl, _⟩ := h; rfl) | (obtain ⟨_, _, _, _, _, _, _, _, _, _, _, _, _, _, _, _, rfl, _⟩ := h; rfl) | (obtain ⟨_, _, _, _, _, _, _, _, _, _, _, _, _, _, _, _, _, rfl, _⟩ := h; rfl) | (obtain ⟨_, _, _, _, _, _, _, _, _, _, _, _, _, _, _, _, _, _, rfl, _⟩ := h; rfl) | (obtain ⟨_, _, _, _, _, _, _, _, _, _, _, _, _, _, _, _, _, _, _, rfl, _⟩ := h; rfl) | (obtain ⟨_, _, _, _, _, _, _, _, _, _, _, _, _, _, _, _, _, _, _, _, rfl, _⟩ := h; rfl) | (obtain ⟨_, _, _, _, _, _, _, _, _, _, _, _, _, _, _, _, _, _, _, _, _, rfl, _⟩ := h; rfl) | (obtain ⟨_, _, _, _, _, _, _, _, _, _, _, _, _, _, _, _, _, _, _, _, _, _, rfl, _⟩ := h; rfl) | (obtain ⟨_, _, _, _, _, _, _, _, _, _, _, _, _, _, _, _, _, _, _, _, _, _, _, rfl, _⟩ := h; rfl)
  refine ⟨_, (pss_cons (ps_set (i := 1) nd rfl (.inl rfl) (pe_lst pa_nil))
    (pss_cons (ps_for passD rfl (pi_enumK K (by rfl) (by rfl) T.n_enumerate (pa_cons (pv 0) pa_nil)) (pg_tupK K (by rfl) (n := 2) (pgs_cons (pg_name (i := 2) nd rfl (.inl rfl)) (pgs_cons (pg_name (i := 3) nd rfl (.inr rfl)) pgs_nil))) (pss_cons (ps_set (i := 4) nd rfl (.inl rfl) (pe_op op_cat (pe_slice (sl_listK K) (pv 0) (po_some (pe_callB (cl_max2 rfl) (by rfl) T.n_max (by decide +kernel) (pa_cons pe_int (pa_cons (pe_op op_sub (pv 2) pe_int) pa_nil)))) (po_some (pv 2))) (pe_slice (sl_listK K) (pv 0) (po_some (pe_op op_add (pv 2) pe_int)) (po_some (pe_op op_add (pv 2) pe_int)))))
    (pss_one (ps_if (pt_val (pe_callB (cr_allK K) (by rfl) T.n_all (by decide +kernel) (pa_cons (pe_lc (own := [("other", 5)]) rfl nd (pi_listK K (by rfl) (pv 4)) (blkOk_by (N := ["row", "found", "place", "entry", "neighbours", "other"]) (sc := defScope s_peak_places) (by decide +kernel)) (fun _ _ _ _ _ => (by exact (pg_name (i := 5) nd rfl (.inl rfl)))) (fun _ _ _ _ _ => (by exact pts_nil)) (fun _ _ _ _ _ => (by exact (pe_cmpR (op_ge) (pv 3) (pv 5) (nomark _))))) pa_nil))) (pss_one (ps_expr (pe_bm PySem.F.plainAttrs_list PySem.F.slot_list_append PySem.F.type_list_append mt_append (pv 1) (pa_cons (pv 2) pa_nil)))) pss_nil))))
    (pss_one (ps_ret (pv 1))))), ?_⟩
  obtain ⟨a, ns, rfl, hS, hz, k⟩ := h
  refine q_asgL (el_lst ea_nil (by decide)) fun p H1 hp e1 h1 => ?_
  refine q_forE (a := a) (xs := ns.map V.int) (ea_cons (ev_var rfl) ea_nil) (ex_l e1 hS) (fun i σ' H' => ∃ o2 o3 o4 o5, σ' = [some (.ref a), some (.ref p), o2, o3, o4, o5] ∧ Ex H H' ∧ H' p = some (.lst ((nlist ((List.range i).filter (isPk ns))).map V.int)))
    (fun H2 e2 => ⟨none, none, none, none, rfl, e1.trans e2, e2 p _ h1⟩) (fun i σ' H' _ ⟨_, _, _, _, _, e, _⟩ => ex_l e hS) ?_ ?_
  · rintro i x T σ' H' hx ⟨o2, o3, o4, o5, rfl, e, hpp⟩ hT
    obtain ⟨hi, rfl⟩ := get_int hx
    refine g_pair upd_same ?_
    have eT : Ex H' (upd H' T (.tup [.int (i : Nat), .int (ns.getD i 0)])) := Ex.new hT
    have hSi := ex_l (e.trans eT) hS
    have hpT := eT p _ hpp
    refine q_asgL (el_near (i := i) rfl rfl hSi hz) fun q H2 hq e2 h2 => ?_
    refine s_when (b := isPk ns i) (et_B (ev_cbL (xs := ((nb ns i).map fun o => decide (o ≤ ns.getD i 0)).map V.bl) (el_isL (el_lcL (xs := (nb ns i).map V.int) (fun _ => true) (fun j => .bl (decide ((nb ns i).getD j 0 ≤ ns.getD i 0))) (ev_var rfl) (sq_of h2) ?_ (fun x => rfl) (fun i x H1 _ _ => fun H2 _ _ q => q H2 (Ex.refl H2)) (fun j x H1 e hx _ => ?_)) ?_) fun p H1 hp _ => ?_)) (fun hb H3 e3 => ?_) (fun hb H3 e3 => ?_)
    · rw [List.length_map]
      unfold nb
      rw [List.length_append, List.length_take, List.length_take]
      omega
    · obtain ⟨hj, rfl⟩ := get_int hx
      exact ev_op (ev_var rfl) (ev_var rfl) rv_I0
    · rw [given_map (c := V.bl) (g := fun j => decide ((nb ns i).getD j 0 ≤ ns.getD i 0)) fun _ _ _ => rfl, List.length_map]
      congr 1
      exact map_range_getD (nb ns i) (fun o => decide (o ≤ ns.getD i 0))
    · have eb : isPk ns i = ((nb ns i).map fun o => decide (o ≤ ns.getD i 0)).all id := by
        unfold isPk; rw [List.all_map]; rfl
      rw [eb]
      exact rc_all (sq_of hp)
    · have hp3 := e3 p _ (e2 p _ hpT)
      refine s_app hp3 (ev_var rfl) (ev_var rfl) ?_ fun H4 e4 => ?_
      · rw [List.length_map, nlist_len]
        have := List.length_filter_le (isPk ns) (List.range i)
        rw [List.length_range] at this
        omega
      · refine ⟨_, _, _, _, rfl, ?_, ?_⟩
        · exact Ex.mut ((e.trans eT).trans (e2.trans (e3.trans e4))) hp
        · rw [upd_same, filter_range_succ, hb, if_pos rfl, nlist_app]
    · refine ⟨_, _, _, _, rfl, (e.trans eT).trans (e2.trans e3), ?_⟩
      rw [filter_range_succ, hb, if_not rfl, List.append_nil]
      exact e3 p _ (e2 p _ hpT)
  · rintro σ' H' ⟨o2, o3, o4, o5, rfl, e, hpp⟩
    rw [List.length_map] at hpp
    refine s_ret (ev_var rfl) fun H2 e2 => ?_
    exact k p H2 hp (e.trans e2) (e2 p _ hpp)

end
end Pk
end

section
namespace Pk
open PySem PySem.Spec PyProof.Rows L2 Evl
section
variable {P : Program} {w : World} {K : PySem.W.Frag} {mg : Str → Option Value} {base : Heap} {CC : Bool → Addr} {NT : Addr}
/-! ### rows.py, rounds -/
theorem spl_peaks {H : Hp} {a : Addr} {ns : List Int} (h : SqL K H a (ns.map V.int)) (hz : ns.length ≤ 30000) : SpL (spPeaks K) [.ref a] H ((nlist (pkPlaces ns)).map V.int) := fun H1 e Q q E => ⟨a, ns, rfl, ex_l e h, hz, q⟩
theorem inV_ints (n : Int) : ∀ ns : List Int, inV (V.int n) (ns.map V.int) = decide (n ∈ ns)
  | [] => rfl
  | m :: ns => by
    have ih := inV_ints n ns
    unfold inV at ih ⊢
    rw [List.map_cons, List.any_cons, ih]
    have e : eqV (V.int m) (V.int n) = decide (m = n) := by
      rw [Bool.eq_iff_iff]
      simp [eqV]
    rw [e]
    by_cases h : m = n
    · subst h; simp
    · have h' : ¬ n = m := fun z => h z.symm
      simp [h, h']
theorem flat_ints : ∀ ns : List Int, (ns.map V.int).all flatV = true
  | [] => rfl
  | m :: ns => by rw [List.map_cons, List.all_cons, flat_ints ns]; rfl
theorem mem_nlist {l : List Nat} {i : Nat} : ((i : Int) ∈ nlist l) ↔ i ∈ l := by
  unfold nlist
  constructor
  · intro h
    obtain ⟨j, hj, e⟩ := List.mem_map.mp h
    have : j = i := by omega
    exact this ▸ hj
  · intro h
    exact List.mem_map.mpr ⟨i, h, rfl⟩
theorem mem_pk {ns : List Int} {i : Nat} (h : i < ns.length) : (i ∈ pkPlaces ns) ↔ isPk ns i = true := by
  unfold pkPlaces
  rw [List.mem_filter, List.mem_range]
  exact ⟨fun z => z.2, fun z => ⟨h, z⟩⟩
def spPeel1 (K : PySem.W.Frag) : Sp := fun vs H Q _ => ∃ a ns, vs = [.ref a] ∧ SqL K H a (List.map V.int ns) ∧ ns.length ≤ 30000 ∧ RetL ((peel1 ns).map V.int) H Q
theorem sc_peeled_once : FnScope ["row", "peaks", "place", "entry"] ["row"] (defScope s_peeled_once) := ⟨rfl, rfl, rfl, by decide +kernel, rfl, by decide +kernel, by decide +kernel⟩
theorem ok_peeled_once {f : Addr} {fd : FuncData} (F : FnP K "peeled_once" s_peeled_once f fd) (g : mg "peeled_once" = some (.ref f)) (T : Bl mg) (c_peak_places : Cal P w K mg base 1 "peak_places" (spPeaks K))  : Cal P w K mg base 2 "peeled_once" (spPeel1 K) := by
  have nd := sc_peeled_once.nd
  refine cal_of F.kp g (F.bindsN fun _ _ _ _ _ _ us hl => match us, hl with | [_], _ => rfl) (fn_body F sc_peeled_once (fun vs H Q E h => ?_) (fun cdv A outer s H vs Q E hr h => ?_))
  · first | (obtain ⟨rfl, _⟩ := h; rfl) | (obtain ⟨_, rfl, _⟩ := h; rfl) | (obtain ⟨_, _, rfl, _⟩ := h; rfl) | (obtain ⟨_, _, _, rfl, _⟩ := h; rfl) | (obtain ⟨_, _, _, _, rfl, _⟩ := h; rfl) | (obtain ⟨_, _, _, _, _, rfl, _⟩ := h; rfl) | (obtain ⟨_, _, _, _, _, _, rfl, _⟩ := h; rfl) | (obtain ⟨_, _, _, _, _, _, _, rfl, _⟩ := h; rfl) | (obtain ⟨_, _, _, _, _, _, _, _, rfl, _⟩ := h; rfl) | (obtain ⟨_, _, _, _, _, _, _, _, _, rfl, _⟩ := h; rfl) | (obtain ⟨_, _, _, _, _, _, _, _, _, _, rfl, _⟩ := h; rfl) | (obtain ⟨_, _, _, _, _, _, _, _, _, _, _, rfl, _⟩ := h; rfl) | (obtain ⟨_, _, _, _, _, _, _, _, _, _, _, _, rfl, _⟩ := h; rfl) | (obtain ⟨_, _, _, _, _, _, _, _, _, _, _, _, _, rfl, _⟩ := h; rfl) | (obtain ⟨_, _, _, _, _, _, _, _, _, _, _, _, _, _, rfl, _⟩ := h; rfl) | (obtain ⟨_, _, _, _, _, _, _, _, _, _, _, _, _, _, _, rfl, _⟩ := h; rfl) | (obtain ⟨_, _, _, _, _, _, _, _, _, _, _, _, _, _, _, _, rfl, _⟩ := h; rfl) | (obtain ⟨_, _, _, _, _, _, _, _, _, _, _, _, _, _, _, _, _, rfl, _⟩ := h; rfl) | (obtain ⟨_, _, _, _, _, _, _, _, _, _, _, _, _, _, _, _, _, _, rfl, _⟩ := h; rfl) | (obtain ⟨_, _, _, _, _, _, _, _, _, _, _, _, _, _, _, _, _, _, _, rfl, _⟩ := h; rfl) | (obtain ⟨_, _, _, _, _, _, _, _, _, _, _, _, _, _, _, _, _, _, _, _, rfl, _⟩ := h; rfl) | (obtain ⟨_, _, _, _, _, _, _, _, _, _, _, _, _, _, _, _, _, _, _, _, _, rfl, _⟩ := h; rfl) | (obtain ⟨_, _, _, _, _, _, _, _, _, _, _, _, _, _, _, _, _, _, _, _, _, _, rfl, _⟩ := h; rfl) | (obtain ⟨_, _, _, _, _, _, _, _, _, _, _, _, _, _, _, _, _, _, _, _, _, _, _, rfl, _⟩ := h; rfl)
  refine ⟨_, (pss_cons (ps_set (i := 1) nd rfl (.inr rfl) (pe_c c_peak_places (hr.mono (by decide)) takesD (pa_cons (pv 0) pa_nil)))
    (pss_one (ps_ret (pe_lc (own := [("place", 2), ("entry", 3)]) rfl nd (pi_enumK K (by rfl) (by rfl) T.n_enumerate (pa_cons (pv 0) pa_nil)) (blkOk_by (N := ["row", "peaks", "place", "entry"]) (sc := defScope s_peeled_once) (by decide +kernel)) (fun _ _ _ _ _ => (by exact (pg_tupK K (by rfl) (n := 2) (pgs_cons (pg_name (i := 2) nd rfl (.inl rfl)) (pgs_cons (pg_name (i := 3) nd rfl (.inl rfl)) pgs_nil))))) (fun _ _ _ _ _ => (by exact (pts_one (pt_cmpR ((op_notIn_seqK K)) (pv 2) (pv 1) (by rfl))))) (fun _ _ _ _ _ => (by exact (pv 3))))))), ?_⟩
  obtain ⟨a, ns, rfl, hS, hz, k⟩ := h
  refine q_asgL (el_f (ea_cons (ev_var rfl) ea_nil) (spl_peaks hS hz)) fun p H1 hp e1 h1 => ?_
  refine s_retL (el_isL (el_lcE (xs := ns.map V.int) (fun i => !isPk ns i) (fun i => .int (ns.getD i 0)) (ea_cons (ev_var rfl) ea_nil) (ex_l e1 hS) (by rw [List.length_map]; omega) (fun x y => rfl) (fun i x H2 e2 hx => ?_) (fun i x H2 e2 hx _ => ?_)) (given_map (c := V.int) (g := fun i => ns.getD i 0) fun _ _ _ => rfl)) fun q H2 hq e2 h2 => ?_
  · obtain ⟨hi, rfl⟩ := get_int hx
    refine et_is (et_test (ev_op (ev_var rfl) (ev_var rfl) (rv_niL (sq_of (e2 p _ h1)) rfl (flat_ints _)))) ?_
    rw [inV_ints]
    congr 1
    rw [Bool.eq_iff_iff, decide_eq_true_iff, mem_nlist, mem_pk hi]
  · obtain ⟨hi, rfl⟩ := get_int hx
    exact ev_var rfl
  · refine k q H2 (fresh_back e1 hq) (e1.trans e2) ?_
    rw [h2, List.length_map]
    rfl
theorem spl_peel1 {H : Hp} {a : Addr} {ns : List Int} (h : SqL K H a (ns.map V.int)) (hz : ns.length ≤ 30000) : SpL (spPeel1 K) [.ref a] H ((peel1 ns).map V.int) := fun H1 e Q q E => ⟨a, ns, rfl, ex_l e h, hz, q⟩
/-- what a test evaluates to may be weakened -/
theorem et_whole {t : TT} {σ : L2.St} {H : Hp} {b : Bool} {Q : Bool → Hp → Prop} (h : EvT t σ H b) (q : ∀ H1, Ex H H1 → Q b H1) : t σ H Q := h H (Ex.refl H) Q q
def spPeeled (K : PySem.W.Frag) : Sp := fun vs H Q _ => ∃ a ns n, vs = [.ref a, .int n] ∧ SqL K H a (List.map V.int ns) ∧ ns.length ≤ 30000 ∧ 0 ≤ n ∧ RetL ((peelN n.toNat ns).map V.int) H Q
theorem sc_peeled : FnScope ["row", "rounds", "found", "played"] ["row", "rounds"] (defScope s_peeled) := ⟨rfl, rfl, rfl, by decide +kernel, rfl, by decide +kernel, by decide +kernel⟩
theorem ok_peeled {f : Addr} {fd : FuncData} (F : FnP K "peeled" s_peeled f fd) (g : mg "peeled" = some (.ref f)) (T : Bl mg) (c_need_row : Cal P w K mg base 3 "need_row" (spNeedRow K)) (c_need_rounds : Cal P w K mg base 2 "need_rounds" (spNeedRounds K)) (c_peeled_once : Cal P w K mg base 2 "peeled_once" (spPeel1 K))  : Cal P w K mg base 4 "peeled" (spPeeled K) := by
  have nd := sc_peeled.nd
  refine cal_of F.kp g (F.bindsN fun _ _ _ _ _ _ us hl => match us, hl with | [_, _], _ => rfl) (fn_body F sc_peeled (fun vs H Q E h => ?_) (fun cdv A outer s H vs Q E hr h => ?_))
  · first | (obtain ⟨rfl, _⟩ := h; rfl) | (obtain ⟨_, rfl, _⟩ := h; rfl) | (obtain ⟨_, _, rfl, _⟩ := h; rfl) | (obtain ⟨_, _, _, rfl, _⟩ := h; rfl) | (obtain ⟨_, _, _, _, rfl, _⟩ := h; rfl) | (obtain ⟨_, _, _, _, _, rfl, _⟩ := h; rfl) | (obtain ⟨_, _, _, _, _, _, rfl, _⟩ := h; rfl) | (obtain ⟨_, _, _, _, _, _, _, rfl, _⟩ := h; rfl) | (obtain ⟨_, _, _, _, _, _, _, _, rfl, _⟩ := h; rfl) | (obtain ⟨_, _, _, _, _, _, _, _, _, rfl, _⟩ := h; rfl) | (obtain ⟨_, _, _, _, _, _, _, _, _, _, rfl, _⟩ := h; rfl) | (obtain ⟨_, _, _, _, _, _, _, _, _, _, _, rfl, _⟩ := h; rfl) | (obtain ⟨_, _, _, _, _, _, _, _, _, _, _, _, rfl, _⟩ := h; rfl) | (obtain ⟨_, _, _, _, _, _, _, _, _, _, _, _, _, rfl, _⟩ := h; rfl) | (obtain ⟨_, _, _, _, _, _, _, _, _, _, _, _, _, _, rfl, _⟩ := h; rfl) | (obtain ⟨_, _, _, _, _, _, _, _, _, _, _, _, _, _, _, rfl, _⟩ := h; rfl) | (obtain ⟨_, _, _, _, _, _, _, _, _, _, _, _, _, _, _, _, rfl, _⟩ := h; rfl) | (obtain ⟨_, _, _, _, _, _, _, _, _, _, _, _, _, _, _, _, _, rfl, _⟩ := h; rfl) | (obtain ⟨_, _, _, _, _, _, _, _, _, _, _, _, _, _, _, _, _, _, rfl, _⟩ := h; rfl) | (obtain ⟨_, _, _, _, _, _, _, _, _, _, _, _, _, _, _, _, _, _, _, rfl, _⟩ := h; rfl) | (obtain ⟨_, _, _, _, _, _, _, _, _, _, _, _, _, _, _, _, _, _, _, _, rfl, _⟩ := h; rfl) | (obtain ⟨_, _, _, _, _, _, _, _, _, _, _, _, _, _, _, _, _, _, _, _, _, rfl, _⟩ := h; rfl) | (obtain ⟨_, _, _, _, _, _, _, _, _, _, _, _, _, _, _, _, _, _, _, _, _, _, rfl, _⟩ := h; rfl) | (obtain ⟨_, _, _, _, _, _, _, _, _, _, _, _, _, _, _, _, _, _, _, _, _, _, _, rfl, _⟩ := h; rfl)
  refine ⟨_, (pss_cons (ps_expr (pe_c c_need_row (hr.mono (by decide)) takesD (pa_cons (pv 0) pa_nil)))
    (pss_cons (ps_expr (pe_c c_need_rounds (hr.mono (by decide)) takesD (pa_cons (pv 1) (pa_cons pe_int pa_nil))))
    (pss_cons (ps_par (i := 2) (j := 3) rfl nd rfl rfl (by decide) rfl rfl (pa_cons (pe_callTy (cl_listK K) (by rfl) T.n_list (by decide +kernel) (pa_cons (pv 0) pa_nil)) (pa_cons pe_int pa_nil)) (by rfl))
    (pss_cons (ps_while passD (PW.pt (pw_and (pt_cmpR (op_lt) (pv 3) (pv 1) (nomark _)) (pw_and1 (pt_cmpR ((op_neLIK K (by rfl) hr.r.units)) (pv 2) (pe_lst pa_nil) (nomark _))))) (pss_cons (ps_set (i := 2) nd rfl (.inl rfl) (pe_c c_peeled_once (hr.mono (by decide)) takesD (pa_cons (pv 2) pa_nil)))
    (pss_one (ps_aug (i := 3) nd rfl (.inl rfl) pe_int ip_add))))
    (pss_one (ps_ret (pv 2))))))), ?_⟩
  obtain ⟨a, ns, n, rfl, hS, hz, hn, k⟩ := h
  refine q_drop (ev_f (ea_cons (ev_var rfl) ea_nil) (spv_needRow hS hz)) fun H1 e1 => ?_
  refine q_drop (ev_f (ea_cons (ev_var rfl) (ea_cons ev_c ea_nil)) (spv_needRounds hn)) fun H2 e2 => ?_
  refine q_parL (el_cb (ea_cons (ev_var rfl) ea_nil) (rcl_list (ex_l (e1.trans e2) hS))) (fun _ _ _ _ => ev_c) fun p H3 hp e3 h3 => ?_
  have e03 := (e1.trans e2).trans e3
  have hp0 : H p = none := fresh_back (e1.trans e2) hp
  refine q_while (fun m σ' H' => ∃ (j : Nat) (q : Addr), σ' = [some (.ref a), some (.int n), some (.ref q), some (.int (j : Int))] ∧ (m + j = n.toNat) ∧ Ex H H' ∧ H q = none ∧ H' q = some (.lst ((peelN j ns).map V.int))) n.toNat ⟨0, p, rfl, by omega, e03, hp0, h3⟩ ?_
  rintro m σ' H' ⟨j, q, rfl, hj, e, hq0, hq⟩
  refine ⟨decide ((j : Int) < n) && !decide (peelN j ns = []), et_and (et_test (ev_op (ev_var rfl) (ev_var rfl) rv_I0)) fun _ => et_neNil (ev_var rfl) (sq_of hq), fun hb H1 e1 => ?_, fun hb H1 e1 => ?_⟩
  · rw [Bool.and_eq_true, decide_eq_true_iff] at hb
    refine ⟨fun σ2 H2 => ∃ q : Addr, σ2 = [some (.ref a), some (.int n), some (.ref q), some (.int ((j + 1 : Nat) : Int))] ∧ Ex H H2 ∧ H q = none ∧ H2 q = some (.lst ((peelN (j + 1) ns).map V.int)), ?_, ?_⟩
    · rintro σ2 H2 ⟨q2, rfl, a1, a2, a3⟩
      exact ⟨m - 1, by omega, j + 1, q2, rfl, by omega, a1, a2, a3⟩
    · refine q_asgL (el_f (ea_cons (ev_var rfl) ea_nil) (spl_peel1 (ns := peelN j ns) (sq_of (e1 q _ hq)) (Nat.le_trans (peelN_le j ns) hz))) fun r H4 hr e4 h4 => ?_
      refine s_aug (a := (j : Int)) (b := 1) rfl ev_c fun H5 e5 => ?_
      refine ⟨r, by rw [Int.natCast_add]; rfl, (e.trans e1).trans (e4.trans e5), fresh_back (e.trans e1) hr, ?_⟩
      rw [peelN_succ]
      exact e5 r _ h4
  · refine s_ret (ev_var rfl) fun H2 e2 => ?_
    have z : peelN j ns = peelN n.toNat ns := by
      simp only [Bool.and_eq_false_iff, decide_eq_false_iff_not, Bool.not_eq_false', decide_eq_true_eq] at hb
      rcases hb with hb | hb
      · rw [show j = n.toNat by omega]
      · rw [← hj, Nat.add_comm, peelN_add, hb, peelN_nil]
    refine k q H2 hq0 (e.trans (e1.trans e2)) ?_
    rw [← z]
    exact (e1.trans e2) q _ hq
theorem spl_peeled {H : Hp} {a : Addr} {ns : List Int} {n : Int} (h : SqL K H a (ns.map V.int)) (hz : ns.length ≤ 30000) (hn : 0 ≤ n) : SpL (spPeeled K) [.ref a, .int n] H ((peelN n.toNat ns).map V.int) := fun H1 e Q q E => ⟨a, ns, n, rfl, ex_l e h, hz, hn, q⟩

end
end Pk
end

section
namespace Pk
open PySem PySem.Spec PyProof.Rows L2 Evl
section
variable {P : Program} {w : World} {K : PySem.W.Frag} {mg : Str → Option Value} {base : Heap} {CC : Bool → Addr} {NT : Addr}
/-! ### times.py -/
theorem nlist_map (l : List Nat) : (nlist l).map V.int = l.map fun (i : Nat) => V.int (i : Int) := by unfold nlist; rw [List.map_map]; rfl
theorem nlist_get? {l : List Nat} {i : Nat} {x : V} (h : ((nlist l).map V.int)[i]? = some x) : i < l.length ∧ x = V.int (l.getD i 0 : Nat) := by
  obtain ⟨hi, rfl⟩ := get_int h
  rw [nlist_len] at hi
  exact ⟨hi, by rw [nlist_get]⟩
theorem nlist_range (n : Nat) : (((List.range n).filter fun _ => true).map fun i => i) = List.range n := by
  rw [List.filter_eq_self.mpr fun _ _ => rfl, List.map_id']
theorem rv_int {ns : List Int} {a : Addr} {i : Nat} {H : Hp} (h : SqL K H a (ns.map V.int)) (hi : i < ns.length) : RV (rIxL K) (.ref a) (.int (i : Int)) H (.int (ns.getD i 0)) := by
  rw [getD_lt hi]
  exact rv_at h (List.getElem?_eq_getElem hi)
def dN : Nat → V := fun i => V.int (i : Int)
theorem rv_nat {l : List Nat} {a : Addr} {i : Nat} {H : Hp} (h : SqL K H a (l.map dN)) (hi : i < l.length) : RV (rIxL K) (.ref a) (.int (i : Int)) H (dN (l.getD i 0)) := by
  rw [getD_lt hi]
  exact rv_at h (List.getElem?_eq_getElem hi)
theorem dn_range (n : Nat) : (((List.range n).filter fun _ => true).map fun i => i).map dN = (List.range n).map dN := by rw [nlist_range]
theorem dn_ints (l : List Nat) : l.map dN = (nlist l).map V.int := (nlist_map l).symm
theorem filter_true {β : Type} (l : List β) : (l.filter fun _ => true) = l := List.filter_eq_self.mpr fun _ _ => rfl
/-- list != [] of places -/
theorem et_neNilN {te : TE} {σ : L2.St} {H : Hp} {a : Addr} {l : List Nat} (ha : Ev te σ H (.ref a)) (h : SqL K H a (l.map dN)) : EvT (tTest (tOp (rNeLI K) te (tLst tNil))) σ H (!decide (l = [])) := by
  rw [dn_ints] at h
  refine et_is (et_neNil ha h) ?_
  congr 1
  rw [Bool.eq_iff_iff, decide_eq_true_iff, decide_eq_true_iff]
  unfold nlist
  exact List.map_eq_nil_iff
theorem wipe_same {σ : L2.St} {vs : List Nat} {i : Nat} (h : wipe (σ.set i none) vs = wipe σ vs) : True := trivial
def spTimes (K : PySem.W.Frag) : Sp := fun vs H Q _ => ∃ a ns, vs = [.ref a] ∧ SqL K H a (List.map V.int ns) ∧ ns.length ≤ 30000 ∧ RetL ((timesIn ns).map V.int) H Q
theorem spl_times {H : Hp} {a : Addr} {ns : List Int} (h : SqL K H a (ns.map V.int)) (hz : ns.length ≤ 30000) : SpL (spTimes K) [.ref a] H ((timesIn ns).map V.int) := fun H1 e Q q E => ⟨a, ns, rfl, ex_l e h, hz, q⟩

end
end Pk
end

section
namespace Pk
open PySem PySem.Spec PyProof.Rows L2 Evl
section
variable {P : Program} {w : World} {K : PySem.W.Frag} {mg : Str → Option Value} {base : Heap} {CC : Bool → Addr} {NT : Addr}
/-! ### draws -/
theorem upd_self (H : Hp) (b : Addr) (o u : HO) : upd (upd H b o) b u = upd H b u := by
  funext x
  by_cases h : x = b
  · subst h; rw [upd_same, upd_same]
  · rw [upd_ne h, upd_ne h, upd_ne h]
theorem draw_le {y z : Int} {n : Nat} (hy : 0 ≤ y) (hy2 : y < 2 ^ 160) (hz : 0 ≤ z) (hz2 : z ≤ n) (hn : n ≤ 1000000000) : (y + 1134903170 * (z + 1)).natAbs < 2 ^ 161 := by
  have e : (2 : Int) ^ 160 = 1461501637330902918203684832716283019655932542976 := by decide +kernel
  have e2 : (2 : Nat) ^ 161 = 2923003274661805836407369665432566039311865085952 := by decide +kernel
  rw [e] at hy2
  rw [e2]
  omega
theorem nat_mod {a m : Int} (hm : 0 < m) : ∃ r : Nat, a % m = (r : Int) ∧ (r : Int) < m := by
  refine ⟨(a % m).toNat, ?_, ?_⟩
  · rw [Int.toNat_of_nonneg (Int.emod_nonneg _ (by omega))]
  · rw [Int.toNat_of_nonneg (Int.emod_nonneg _ (by omega))]; exact Int.emod_lt_of_pos _ hm
theorem sc_law_draw : FnScope ["barrel", "many", "found", "mixed"] ["barrel", "many"] (defScope s_law_draw) := ⟨rfl, rfl, rfl, by decide +kernel, rfl, by decide +kernel, by decide +kernel⟩
theorem ok_law_draw {f : Addr} {fd : FuncData} (F : FnP K "_law_draw" s_law_draw f fd) (g : mg "_law_draw" = some (.ref f)) (T : Bl mg)   : Cal P w K mg base 1 "_law_draw" spDraw := by
  have nd := sc_law_draw.nd
  refine cal_of F.kp g (F.bindsN fun _ _ _ _ _ _ us hl => match us, hl with | [_, _], _ => rfl) (fn_body F sc_law_draw (fun vs H Q E h => ?_) (fun cdv A outer s H vs Q E hr h => ?_))
  · first | (obtain ⟨rfl, _⟩ := h; rfl) | (obtain ⟨_, rfl, _⟩ := h; rfl) | (obtain ⟨_, _, rfl, _⟩ := h; rfl) | (obtain ⟨_, _, _, rfl, _⟩ := h; rfl) | (obtain ⟨_, _, _, _, rfl, _⟩ := h; rfl) | (obtain ⟨_, _, _, _, _, rfl, _⟩ := h; rfl) | (obtain ⟨_, _, _, _, _, _, rfl, _⟩ := h; rfl) | (obtain ⟨_, _, _, _, _, _, _, rfl, _⟩ := h; rfl) | (obtain ⟨_, _, _, _, _, _, _, _, rfl, _⟩ := h; rfl) | (obtain ⟨_, _, _, _, _, _, _, _, _, rfl, _⟩ := h; rfl) | (obtain ⟨_, _, _, _, _, _, _, _, _, _, rfl, _⟩ := h; rfl) | (obtain ⟨_, _, _, _, _, _, _, _, _, _, _, rfl, _⟩ := h; rfl) | (obtain ⟨_, _, _, _, _, _, _, _, _, _, _, _, rfl, _⟩ := h; rfl) | (obtain ⟨_, _, _, _, _, _, _, _, _, _, _, _, _, rfl, _⟩ := h; rfl) | (obtain ⟨_, _, _, _, _, _, _, _, _, _, _, _, _, _, rfl, _⟩ := h; rfl) | (obtain ⟨_, _, _, _, _, _, _, _, _, _, _, _, _, _, _, rfl, _⟩ := h; rfl) | (obtain ⟨_, _, _, _, _, _, _, _, _, _, _, _, _, _, _, _, rfl, _⟩ := h; rfl) | (obtain ⟨_, _, _, _, _, _, _, _, _, _, _, _, _, _, _, _, _, rfl, _⟩ := h; rfl) | (obtain ⟨_, _, _, _, _, _, _, _, _, _, _, _, _, _, _, _, _, _, rfl, _⟩ := h; rfl) | (obtain ⟨_, _, _, _, _, _, _, _, _, _, _, _, _, _, _, _, _, _, _, rfl, _⟩ := h; rfl) | (obtain ⟨_, _, _, _, _, _, _, _, _, _, _, _, _, _, _, _, _, _, _, _, rfl, _⟩ := h; rfl) | (obtain ⟨_, _, _, _, _, _, _, _, _, _, _, _, _, _, _, _, _, _, _, _, _, rfl, _⟩ := h; rfl) | (obtain ⟨_, _, _, _, _, _, _, _, _, _, _, _, _, _, _, _, _, _, _, _, _, _, rfl, _⟩ := h; rfl) | (obtain ⟨_, _, _, _, _, _, _, _, _, _, _, _, _, _, _, _, _, _, _, _, _, _, _, rfl, _⟩ := h; rfl)
  refine ⟨_, (pss_cons (ps_if (pt_cmpR (op_gt) (pe_ix (ix_listK K) (pv 0) pe_int (fun _ _ => rfl)) pe_int (nomark _)) (pss_cons (ps_set (i := 2) nd rfl (.inl rfl) (pe_op op_mod (pe_ix (ix_listK K) (pv 0) pe_int (fun _ _ => rfl)) (pv 1)))
    (pss_cons (ps_asg (pe_op op_fdivW (pe_ix (ix_listK K) (pv 0) pe_int (fun _ _ => rfl)) (pv 1)) (pg_sub (pv 0) pe_int set_list))
    (pss_one (ps_ret (pv 2))))) pss_nil)
    (pss_cons (ps_asg (pe_op op_add (pe_ix (ix_listK K) (pv 0) pe_int (fun _ _ => rfl)) pe_int) (pg_sub (pv 0) pe_int set_list))
    (pss_cons (ps_set (i := 3) nd rfl (.inl rfl) (pe_op op_mod (pe_op op_powW (pe_op op_add (pe_ix (ix_listK K) (pv 0) pe_int (fun _ _ => rfl)) (pe_op op_mul pe_int (pe_ix (ix_listK K) (pv 0) pe_int (fun _ _ => rfl)))) pe_int) (pe_op op_add (pe_op op_powW pe_int pe_int) pe_int)))
    (pss_cons (ps_set (i := 3) nd rfl (.inl rfl) (pe_op op_mod (pe_op op_add (pe_op op_mulW (pv 3) (pv 3)) (pe_op op_mul pe_int (pe_ix (ix_listK K) (pv 0) pe_int (fun _ _ => rfl)))) (pe_op op_add (pe_op op_powW pe_int pe_int) pe_int)))
    (pss_one (ps_ret (pe_op op_mod (pe_op op_fdiv (pv 3) pe_int) (pv 1)))))))), ?_⟩
  obtain ⟨b, n, many, rfl, hb, hn, h1, h2, k⟩ := h
  obtain ⟨x, y, z, hH, hx, hy, hy2, hz, hz2⟩ := hb.ex
  refine q_when (b := decide (x > 0)) (et_test (ev_op (ev_op (ev_var rfl) ev_c (rv_ixL (sq_of hH) rfl)) ev_c rv_I0)) (fun hc H1 e1 => ?_) (fun hc H1 e1 => ?_)
  · obtain ⟨r, er, hr⟩ := nat_mod (a := x) (m := many) (by omega)
    refine q_asg (v := .int (r : Int)) (ev_is (ev_op (ev_op (ev_var rfl) ev_c (rv_ixL (sq_of (e1 _ _ hH)) rfl)) (ev_var rfl) (rv_I (by omega))) (by rw [er])) fun H2 e2 => ?_
    have hH2 := e2 _ _ (e1 _ _ hH)
    refine q_setL (j := 0) (v := .int (x / many)) hH2 (ev_op (ev_op (ev_var rfl) ev_c (rv_ixL (sq_of hH2) rfl)) (ev_var rfl) (rv_I ⟨by omega, ?_⟩)) (ev_var rfl) ev_c (show 0 < 3 by decide) fun H3 e3 => ?_
    · refine Nat.lt_trans (m := 200) ?_ (show 200 < 9000 by decide)
      have : many.natAbs < 2 ^ 200 := by
        have e2 : (2 : Nat) ^ 200 = 1606938044258990275541962092341162602522202993782792835301376 := by decide +kernel
        have e3 : (10 : Int) ^ 40 = 10000000000000000000000000000000000000000 := by decide +kernel
        rw [e2]; rw [e3] at h2; omega
      exact (Nat.log2_lt (by omega)).mpr this
    · refine s_ret (ev_var rfl) fun H4 e4 => k r H4 ?_ ?_ hr
      · exact ((((Sm.ex (e1.trans (e2.trans e3))).mut (.inl (List.mem_singleton.mpr rfl))).trans (Sm.ex e4)))
      · exact ⟨_, _, _, e4 b _ upd_same, Int.ediv_nonneg hx (by omega), hy, hy2, hz, by omega⟩
  · refine q_setL (j := 2) (v := .int (z + 1)) (e1 _ _ hH) (ev_op (ev_op (ev_var rfl) ev_c (rv_ixL (sq_of (e1 _ _ hH)) rfl)) ev_c rv_I0) (ev_var rfl) ev_c (show 2 < 3 by decide) fun H2 e2 => ?_
    have hs : SqL K (upd H2 b (.lst [.int x, .int y, .int (z + 1)])) b [.int x, .int y, .int (z + 1)] := sq_of upd_same
    have hx0 : x = 0 := by have := of_decide_eq_false hc; omega
    obtain ⟨m1, em1, hm1⟩ := nat_mod (a := (y + 1134903170 * (z + 1)) ^ (3 : Int).toNat) (m := 10 ^ (46 : Int).toNat + 9) (by decide +kernel)
    refine q_asg (v := .int (m1 : Int)) (ev_is (ev_op (ev_op (ev_op (ev_op (ev_var rfl) ev_c (rv_ixL hs rfl)) (ev_op ev_c (ev_op (ev_var rfl) ev_c (rv_ixL hs rfl)) (rv_I (.inl (by decide)))) rv_I0) ev_c (rv_I (pow_ok (b := 161) (draw_le hy hy2 hz hz2 hn) (by decide) (by decide))))
      (ev_op (ev_op ev_c ev_c (rv_I (pow_ok (b := 4) (by decide) (by decide) (by decide)))) ev_c rv_I0) (rv_I (by decide +kernel))) (by rw [em1])) fun H3 e3 => ?_
    have hs3 := ex_l e3 hs
    obtain ⟨m2, em2, hm2⟩ := nat_mod (a := (m1 : Int) * m1 + 701408733 * (z + 1)) (m := 10 ^ (45 : Int).toNat + 9) (by decide +kernel)
    have hm1' : (m1 : Int).natAbs < 2 ^ 200 := by
      have e2 : (2 : Nat) ^ 200 = 1606938044258990275541962092341162602522202993782792835301376 := by decide +kernel
      have e3 : (10 : Int) ^ (46 : Int).toNat + 9 = 10000000000000000000000000000000000000000000009 := by decide +kernel
      rw [e2]; rw [e3] at hm1; omega
    refine q_asg (v := .int (m2 : Int)) (ev_is (ev_op (ev_op (ev_op (ev_var rfl) (ev_var rfl) (rv_I (wide_mul hm1' hm1' (by decide) (by decide) (by decide)))) (ev_op ev_c (ev_op (ev_var rfl) ev_c (rv_ixL hs3 rfl)) (rv_I (.inl (by decide)))) rv_I0)
      (ev_op (ev_op ev_c ev_c (rv_I (pow_ok (b := 4) (by decide) (by decide) (by decide)))) ev_c rv_I0) (rv_I (by decide +kernel))) (by rw [em2])) fun H4 e4 => ?_
    obtain ⟨r, er, hr⟩ := nat_mod (a := (m2 : Int) / 433494437) (m := many) (by omega)
    refine s_ret (v := .int (r : Int)) (ev_is (ev_op (ev_op (ev_var rfl) ev_c (rv_I ⟨by decide, by decide⟩)) (ev_var rfl) (rv_I (by omega))) (by rw [er])) fun H5 e5 => k r H5 ?_ ?_ hr
    · exact (((Sm.ex (e1.trans e2)).mut (.inl (List.mem_singleton.mpr rfl))).trans (Sm.ex ((e3.trans e4).trans e5)))
    · exact ⟨_, _, _, ((e3.trans e4).trans e5) b _ upd_same, hx, hy, hy2, by omega, by omega⟩
def spBarrel (K : PySem.W.Frag) : Sp := fun vs H Q _ => ∃ (a : Addr) (sc : List Int) (k : Nat), vs = [.ref a, .int (k : Int)] ∧ SqL K H a (sc.map V.int) ∧ k ≤ 100 ∧ ∀ b H1, H b = none → Ex H H1 → BarAt H1 b 0 → Q (.ref b) H1
theorem sc_law_barrel : FnScope ["script", "k", "cell"] ["script", "k"] (defScope s_law_barrel) := ⟨rfl, rfl, rfl, by decide +kernel, rfl, by decide +kernel, by decide +kernel⟩
theorem ok_law_barrel {f : Addr} {fd : FuncData} (F : FnP K "_law_barrel" s_law_barrel f fd) (g : mg "_law_barrel" = some (.ref f)) (T : Bl mg)   : Cal P w K mg base 1 "_law_barrel" (spBarrel K) := by
  have nd := sc_law_barrel.nd
  refine cal_of F.kp g (F.bindsN fun _ _ _ _ _ _ us hl => match us, hl with | [_, _], _ => rfl) (fn_body F sc_law_barrel (fun vs H Q E h => ?_) (fun cdv A outer s H vs Q E hr h => ?_))
  · first | (obtain ⟨rfl, _⟩ := h; rfl) | (obtain ⟨_, rfl, _⟩ := h; rfl) | (obtain ⟨_, _, rfl, _⟩ := h; rfl) | (obtain ⟨_, _, _, rfl, _⟩ := h; rfl) | (obtain ⟨_, _, _, _, rfl, _⟩ := h; rfl) | (obtain ⟨_, _, _, _, _, rfl, _⟩ := h; rfl) | (obtain ⟨_, _, _, _, _, _, rfl, _⟩ := h; rfl) | (obtain ⟨_, _, _, _, _, _, _, rfl, _⟩ := h; rfl) | (obtain ⟨_, _, _, _, _, _, _, _, rfl, _⟩ := h; rfl) | (obtain ⟨_, _, _, _, _, _, _, _, _, rfl, _⟩ := h; rfl) | (obtain ⟨_, _, _, _, _, _, _, _, _, _, rfl, _⟩ := h; rfl) | (obtain ⟨_, _, _, _, _, _, _, _, _, _, _, rfl, _⟩ := h; rfl) | (obtain ⟨_, _, _, _, _, _, _, _, _, _, _, _, rfl, _⟩ := h; rfl) | (obtain ⟨_, _, _, _, _, _, _, _, _, _, _, _, _, rfl, _⟩ := h; rfl) | (obtain ⟨_, _, _, _, _, _, _, _, _, _, _, _, _, _, rfl, _⟩ := h; rfl) | (obtain ⟨_, _, _, _, _, _, _, _, _, _, _, _, _, _, _, rfl, _⟩ := h; rfl) | (obtain ⟨_, _, _, _, _, _, _, _, _, _, _, _, _, _, _, _, rfl, _⟩ := h; rfl) | (obtain ⟨_, _, _, _, _, _, _, _, _, _, _, _, _, _, _, _, _, rfl, _⟩ := h; rfl) | (obtain ⟨_, _, _, _, _, _, _, _, _, _, _, _, _, _, _, _, _, _, rfl, _⟩ := h; rfl) | (obtain ⟨_, _, _, _, _, _, _, _, _, _, _, _, _, _, _, _, _, _, _, rfl, _⟩ := h; rfl) | (obtain ⟨_, _, _, _, _, _, _, _, _, _, _, _, _, _, _, _, _, _, _, _, rfl, _⟩ := h; rfl) | (obtain ⟨_, _, _, _, _, _, _, _, _, _, _, _, _, _, _, _, _, _, _, _, _, rfl, _⟩ := h; rfl) | (obtain ⟨_, _, _, _, _, _, _, _, _, _, _, _, _, _, _, _, _, _, _, _, _, _, rfl, _⟩ := h; rfl) | (obtain ⟨_, _, _, _, _, _, _, _, _, _, _, _, _, _, _, _, _, _, _, _, _, _, _, rfl, _⟩ := h; rfl)
  refine ⟨_, (pss_cons (ps_set (i := 2) nd rfl (.inl rfl) pe_int)
    (pss_cons (ps_if (pt_cmpR (op_lt) (pv 1) (pe_callB (cl_lenK K) (by rfl) T.n_len (by decide +kernel) (pa_cons (pv 0) pa_nil)) (nomark _)) (pss_one (ps_set (i := 2) nd rfl (.inl rfl) (pe_ix (ix_listK K) (pv 0) (pv 1) (fun _ _ => rfl)))) pss_nil)
    (pss_one (ps_ret (pe_lst (pa_cons (pe_callB (cl_max2 rfl) (by rfl) T.n_max (by decide +kernel) (pa_cons pe_int (pa_cons (pe_op op_sub (pv 2) (pe_op op_powW pe_int pe_int)) pa_nil))) (pa_cons (pe_op op_add (pe_op op_add (pe_op op_mul (pe_op op_mod (pv 2) (pe_op op_add (pe_op op_powW pe_int pe_int) pe_int)) pe_int) (pe_op op_mul pe_int (pv 1))) pe_int) (pa_cons pe_int pa_nil)))))))), ?_⟩
  obtain ⟨a, sc, k, rfl, hS, hk, q⟩ := h
  refine q_asg ev_c fun H1 e1 => ?_
  refine q_ifAsg (v := .int (sc.getD k 0)) (b := decide ((k : Int) < sc.length)) (et_is (et_test (ev_op (ev_var rfl) (ev_cb (ea_cons (ev_var rfl) ea_nil) (rc_len (ex_l e1 hS))) rv_I0)) (by rw [List.length_map])) (fun hb => ev_op (ev_var rfl) (ev_var rfl) (rv_int (ex_l e1 hS) (by have := of_decide_eq_true hb; omega))) (fun hb => ?_) fun H2 e2 => ?_
  · have : sc.getD k 0 = 0 := by
      rw [List.getD_eq_getElem?_getD, List.getElem?_eq_none (by have := of_decide_eq_false hb; omega)]; rfl
    rw [this]; rfl
  · have hm := Int.emod_nonneg (sc.getD k 0) (b := 10 ^ (38 : Int).toNat + 133) (by decide +kernel)
    have hl := Int.emod_lt_of_pos (sc.getD k 0) (b := 10 ^ (38 : Int).toNat + 133) (by decide +kernel)
    refine s_retL (el_lst (ea_cons (ev_cb (ea_cons ev_c (ea_cons (ev_op (ev_var rfl) (ev_op ev_c ev_c (rv_I (pow_ok (b := 4) (by decide) (by decide) (by decide)))) rv_I0) ea_nil)) rc_max2)
      (ea_cons (ev_op (ev_op (ev_op (ev_op (ev_var rfl) (ev_op (ev_op ev_c ev_c (rv_I (pow_ok (b := 4) (by decide) (by decide) (by decide)))) ev_c rv_I0) (rv_I (by decide +kernel))) ev_c (rv_I (.inr (by decide)))) (ev_op ev_c (ev_var rfl) (rv_I (.inl (by decide)))) rv_I0) ev_c rv_I0)
      (ea_cons ev_c ea_nil))) (show 3 ≤ 100000 by decide)) fun p H3 hp e3 h3 => ?_
    refine q p H3 (fresh_back (e1.trans e2) hp) ((e1.trans e2).trans e3) ⟨_, _, _, h3, ?_, ?_, ?_, by decide, by decide⟩
    · split <;> omega
    · omega
    · have e : (2 : Int) ^ 160 = 1461501637330902918203684832716283019655932542976 := by decide +kernel
      have e3 : (10 : Int) ^ (38 : Int).toNat + 133 = 100000000000000000000000000000000000133 := by decide +kernel
      rw [e]; rw [e3] at hl ⊢; omega
theorem big {x : Int} (h : x ≤ 100000) : x ≤ 10 ^ 40 := Int.le_trans h (by decide +kernel)
def spEntries : Sp := fun vs H Q _ => ∃ (b : Addr) (n most : Nat), vs = [.ref b, .int (most : Int)] ∧ BarAt H b n ∧ n ≤ 100000000 ∧ most ≤ 100 ∧
  ∀ (p : Addr) (ns : List Int) H1, Sm [b] H H1 → BarAt H1 b (n + 400) → H p = none → H1 p = some (.lst (ns.map V.int)) → ns.length ≤ most → (∀ x ∈ ns, Sz x) → Q (.ref p) H1
theorem nb_mem1 {b p : Addr} (h : p ≠ b) : p ∉ [b] := fun z => h (List.mem_singleton.mp z)
theorem sc_law_entries : FnScope ["barrel", "most", "way", "found", "many", "turn", "few", "any_one", "great"] ["barrel", "most"] (defScope s_law_entries) := ⟨rfl, rfl, rfl, by decide +kernel, rfl, by decide +kernel, by decide +kernel⟩
theorem ok_law_entries {f : Addr} {fd : FuncData} (F : FnP K "_law_entries" s_law_entries f fd) (g : mg "_law_entries" = some (.ref f)) (T : Bl mg) (c_law_draw : Cal P w K mg base 1 "_law_draw" spDraw)  : Cal P w K mg base 2 "_law_entries" spEntries := by
  have nd := sc_law_entries.nd
  refine cal_of F.kp g (F.bindsN fun _ _ _ _ _ _ us hl => match us, hl with | [_, _], _ => rfl) (fn_body F sc_law_entries (fun vs H Q E h => ?_) (fun cdv A outer s H vs Q E hr h => ?_))
  · first | (obtain ⟨rfl, _⟩ := h; rfl) | (obtain ⟨_, rfl, _⟩ := h; rfl) | (obtain ⟨_, _, rfl, _⟩ := h; rfl) | (obtain ⟨_, _, _, rfl, _⟩ := h; rfl) | (obtain ⟨_, _, _, _, rfl, _⟩ := h; rfl) | (obtain ⟨_, _, _, _, _, rfl, _⟩ := h; rfl) | (obtain ⟨_, _, _, _, _, _, rfl, _⟩ := h; rfl) | (obtain ⟨_, _, _, _, _, _, _, rfl, _⟩ := h; rfl) | (obtain ⟨_, _, _, _, _, _, _, _, rfl, _⟩ := h; rfl) | (obtain ⟨_, _, _, _, _, _, _, _, _, rfl, _⟩ := h; rfl) | (obtain ⟨_, _, _, _, _, _, _, _, _, _, rfl, _⟩ := h; rfl) | (obtain ⟨_, _, _, _, _, _, _, _, _, _, _, rfl, _⟩ := h; rfl) | (obtain ⟨_, _, _, _, _, _, _, _, _, _, _, _, rfl, _⟩ := h; rfl) | (obtain ⟨_, _, _, _, _, _, _, _, _, _, _, _, _, rfl, _⟩ := h; rfl) | (obtain ⟨_, _, _, _, _, _, _, _, _, _, _, _, _, _, rfl, _⟩ := h; rfl) | (obtain ⟨_, _, _, _, _, _, _, _, _, _, _, _, _, _, _, rfl, _⟩ := h; rfl) | (obtain ⟨_, _, _, _, _, _, _, _, _, _, _, _, _, _, _, _, rfl, _⟩ := h; rfl) | (obtain ⟨_, _, _, _, _, _, _, _, _, _, _, _, _, _, _, _, _, rfl, _⟩ := h; rfl) | (obtain ⟨_, _, _, _, _, _, _, _, _, _, _, _, _, _, _, _, _, _, rfl, _⟩ := h; rfl) | (obtain ⟨_, _, _, _, _, _, _, _, _, _, _, _, _, _, _, _, _, _, _, rfl, _⟩ := h; rfl) | (obtain ⟨_, _, _, _, _, _, _, _, _, _, _, _, _, _, _, _, _, _, _, _, rfl, _⟩ := h; rfl) | (obtain ⟨_, _, _, _, _, _, _, _, _, _, _, _, _, _, _, _, _, _, _, _, _, rfl, _⟩ := h; rfl) | (obtain ⟨_, _, _, _, _, _, _, _, _, _, _, _, _, _, _, _, _, _, _, _, _, _, rfl, _⟩ := h; rfl) | (obtain ⟨_, _, _, _, _, _, _, _, _, _, _, _, _, _, _, _, _, _, _, _, _, _, _, rfl, _⟩ := h; rfl)
  refine ⟨_, (pss_cons (ps_par (i := 2) (j := 3) rfl nd rfl rfl (by decide) rfl rfl (pa_cons (pe_c c_law_draw (hr.mono (by decide)) takesD (pa_cons (pv 0) (pa_cons pe_int pa_nil))) (pa_cons (pe_lst pa_nil) pa_nil)) (by rfl))
    (pss_cons (ps_set (i := 4) nd rfl (.inl rfl) (pe_ix (ix_listK K) (pe_lst (pa_cons (pe_c c_law_draw (hr.mono (by decide)) takesD (pa_cons (pv 0) (pa_cons (pe_op op_add (pv 1) pe_int) pa_nil))) (pa_cons (pv 1) pa_nil))) (pe_op op_fdiv (pe_c c_law_draw (hr.mono (by decide)) takesD (pa_cons (pv 0) (pa_cons pe_int pa_nil))) pe_int) (fun _ _ => rfl)))
    (pss_cons (ps_for passD rfl (pi_range1 (by rfl) T.n_range (pa_cons (pv 4) pa_nil)) (pg_name (i := 5) nd rfl (.inl rfl)) (pss_cons (ps_par (i := 6) (j := 7) rfl nd rfl rfl (by decide) rfl rfl (pa_cons (pe_c c_law_draw (hr.mono (by decide)) takesD (pa_cons (pv 0) (pa_cons pe_int pa_nil))) (pa_cons (pe_op op_sub (pe_c c_law_draw (hr.mono (by decide)) takesD (pa_cons (pv 0) (pa_cons pe_int pa_nil))) pe_int) pa_nil)) (by rfl))
    (pss_cons (ps_set (i := 8) nd rfl (.inl rfl) (pe_op op_sub (pe_c c_law_draw (hr.mono (by decide)) takesD (pa_cons (pv 0) (pa_cons (pe_op op_add (pe_op op_mul pe_int (pe_op op_powW pe_int pe_int)) pe_int) pa_nil))) (pe_op op_powW pe_int pe_int)))
    (pss_one (ps_expr (pe_bm PySem.F.plainAttrs_list PySem.F.slot_list_append PySem.F.type_list_append mt_append (pv 3) (pa_cons (pe_ix (ix_listK K) (pe_lst (pa_cons (pv 6) (pa_cons (pv 7) (pa_cons pe_int (pa_cons (pv 5) (pa_cons (pe_op op_sub (pv 1) (pe_op op_fdiv (pv 5) pe_int)) (pa_cons (pe_op op_sub (pe_op op_mod (pe_op op_mul (pv 5) pe_int) pe_int) (pv 6)) (pa_cons (pv 8) pa_nil)))))))) (pv 2) (fun _ _ => rfl)) pa_nil)))))))
    (pss_one (ps_ret (pv 3)))))), ?_⟩
  obtain ⟨b, n, most, rfl, hb, hn, hm, k⟩ := h
  refine wq_par (w_cons (draw_go (ea_cons (ev_var rfl) (ea_cons ev_c ea_nil)) hb (by omega) (by decide) (by decide +kernel) fun way H1 s1 hb1 hw => w_cons (w_lst (w_nil ⟨by decide, fun p hp => w_nil ⟨_, _, rfl, ?_⟩⟩))))
  have hp0 : H p = none := s1.back hp
  have hpb : p ≠ b := (hb1.ne hp).symm
  have s2 : Sm [b] H (upd H1 p (.lst [])) := s1.mut (.inr hp0)
  have hb2 := hb1.mono (Ex.new (o := .lst []) hp)
  have hp2 : upd H1 p (.lst []) p = some (.lst []) := upd_same
  generalize upd H1 p (.lst []) = H2 at s2 hb2 hp2 ⊢
  refine wq_asg (w_op (w_lst (w_cons (draw_go (ea_cons (ev_var rfl) (ea_cons (ev_op (ev_var rfl) ev_c rv_I0) ea_nil)) hb2 (by omega) (by omega) (big (by omega)) fun r1 H3 s3 hb3 hr1 => w_cons1 (ev_var rfl) fun H4 e4 => w_nil ⟨show 2 ≤ sizeLine by decide, fun q hq => ?_⟩))))
  have s4 : Sm [b] H H4 := (s2.trans s3).trans (Sm.ex e4)
  have hq0 : H q = none := s4.back hq
  have hp4 : H4 p = some (.lst []) := e4 p _ (s3.at (nb_mem1 hpb) hp2)
  have hb4 := hb3.mono e4
  have hqb : q ≠ b := (hb4.ne hq).symm
  have hqp : q ≠ p := ne_of_new' hp4 hq
  refine ixf_go (c := 3) upd_same (ea_cons (ev_var rfl) (ea_cons ev_c ea_nil)) (hb4.mono (Ex.new hq)) (by omega) (by decide) (by decide +kernel) hqb (by decide) (show (4 : Int) ≤ ((2 * 3 : Nat) : Int) by decide) fun i v H5 hv s5 hb5 => ?_
  have s5' : Sm [b] H H5 := (s4.mut (.inr hq0)).trans s5
  have hp5 : H5 p = some (.lst []) := s5.at (nb_mem1 hpb) (by rw [upd_ne (Ne.symm hqp)]; exact hp4)
  obtain ⟨m, rfl, hmm⟩ : ∃ m : Nat, v = .int (m : Int) ∧ m ≤ most := by
    match i, hv with
    | 0, hv => cases hv; exact ⟨r1, rfl, by omega⟩
    | 1, hv => cases hv; exact ⟨most, rfl, Nat.le_refl _⟩
  clear hp4 hb4 hqb hqp hq hb3 s3 hp2 s2 hb2 e4 hv
  refine q_forR1 (n := (m : Int)) (ea_cons (ev_var rfl) ea_nil) (by omega) (fun i σ' H' => ∃ o5 o6 o7 o8, σ' = [some (.ref b), some (.int (most : Int)), some (.int (way : Int)), some (.ref p), some (.int (m : Int)), o5, o6, o7, o8] ∧ Sm [b] H H' ∧ BarAt H' b (n + 3 + 3 * i) ∧ ∃ ns : List Int, ns.length = i ∧ (∀ x ∈ ns, Sz x) ∧ H' p = some (.lst (ns.map V.int)))
    (fun H6 e6 => ⟨_, _, _, _, rfl, s5'.trans (Sm.ex e6), (hb5.mono e6).le (by omega), [], rfl, fun x hx => (nomatch hx), e6 p _ hp5⟩) ?_ ?_
  · rintro i σ' H' hi ⟨o5, o6, o7, o8, rfl, s, hbi, ns, hl, hz, hpi⟩
    refine wq_par (w_cons (draw_go (ea_cons (ev_var rfl) (ea_cons ev_c ea_nil)) hbi (by omega) (by decide) (by decide +kernel) fun few H6 s6 hb6 hf => w_cons (w_op (draw_go (ea_cons (ev_var rfl) (ea_cons ev_c ea_nil)) hb6 (by omega) (by decide) (by decide +kernel) fun any H7 s7 hb7 ha => Ev.go ev_c fun H8 e8 => RV.go rv_I0 fun H9 e9 => w_nil ⟨_, _, rfl, ?_⟩))))
    refine wq_asg (w_op (draw_go (ea_cons (ev_var rfl) (ea_cons (ev_op (ev_op ev_c (ev_op ev_c ev_c (rv_I (pow_ok (b := 4) (by decide) (by decide) (by decide)))) (rv_I (.inl (by decide)))) ev_c rv_I0) ea_nil)) (hb7.mono (e8.trans e9)) (by omega) (by decide +kernel) (by decide +kernel) fun gr H10 s10 hb10 hg =>
      Ev.go (ev_op ev_c ev_c (rv_I (pow_ok (b := 4) (by decide) (by decide) (by decide)))) fun H11 e11 => RV.go rv_I0 fun H12 e12 => ?_))
    have s12 : Sm [b] H H12 := (((s.trans s6).trans s7).trans (Sm.ex (e8.trans e9))).trans (s10.trans (Sm.ex (e11.trans e12)))
    have hp12 : H12 p = some (.lst (ns.map V.int)) := (e11.trans e12) p _ (s10.at (nb_mem1 hpb) ((e8.trans e9) p _ (s7.at (nb_mem1 hpb) (s6.at (nb_mem1 hpb) hpi))))
    have hb12 := hb10.mono (e11.trans e12)
    have hg' : (gr : Int) < 2000000000000000000000000000001 := by
      have e : (2 : Int) * 10 ^ (30 : Int).toNat + 1 = 2000000000000000000000000000001 := by decide +kernel
      rw [e] at hg; exact hg
    have e30 : (10 : Int) ^ (30 : Int).toNat = 1000000000000000000000000000000 := by decide +kernel
    refine s_app (v := .int (([(few : Int), (any : Int) - 12, 7, (i : Int), (most : Int) - (i : Int) / 2, (i : Int) * 17 % 11 - (few : Int), (gr : Int) - 10 ^ (30 : Int).toNat] : List Int).getD way 0)) hp12 (ev_var rfl)
      (ev_opL1 (xs := ([(few : Int), (any : Int) - 12, 7, (i : Int), (most : Int) - (i : Int) / 2, (i : Int) * 17 % 11 - (few : Int), (gr : Int) - 10 ^ (30 : Int).toNat] : List Int).map V.int)
        (el_lst (ea_cons (ev_var rfl) (ea_cons (ev_var rfl) (ea_cons ev_c (ea_cons (ev_var rfl) (ea_cons (ev_op (ev_var rfl) (ev_op (ev_var rfl) ev_c (rv_I ⟨by decide, by decide⟩)) rv_I0) (ea_cons (ev_op (ev_op (ev_op (ev_var rfl) ev_c (rv_I (.inr (by decide)))) ev_c (rv_I (by decide))) (ev_var rfl) rv_I0) (ea_cons (ev_var rfl) ea_nil))))))) (show 7 ≤ 100000 by decide))
        (fun H1 e => ev_var rfl) (fun q H13 hq e13 => rv_int (sq_of hq) (by show way < 7; omega))) (by rw [List.length_map, hl]; omega) fun H13 e13 => ?_
    refine ⟨_, _, _, _, rfl, (s12.trans (Sm.ex e13)).mut (.inr hp0), ?_, ns ++ [_], by rw [List.length_append, hl]; rfl, fun x hx => ?_, by rw [upd_same, List.map_append]; rfl⟩
    · exact ((hb12.mono e13).at fun o ho => by rw [upd_ne (Ne.symm hpb)]; exact ho).le (by omega)
    · rcases List.mem_append.mp hx with hx | hx
      · exact hz x hx
      · rw [List.mem_singleton.mp hx]
        refine szL fun y hy => ?_
        rw [e30] at hy
        simp only [List.mem_cons, List.not_mem_nil, or_false] at hy
        rcases hy with rfl | rfl | rfl | rfl | rfl | rfl | rfl <;> exact szI (by omega) (by omega)
  · rintro σ' H' ⟨o5, o6, o7, o8, rfl, s, hbi, ns, hl, hz, hpi⟩
    refine s_ret (ev_var rfl) fun H6 e6 => k p ns H6 (s.trans (Sm.ex e6)) ((hbi.mono e6).le (by omega)) hp0 (e6 p _ hpi) (by omega) hz

end
end Pk
end

section
namespace Pk
open PySem PySem.Spec PyProof.Rows L2 Evl
section
variable {P : Program} {w : World} {K : PySem.W.Frag} {mg : Str → Option Value} {base : Heap} {CC : Bool → Addr} {NT : Addr}
/-! ### the law's rounds -/
theorem filter_nil {α : Type} {p : α → Bool} {l : List α} : (l.filter p = []) ↔ (l.all fun x => !p x) = true := by
  rw [List.filter_eq_nil_iff, List.all_eq_true]
  exact ⟨fun h x hx => by rw [Bool.not_eq_true', ← Bool.not_eq_true]; exact h x hx, fun h x hx => by rw [Bool.not_eq_true, ← Bool.not_eq_true']; exact h x hx⟩
theorem pk_filter (ns : List Int) (i : Nat) (x : Int) (hx : x = ns.getD i 0) : (!decide ((nb ns i).filter (fun o => decide (o > x)) = [])) = !isPk ns i := by
  congr 1
  rw [Bool.eq_iff_iff, decide_eq_true_iff, filter_nil]
  unfold isPk
  subst hx
  have : (fun o => !decide (o > ns.getD i 0)) = fun o => decide (o ≤ ns.getD i 0) := by
    funext o
    rw [Bool.eq_iff_iff, Bool.not_eq_true', decide_eq_false_iff_not, decide_eq_true_iff]; omega
  rw [this]
theorem nb_len (ns : List Int) (i : Nat) : (nb ns i).length ≤ 2 := by
  unfold nb
  rw [List.length_append, List.length_take, List.length_take]
  omega
def spRound (K : PySem.W.Frag) : Sp := fun vs H Q _ => ∃ a ns, vs = [.ref a] ∧ SqL K H a (List.map V.int ns) ∧ ns.length ≤ 30000 ∧ RetL ((peel1 ns).map V.int) H Q
theorem stay_succ {ns : List Int} {i : Nat} (g : Nat → α) : ((List.range (i + 1)).filter fun j => !isPk ns j).map g = ((List.range i).filter fun j => !isPk ns j).map g ++ if isPk ns i = true then [] else [g i] := by
  rw [filter_range_succ (f := fun j => !isPk ns j), List.map_append]
  cases h : isPk ns i <;> simp
theorem sc_law_one_round : FnScope ["row", "found", "spot", "entry", "near", "other"] ["row"] (defScope s_law_one_round) := ⟨rfl, rfl, rfl, by decide +kernel, rfl, by decide +kernel, by decide +kernel⟩
theorem ok_law_one_round {f : Addr} {fd : FuncData} (F : FnP K "_law_one_round" s_law_one_round f fd) (g : mg "_law_one_round" = some (.ref f)) (T : Bl mg)   : Cal P w K mg base 1 "_law_one_round" (spRound K) := by
  have nd := sc_law_one_round.nd
  refine cal_of F.kp g (F.bindsN fun _ _ _ _ _ _ us hl => match us, hl with | [_], _ => rfl) (fn_body F sc_law_one_round (fun vs H Q E h => ?_) (fun cdv A outer s H vs Q E hr h => ?_))
  · first | (obtain ⟨rfl, _⟩ := h; rfl) | (obtain ⟨_, rfl, _⟩ := h; rfl) | (obtain ⟨_, _, rfl, _⟩ := h; rfl) | (obtain ⟨_, _, _, rfl, _⟩ := h; rfl) | (obtain ⟨_, _, _, _, rfl, _⟩ := h; rfl) | (obtain ⟨_, _, _, _, _, rfl, _⟩ := h; rfl) | (obtain ⟨_, _, _, _, _, _, rfl, _⟩ := h; rfl) | (obtain ⟨_, _, _, _, _, _, _, rfl, _⟩ := h; rfl) | (obtain ⟨_, _, _, _, _, _, _, _, rfl, _⟩ := h; rfl) | (obtain ⟨_, _, _, _, _, _, _, _, _, rfl, _⟩ := h; rfl) | (obtain ⟨_, _, _, _, _, _, _, _, _, _, rfl, _⟩ := h; rfl) | (obtain ⟨_, _, _, _, _, _, _, _, _, _, _, rfl, _⟩ := h; rfl) | (obtain ⟨_, _, _, _, _, _, _, _, _, _, _, _, rfl, _⟩ := h; rfl) | (obtain ⟨_, _, _, _, _, _, _, _, _, _, _, _, _, rfl, _⟩ := h; rfl) | (obtain ⟨_, _, _, _, _, _, _, _, _, _, _, _, _, _, rfl, _⟩ := h; rfl) | (obtain ⟨_, _, _, _, _, _, _, _, _, _, _, _, _, _, _, rfl, _⟩ := h; rfl) | (obtain ⟨_, _, _, _, _, _, _, _, _, _, _, _, _, _, _, _, rfl, _⟩ := h; rfl) | (obtain ⟨_, _, _, _, _, _, _, _, _, _, _, _, _, _, _, _, _, rfl, _⟩ := h; rfl) | (obtain ⟨_, _, _, _, _, _, _, _, _, _, _, _, _, _, _, _, _, _, rfl, _⟩ := h; rfl) | (obtain ⟨_, _, _, _, _, _, _, _, _, _, _, _, _, _, _, _, _, _, _, rfl, _⟩ := h; rfl) | (obtain ⟨_, _, _, _, _, _, _, _, _, _, _, _, _, _, _, _, _, _, _, _, rfl, _⟩ := h; rfl) | (obtain ⟨_, _, _, _, _, _, _, _, _, _, _, _, _, _, _, _, _, _, _, _, _, rfl, _⟩ := h; rfl) | (obtain ⟨_, _, _, _, _, _, _, _, _, _, _, _, _, _, _, _, _, _, _, _, _, _, rfl, _⟩ := h; rfl) | (obtain ⟨_, _, _, _, _, _, _, _, _, _, _, _, _, _, _, _, _, _, _, _, _, _, _, rfl, _⟩ := h; rfl)
  refine ⟨_, (pss_cons (ps_set (i := 1) nd rfl (.inl rfl) (pe_lst pa_nil))
    (pss_cons (ps_for passD rfl (pi_enumK K (by rfl) (by rfl) T.n_enumerate (pa_cons (pv 0) pa_nil)) (pg_tupK K (by rfl) (n := 2) (pgs_cons (pg_name (i := 2) nd rfl (.inl rfl)) (pgs_cons (pg_name (i := 3) nd rfl (.inr rfl)) pgs_nil))) (pss_cons (ps_set (i := 4) nd rfl (.inl rfl) (pe_op op_cat (pe_slice (sl_listK K) (pv 0) (po_some (pe_callB (cl_max2 rfl) (by rfl) T.n_max (by decide +kernel) (pa_cons pe_int (pa_cons (pe_op op_sub (pv 2) pe_int) pa_nil)))) (po_some (pv 2))) (pe_slice (sl_listK K) (pv 0) (po_some (pe_op op_add (pv 2) pe_int)) (po_some (pe_op op_add (pv 2) pe_int)))))
    (pss_one (ps_if (pt_cmpR ((op_neLIK K (by rfl) hr.r.units)) (pe_lc (own := [("other", 5)]) rfl nd (pi_listK K (by rfl) (pv 4)) (blkOk_by (N := ["row", "found", "spot", "entry", "near", "other"]) (sc := defScope s_law_one_round) (by decide +kernel)) (fun _ _ _ _ _ => (by exact (pg_name (i := 5) nd rfl (.inl rfl)))) (fun _ _ _ _ _ => (by exact (pts_one (pt_cmpR (op_gt) (pv 5) (pv 3) (nomark _))))) (fun _ _ _ _ _ => (by exact (pv 5)))) (pe_lst pa_nil) (nomark _)) (pss_one (ps_expr (pe_bm PySem.F.plainAttrs_list PySem.F.slot_list_append PySem.F.type_list_append mt_append (pv 1) (pa_cons (pv 3) pa_nil)))) pss_nil))))
    (pss_one (ps_ret (pv 1))))), ?_⟩
  obtain ⟨a, ns, rfl, hS, hz, k⟩ := h
  refine q_asgL (el_lst ea_nil (by decide)) fun p H1 hp e1 h1 => ?_
  refine q_forE (a := a) (xs := ns.map V.int) (ea_cons (ev_var rfl) ea_nil) (ex_l e1 hS) (fun i σ' H' => ∃ o2 o3 o4 o5, σ' = [some (.ref a), some (.ref p), o2, o3, o4, o5] ∧ Ex H H' ∧ H' p = some (.lst ((((List.range i).filter fun j => !isPk ns j).map fun j => ns.getD j 0).map V.int)))
    (fun H2 e2 => ⟨none, none, none, none, rfl, e1.trans e2, e2 p _ h1⟩) (fun i σ' H' _ ⟨_, _, _, _, _, e, _⟩ => ex_l e hS) ?_ ?_
  · rintro i x T σ' H' hx ⟨o2, o3, o4, o5, rfl, e, hpp⟩ hT
    obtain ⟨hi, rfl⟩ := get_int hx
    refine g_pair upd_same ?_
    have eT : Ex H' (upd H' T (.tup [.int (i : Nat), .int (ns.getD i 0)])) := Ex.new hT
    have hSi := ex_l (e.trans eT) hS
    have hpT := eT p _ hpp
    refine q_asgL (el_near (i := i) rfl rfl hSi hz) fun q H2 hq e2 h2 => ?_
    refine s_when (b := !isPk ns i) (et_is (et_test (ev_neL (ms := []) (el_map V.int (nb ns i) (fun o => decide (o > ns.getD i 0)) (fun o => o) V.int (ev_var rfl) (sq_of h2) (Nat.le_trans (nb_len ns i) (by decide)) (fun x => rfl) (fun o ho H1 e => et_test (ev_op (ev_var rfl) (ev_var rfl) rv_I0)) fun o ho _ H1 e => ev_var rfl) (el_lst ea_nil (by decide)))) (by rw [List.map_id']; exact pk_filter ns i _ rfl)) (fun hb H3 e3 => ?_) (fun hb H3 e3 => ?_)
    · have hp3 := e3 p _ (e2 p _ hpT)
      refine s_app hp3 (ev_var rfl) (ev_var rfl) ?_ fun H4 e4 => ?_
      · rw [List.length_map, List.length_map]
        have := List.length_filter_le (fun j => !isPk ns j) (List.range i)
        rw [List.length_range] at this
        omega
      · refine ⟨_, _, _, _, rfl, ?_, ?_⟩
        · exact Ex.mut ((e.trans eT).trans (e2.trans (e3.trans e4))) hp
        · have hb : isPk ns i = false := by simpa using hb
          rw [upd_same, stay_succ, hb, if_neg (by simp), List.map_append]; rfl
    · refine ⟨_, _, _, _, rfl, (e.trans eT).trans (e2.trans e3), ?_⟩
      have hb : isPk ns i = true := by simpa using hb
      rw [stay_succ, hb, if_pos rfl, List.append_nil]
      exact e3 p _ (e2 p _ hpT)
  · rintro σ' H' ⟨o2, o3, o4, o5, rfl, e, hpp⟩
    rw [List.length_map] at hpp
    refine s_ret (ev_var rfl) fun H2 e2 => ?_
    exact k p H2 hp (e.trans e2) (e2 p _ hpp)
theorem spl_round {H : Hp} {a : Addr} {ns : List Int} (h : SqL K H a (ns.map V.int)) (hz : ns.length ≤ 30000) : SpL (spRound K) [.ref a] H ((peel1 ns).map V.int) := fun H1 e Q q E => ⟨a, ns, rfl, ex_l e h, hz, q⟩
def spAfter (K : PySem.W.Frag) : Sp := fun vs H Q _ => ∃ a ns n, vs = [.ref a, .int n] ∧ SqL K H a (List.map V.int ns) ∧ ns.length ≤ 30000 ∧ 0 ≤ n ∧ RetL ((peelN n.toNat ns).map V.int) H Q
theorem sc_law_after : FnScope ["row", "many", "left", "turn"] ["row", "many"] (defScope s_law_after) := ⟨rfl, rfl, rfl, by decide +kernel, rfl, by decide +kernel, by decide +kernel⟩
theorem ok_law_after {f : Addr} {fd : FuncData} (F : FnP K "_law_after" s_law_after f fd) (g : mg "_law_after" = some (.ref f)) (T : Bl mg) (c_law_one_round : Cal P w K mg base 1 "_law_one_round" (spRound K))  : Cal P w K mg base 2 "_law_after" (spAfter K) := by
  have nd := sc_law_after.nd
  refine cal_of F.kp g (F.bindsN fun _ _ _ _ _ _ us hl => match us, hl with | [_, _], _ => rfl) (fn_body F sc_law_after (fun vs H Q E h => ?_) (fun cdv A outer s H vs Q E hr h => ?_))
  · first | (obtain ⟨rfl, _⟩ := h; rfl) | (obtain ⟨_, rfl, _⟩ := h; rfl) | (obtain ⟨_, _, rfl, _⟩ := h; rfl) | (obtain ⟨_, _, _, rfl, _⟩ := h; rfl) | (obtain ⟨_, _, _, _, rfl, _⟩ := h; rfl) | (obtain ⟨_, _, _, _, _, rfl, _⟩ := h; rfl) | (obtain ⟨_, _, _, _, _, _, rfl, _⟩ := h; rfl) | (obtain ⟨_, _, _, _, _, _, _, rfl, _⟩ := h; rfl) | (obtain ⟨_, _, _, _, _, _, _, _, rfl, _⟩ := h; rfl) | (obtain ⟨_, _, _, _, _, _, _, _, _, rfl, _⟩ := h; rfl) | (obtain ⟨_, _, _, _, _, _, _, _, _, _, rfl, _⟩ := h; rfl) | (obtain ⟨_, _, _, _, _, _, _, _, _, _, _, rfl, _⟩ := h; rfl) | (obtain ⟨_, _, _, _, _, _, _, _, _, _, _, _, rfl, _⟩ := h; rfl) | (obtain ⟨_, _, _, _, _, _, _, _, _, _, _, _, _, rfl, _⟩ := h; rfl) | (obtain ⟨_, _, _, _, _, _, _, _, _, _, _, _, _, _, rfl, _⟩ := h; rfl) | (obtain ⟨_, _, _, _, _, _, _, _, _, _, _, _, _, _, _, rfl, _⟩ := h; rfl) | (obtain ⟨_, _, _, _, _, _, _, _, _, _, _, _, _, _, _, _, rfl, _⟩ := h; rfl) | (obtain ⟨_, _, _, _, _, _, _, _, _, _, _, _, _, _, _, _, _, rfl, _⟩ := h; rfl) | (obtain ⟨_, _, _, _, _, _, _, _, _, _, _, _, _, _, _, _, _, _, rfl, _⟩ := h; rfl) | (obtain ⟨_, _, _, _, _, _, _, _, _, _, _, _, _, _, _, _, _, _, _, rfl, _⟩ := h; rfl) | (obtain ⟨_, _, _, _, _, _, _, _, _, _, _, _, _, _, _, _, _, _, _, _, rfl, _⟩ := h; rfl) | (obtain ⟨_, _, _, _, _, _, _, _, _, _, _, _, _, _, _, _, _, _, _, _, _, rfl, _⟩ := h; rfl) | (obtain ⟨_, _, _, _, _, _, _, _, _, _, _, _, _, _, _, _, _, _, _, _, _, _, rfl, _⟩ := h; rfl) | (obtain ⟨_, _, _, _, _, _, _, _, _, _, _, _, _, _, _, _, _, _, _, _, _, _, _, rfl, _⟩ := h; rfl)
  refine ⟨_, (pss_cons (ps_set (i := 2) nd rfl (.inl rfl) (pe_callTy (cl_listK K) (by rfl) T.n_list (by decide +kernel) (pa_cons (pv 0) pa_nil)))
    (pss_cons (ps_for passD rfl (pi_range1 (by rfl) T.n_range (pa_cons (pe_callB (cl_min2 rfl) (by rfl) T.n_min (by decide +kernel) (pa_cons (pv 1) (pa_cons (pe_callB (cl_lenK K) (by rfl) T.n_len (by decide +kernel) (pa_cons (pv 0) pa_nil)) pa_nil))) pa_nil)) (pg_name (i := 3) nd rfl (.inl rfl)) (pss_one (ps_set (i := 2) nd rfl (.inl rfl) (pe_c c_law_one_round (hr.mono (by decide)) takesD (pa_cons (pv 2) pa_nil)))))
    (pss_one (ps_ret (pv 2))))), ?_⟩
  obtain ⟨a, ns, n, rfl, hS, hz, hn, k⟩ := h
  refine q_asgL (el_cb (ea_cons (ev_var rfl) ea_nil) (rcl_list hS)) fun p H1 hp e1 h1 => ?_
  refine q_forR1 (n := if ((ns.map V.int).length : Int) < n then ((ns.map V.int).length : Int) else n) (ea_cons (ev_cb (ea_cons (ev_var rfl) (ea_cons (ev_cb (ea_cons (ev_var rfl) ea_nil) (rc_len (ex_l e1 hS))) ea_nil)) rc_min2) ea_nil) (by rw [List.length_map]; split <;> omega)
    (fun i σ' H' => ∃ q o3, σ' = [some (.ref a), some (.int n), some (.ref q), o3] ∧ Ex H H' ∧ H q = none ∧ H' q = some (.lst ((peelN i ns).map V.int))) (fun H2 e2 => ⟨p, none, rfl, e1.trans e2, hp, e2 p _ h1⟩) ?_ ?_
  · rintro i σ' H' hi ⟨q, o3, rfl, e, hq, hq'⟩
    refine s_asgL (el_f (ea_cons (ev_var rfl) ea_nil) (spl_round (ns := peelN i ns) (sq_of hq') (Nat.le_trans (peelN_le _ _) hz))) fun r H2 hr e2 h2 => ?_
    refine ⟨r, _, rfl, e.trans e2, fresh_back e hr, ?_⟩
    rw [peelN_succ]; exact h2
  · rintro σ' H' ⟨q, o3, rfl, e, hq, hq'⟩
    have ez : peelN (if ((ns.map V.int).length : Int) < n then ((ns.map V.int).length : Int) else n).toNat ns = peelN n.toNat ns := by
      rw [← peelN_min n.toNat ns, List.length_map]
      congr 1
      split <;> omega
    rw [ez] at hq'
    exact s_ret (ev_var rfl) fun H2 e2 => k q H2 hq (e.trans e2) (e2 q _ hq')
theorem spl_after {H : Hp} {a : Addr} {ns : List Int} {n : Int} (h : SqL K H a (ns.map V.int)) (hz : ns.length ≤ 30000) (hn : 0 ≤ n) : SpL (spAfter K) [.ref a, .int n] H ((peelN n.toNat ns).map V.int) := fun H1 e Q q E => ⟨a, ns, n, rfl, ex_l e h, hz, hn, q⟩
theorem nb_map (f : Int → Int) (l : List Int) (i : Nat) : nb (l.map f) i = (nb l i).map f := by
  unfold nb; rw [← List.map_drop, ← List.map_take, ← List.map_drop, ← List.map_take, List.map_append]
theorem sub_nlist (ns : List Int) (left : List Nat) : subR ns left = (nlist left).map fun o => ns.getD o.toNat 0 := by
  unfold subR nlist; rw [List.map_map]; rfl
theorem pk_filter2 (ns : List Int) (left : List Nat) (s : Nat) (hs : s < left.length) : (!decide ((nb (nlist left) s).filter (fun o => decide (ns.getD o.toNat 0 > ns.getD (left.getD s 0) 0)) = [])) = !isPk (subR ns left) s := by
  rw [← pk_filter (subR ns left) s (ns.getD (left.getD s 0) 0)]
  · congr 1
    rw [sub_nlist, nb_map, Bool.eq_iff_iff, decide_eq_true_iff, decide_eq_true_iff, List.filter_map, List.map_eq_nil_iff]
    rfl
  · show _ = (List.map (fun p => ns.getD p 0) left).getD s 0
    rw [getD_lt (l := List.map (fun p => ns.getD p 0) left) (by rw [List.length_map]; exact hs), List.getElem_map, getD_lt hs]
theorem pkf_succ {ns : List Int} {i : Nat} : ((List.range (i + 1)).filter (isPk ns)) = (List.range i).filter (isPk ns) ++ if isPk ns i = true then [i] else [] := filter_range_succ

end
end Pk
end

section
namespace Pk
open PySem PySem.Spec PyProof.Rows L2 Evl
section
variable {P : Program} {w : World} {K : PySem.W.Frag} {mg : Str → Option Value} {base : Heap} {CC : Bool → Addr} {NT : Addr}
/-! ### ridges.py -/
/-- go_on of the first class, on an object of either class -/
def spGoR (CC : Bool → Addr) (ad : Bool) : Sp := fun vs H Q _ => ∃ (r L : Addr) (x y : V) (dx : Addr) (fs : List (Str × V)) (xs : List V), vs = [.ref r, x, y] ∧ H r = some (.ins (CC ad) dx fs) ∧ fs.lookup ("all_rows" : Str) = some (.ref L) ∧ H L = some (.lst xs) ∧ xs.length < 90000 ∧
  ∀ H1, Ex H H1 → Q .non (upd H1 L (.lst (xs ++ [x])))
theorem sc_Ridge_go_on : FnScope ["self", "row", "vanished"] ["self", "row", "vanished"] (defScope s_Ridge_go_on) := ⟨rfl, rfl, rfl, by decide +kernel, rfl, by decide +kernel, by decide +kernel⟩
theorem ok_Ridge_go_on {f : Addr} {fd : FuncData} (F : FunD K "go_on" "Ridge.go_on" (defArgs s_Ridge_go_on) (defBody s_Ridge_go_on) (defScope s_Ridge_go_on) [] [] f fd) (T : Bl mg) (R : RCls K CC)  : FnB P w K mg base 1 f fd ["self", "row", "vanished"] (fun vs H Q E => ∃ ad, spGoR CC ad vs H Q E) := by
  have nd := sc_Ridge_go_on.nd
  refine fn_body F sc_Ridge_go_on (fun vs H Q E h => ?_) (fun cdv A outer s H vs Q E hr h => ?_)
  · first | (obtain ⟨rfl, _⟩ := h; rfl) | (obtain ⟨_, rfl, _⟩ := h; rfl) | (obtain ⟨_, _, rfl, _⟩ := h; rfl) | (obtain ⟨_, _, _, rfl, _⟩ := h; rfl) | (obtain ⟨_, _, _, _, rfl, _⟩ := h; rfl) | (obtain ⟨_, _, _, _, _, rfl, _⟩ := h; rfl) | (obtain ⟨_, _, _, _, _, _, rfl, _⟩ := h; rfl) | (obtain ⟨_, _, _, _, _, _, _, rfl, _⟩ := h; rfl) | (obtain ⟨_, _, _, _, _, _, _, _, rfl, _⟩ := h; rfl) | (obtain ⟨_, _, _, _, _, _, _, _, _, rfl, _⟩ := h; rfl) | (obtain ⟨_, _, _, _, _, _, _, _, _, _, rfl, _⟩ := h; rfl) | (obtain ⟨_, _, _, _, _, _, _, _, _, _, _, rfl, _⟩ := h; rfl) | (obtain ⟨_, _, _, _, _, _, _, _, _, _, _, _, rfl, _⟩ := h; rfl) | (obtain ⟨_, _, _, _, _, _, _, _, _, _, _, _, _, rfl, _⟩ := h; rfl) | (obtain ⟨_, _, _, _, _, _, _, _, _, _, _, _, _, _, rfl, _⟩ := h; rfl) | (obtain ⟨_, _, _, _, _, _, _, _, _, _, _, _, _, _, _, rfl, _⟩ := h; rfl) | (obtain ⟨_, _, _, _, _, _, _, _, _, _, _, _, _, _, _, _, rfl, _⟩ := h; rfl) | (obtain ⟨_, _, _, _, _, _, _, _, _, _, _, _, _, _, _, _, _, rfl, _⟩ := h; rfl) | (obtain ⟨_, _, _, _, _, _, _, _, _, _, _, _, _, _, _, _, _, _, rfl, _⟩ := h; rfl) | (obtain ⟨_, _, _, _, _, _, _, _, _, _, _, _, _, _, _, _, _, _, _, rfl, _⟩ := h; rfl) | (obtain ⟨_, _, _, _, _, _, _, _, _, _, _, _, _, _, _, _, _, _, _, _, rfl, _⟩ := h; rfl) | (obtain ⟨_, _, _, _, _, _, _, _, _, _, _, _, _, _, _, _, _, _, _, _, _, rfl, _⟩ := h; rfl) | (obtain ⟨_, _, _, _, _, _, _, _, _, _, _, _, _, _, _, _, _, _, _, _, _, _, rfl, _⟩ := h; rfl) | (obtain ⟨_, _, _, _, _, _, _, _, _, _, _, _, _, _, _, _, _, _, _, _, _, _, _, rfl, _⟩ := h; rfl)
  refine ⟨_, (pss_one (ps_expr (pe_bm PySem.F.plainAttrs_list PySem.F.slot_list_append PySem.F.type_list_append mt_append (pe_fldK K (pv 0)) (pa_cons (pv 1) pa_nil)))), ?_⟩
  obtain ⟨ad, r, L, x, y, dx, fs, xs, rfl, h1, h2, h3, h4, k⟩ := h
  exact s_app h3 (ev_fld (ev_var rfl) h1 (R.cl ad) (R.rows ad) h2) (ev_var rfl) (by omega) fun H1 e => k H1 e
/-- a place below a limit -/
def spPlace : Sp := fun vs H Q _ => ∃ (r : V) (p l : Int), vs = [r, .int p, .int l] ∧ 0 ≤ p ∧ p < l ∧ RetV .non H Q
theorem sc_Ridge_need_place_below : FnScope ["self", "place", "limit"] ["self", "place", "limit"] (defScope s_Ridge_need_place_below) := ⟨rfl, rfl, rfl, by decide +kernel, rfl, by decide +kernel, by decide +kernel⟩
theorem ok_Ridge_need_place_below {f : Addr} {fd : FuncData} (F : FunD K "need_place_below" "Ridge.need_place_below" (defArgs s_Ridge_need_place_below) (defBody s_Ridge_need_place_below) (defScope s_Ridge_need_place_below) [] [] f fd) (T : Bl mg) (R : RCls K CC) (c_is_integer : Cal P w K mg base 1 "is_integer" (spInteger K)) : FnB P w K mg base 2 f fd ["self", "place", "limit"] spPlace := by
  have nd := sc_Ridge_need_place_below.nd
  refine fn_body F sc_Ridge_need_place_below (fun vs H Q E h => ?_) (fun cdv A outer s H vs Q E hr h => ?_)
  · first | (obtain ⟨rfl, _⟩ := h; rfl) | (obtain ⟨_, rfl, _⟩ := h; rfl) | (obtain ⟨_, _, rfl, _⟩ := h; rfl) | (obtain ⟨_, _, _, rfl, _⟩ := h; rfl) | (obtain ⟨_, _, _, _, rfl, _⟩ := h; rfl) | (obtain ⟨_, _, _, _, _, rfl, _⟩ := h; rfl) | (obtain ⟨_, _, _, _, _, _, rfl, _⟩ := h; rfl) | (obtain ⟨_, _, _, _, _, _, _, rfl, _⟩ := h; rfl) | (obtain ⟨_, _, _, _, _, _, _, _, rfl, _⟩ := h; rfl) | (obtain ⟨_, _, _, _, _, _, _, _, _, rfl, _⟩ := h; rfl) | (obtain ⟨_, _, _, _, _, _, _, _, _, _, rfl, _⟩ := h; rfl) | (obtain ⟨_, _, _, _, _, _, _, _, _, _, _, rfl, _⟩ := h; rfl) | (obtain ⟨_, _, _, _, _, _, _, _, _, _, _, _, rfl, _⟩ := h; rfl) | (obtain ⟨_, _, _, _, _, _, _, _, _, _, _, _, _, rfl, _⟩ := h; rfl) | (obtain ⟨_, _, _, _, _, _, _, _, _, _, _, _, _, _, rfl, _⟩ := h; rfl) | (obtain ⟨_, _, _, _, _, _, _, _, _, _, _, _, _, _, _, rfl, _⟩ := h; rfl) | (obtain ⟨_, _, _, _, _, _, _, _, _, _, _, _, _, _, _, _, rfl, _⟩ := h; rfl) | (obtain ⟨_, _, _, _, _, _, _, _, _, _, _, _, _, _, _, _, _, rfl, _⟩ := h; rfl) | (obtain ⟨_, _, _, _, _, _, _, _, _, _, _, _, _, _, _, _, _, _, rfl, _⟩ := h; rfl) | (obtain ⟨_, _, _, _, _, _, _, _, _, _, _, _, _, _, _, _, _, _, _, rfl, _⟩ := h; rfl) | (obtain ⟨_, _, _, _, _, _, _, _, _, _, _, _, _, _, _, _, _, _, _, _, rfl, _⟩ := h; rfl) | (obtain ⟨_, _, _, _, _, _, _, _, _, _, _, _, _, _, _, _, _, _, _, _, _, rfl, _⟩ := h; rfl) | (obtain ⟨_, _, _, _, _, _, _, _, _, _, _, _, _, _, _, _, _, _, _, _, _, _, rfl, _⟩ := h; rfl) | (obtain ⟨_, _, _, _, _, _, _, _, _, _, _, _, _, _, _, _, _, _, _, _, _, _, _, rfl, _⟩ := h; rfl)
  refine ⟨_, (pss_one (ps_if (pt_not (pt_val (pe_c c_is_integer (hr.mono (by decide)) takesD (pa_cons (pv 1) (pa_cons pe_int (pa_cons (pe_op op_sub (pv 2) pe_int) pa_nil)))))) (pss_one ps_never) pss_nil)), ?_⟩
  obtain ⟨r, p, l, rfl, h0, h1, k⟩ := h
  refine s_when (b := false) (et_not (a := true) (et_B (ev_f (ea_cons (ev_var rfl) (ea_cons ev_c (ea_cons (ev_op (ev_var rfl) ev_c rv_I0) ea_nil))) ?_))) (fun z => nomatch z) fun _ H1 e1 => k.go e1
  have e : isIntB (.int p) (some 0) (some (l - 1)) = true := by simp [isIntB]; omega
  rw [← e]
  exact spv_integer (lo := some 0) (hi := some (l - 1)) KindV.int
def spEntry : Sp := fun vs H Q _ => ∃ (r : V) (e : Int), vs = [r, .int e] ∧ RetV .non H Q
theorem sc_Ridge_need_entry : FnScope ["self", "entry"] ["self", "entry"] (defScope s_Ridge_need_entry) := ⟨rfl, rfl, rfl, by decide +kernel, rfl, by decide +kernel, by decide +kernel⟩
theorem ok_Ridge_need_entry {f : Addr} {fd : FuncData} (F : FunD K "need_entry" "Ridge.need_entry" (defArgs s_Ridge_need_entry) (defBody s_Ridge_need_entry) (defScope s_Ridge_need_entry) [] [] f fd) (T : Bl mg) (R : RCls K CC) (c_is_integer : Cal P w K mg base 1 "is_integer" (spInteger K)) : FnB P w K mg base 2 f fd ["self", "entry"] spEntry := by
  have nd := sc_Ridge_need_entry.nd
  refine fn_body F sc_Ridge_need_entry (fun vs H Q E h => ?_) (fun cdv A outer s H vs Q E hr h => ?_)
  · first | (obtain ⟨rfl, _⟩ := h; rfl) | (obtain ⟨_, rfl, _⟩ := h; rfl) | (obtain ⟨_, _, rfl, _⟩ := h; rfl) | (obtain ⟨_, _, _, rfl, _⟩ := h; rfl) | (obtain ⟨_, _, _, _, rfl, _⟩ := h; rfl) | (obtain ⟨_, _, _, _, _, rfl, _⟩ := h; rfl) | (obtain ⟨_, _, _, _, _, _, rfl, _⟩ := h; rfl) | (obtain ⟨_, _, _, _, _, _, _, rfl, _⟩ := h; rfl) | (obtain ⟨_, _, _, _, _, _, _, _, rfl, _⟩ := h; rfl) | (obtain ⟨_, _, _, _, _, _, _, _, _, rfl, _⟩ := h; rfl) | (obtain ⟨_, _, _, _, _, _, _, _, _, _, rfl, _⟩ := h; rfl) | (obtain ⟨_, _, _, _, _, _, _, _, _, _, _, rfl, _⟩ := h; rfl) | (obtain ⟨_, _, _, _, _, _, _, _, _, _, _, _, rfl, _⟩ := h; rfl) | (obtain ⟨_, _, _, _, _, _, _, _, _, _, _, _, _, rfl, _⟩ := h; rfl) | (obtain ⟨_, _, _, _, _, _, _, _, _, _, _, _, _, _, rfl, _⟩ := h; rfl) | (obtain ⟨_, _, _, _, _, _, _, _, _, _, _, _, _, _, _, rfl, _⟩ := h; rfl) | (obtain ⟨_, _, _, _, _, _, _, _, _, _, _, _, _, _, _, _, rfl, _⟩ := h; rfl) | (obtain ⟨_, _, _, _, _, _, _, _, _, _, _, _, _, _, _, _, _, rfl, _⟩ := h; rfl) | (obtain ⟨_, _, _, _, _, _, _, _, _, _, _, _, _, _, _, _, _, _, rfl, _⟩ := h; rfl) | (obtain ⟨_, _, _, _, _, _, _, _, _, _, _, _, _, _, _, _, _, _, _, rfl, _⟩ := h; rfl) | (obtain ⟨_, _, _, _, _, _, _, _, _, _, _, _, _, _, _, _, _, _, _, _, rfl, _⟩ := h; rfl) | (obtain ⟨_, _, _, _, _, _, _, _, _, _, _, _, _, _, _, _, _, _, _, _, _, rfl, _⟩ := h; rfl) | (obtain ⟨_, _, _, _, _, _, _, _, _, _, _, _, _, _, _, _, _, _, _, _, _, _, rfl, _⟩ := h; rfl) | (obtain ⟨_, _, _, _, _, _, _, _, _, _, _, _, _, _, _, _, _, _, _, _, _, _, _, rfl, _⟩ := h; rfl)
  refine ⟨_, (pss_one (ps_if (pt_not (pt_val (pe_c c_is_integer (hr.mono (by decide)) takesD (pa_cons (pv 1) (pa_cons pe_non (pa_cons pe_non pa_nil)))))) (pss_one ps_never) pss_nil)), ?_⟩
  obtain ⟨r, e, rfl, k⟩ := h
  refine s_when (b := false) (et_not (a := true) (et_B (ev_f (ea_cons (ev_var rfl) (ea_cons ev_c (ea_cons ev_c ea_nil))) ?_))) (fun z => nomatch z) fun _ H1 e1 => k.go e1
  exact spv_integer (lo := none) (hi := none) KindV.int
/-- go on with another row: what both classes promise -/
def spGo (CC : Bool → Addr) (ad : Bool) : Sp := fun vs H Q _ => ∃ (M : List Addr) (r L S a : Addr) (ns : List Int) (d : Int) (rows : List (List Int)) (sums : List Int), vs = [.ref r, .ref a, .int d] ∧ RAt CC M H r L S ad rows sums ∧ a ∉ M ∧ H a = some (.lst (ns.map V.int)) ∧ ns.length ≤ 60 ∧ rows.length < 80000 ∧ rows ≠ [] ∧
  ∀ H1, Sm [L, S] H H1 → RAt CC M H1 r L S ad (ns :: rows) (pushS sums d) → Q .non H1
theorem go_false {vs : List V} {H : Hp} {Q : VK} {E : XK} (h : spGo CC false vs H Q E) : ∃ ad, spGoR CC ad vs H Q E := by
  obtain ⟨M, r, L, S, a, ns, d, rows, sums, rfl, hR, ha, hns, hz, hl, hne, k⟩ := h
  obtain ⟨dx, h1⟩ := hR.obj
  obtain ⟨as, h2, h3⟩ := hR.lst
  refine ⟨false, r, L, _, _, dx, _, _, rfl, h1, flds_rows, h2, by rw [List.length_map, List.length_reverse, h3.len]; omega, fun H1 e => ?_⟩
  have s : Sm [L, S] H (upd H1 L (.lst (as.reverse.map V.ref ++ [.ref a]))) := (Sm.ex e).mut (.inl (List.mem_cons_self ..))
  exact k _ s (hR.push s ha hns hz h3 upd_same fun z => nomatch z)
/-! the row that is asked for -/
def spRowNow (CC : Bool → Addr) (ad : Bool) : Sp := fun vs H Q _ => ∃ (M : List Addr) (r L S : Addr) (row : List Int) (rows : List (List Int)) (sums : List Int), vs = [.ref r] ∧ RAt CC M H r L S ad (row :: rows) sums ∧ RetL (row.map V.int) H Q
theorem sc_Ridge_row_now : FnScope ["self"] ["self"] (defScope s_Ridge_row_now) := ⟨rfl, rfl, rfl, by decide +kernel, rfl, by decide +kernel, by decide +kernel⟩
theorem ok_Ridge_row_now {f : Addr} {fd : FuncData} (F : FunD K "row_now" "Ridge.row_now" (defArgs s_Ridge_row_now) (defBody s_Ridge_row_now) (defScope s_Ridge_row_now) [] [] f fd) (T : Bl mg) (R : RCls K CC)  : FnB P w K mg base 1 f fd ["self"] (fun vs H Q E => ∃ ad, spRowNow CC ad vs H Q E) := by
  have nd := sc_Ridge_row_now.nd
  refine fn_body F sc_Ridge_row_now (fun vs H Q E h => ?_) (fun cdv A outer s H vs Q E hr h => ?_)
  · first | (obtain ⟨rfl, _⟩ := h; rfl) | (obtain ⟨_, rfl, _⟩ := h; rfl) | (obtain ⟨_, _, rfl, _⟩ := h; rfl) | (obtain ⟨_, _, _, rfl, _⟩ := h; rfl) | (obtain ⟨_, _, _, _, rfl, _⟩ := h; rfl) | (obtain ⟨_, _, _, _, _, rfl, _⟩ := h; rfl) | (obtain ⟨_, _, _, _, _, _, rfl, _⟩ := h; rfl) | (obtain ⟨_, _, _, _, _, _, _, rfl, _⟩ := h; rfl) | (obtain ⟨_, _, _, _, _, _, _, _, rfl, _⟩ := h; rfl) | (obtain ⟨_, _, _, _, _, _, _, _, _, rfl, _⟩ := h; rfl) | (obtain ⟨_, _, _, _, _, _, _, _, _, _, rfl, _⟩ := h; rfl) | (obtain ⟨_, _, _, _, _, _, _, _, _, _, _, rfl, _⟩ := h; rfl) | (obtain ⟨_, _, _, _, _, _, _, _, _, _, _, _, rfl, _⟩ := h; rfl) | (obtain ⟨_, _, _, _, _, _, _, _, _, _, _, _, _, rfl, _⟩ := h; rfl) | (obtain ⟨_, _, _, _, _, _, _, _, _, _, _, _, _, _, rfl, _⟩ := h; rfl) | (obtain ⟨_, _, _, _, _, _, _, _, _, _, _, _, _, _, _, rfl, _⟩ := h; rfl) | (obtain ⟨_, _, _, _, _, _, _, _, _, _, _, _, _, _, _, _, rfl, _⟩ := h; rfl) | (obtain ⟨_, _, _, _, _, _, _, _, _, _, _, _, _, _, _, _, _, rfl, _⟩ := h; rfl) | (obtain ⟨_, _, _, _, _, _, _, _, _, _, _, _, _, _, _, _, _, _, rfl, _⟩ := h; rfl) | (obtain ⟨_, _, _, _, _, _, _, _, _, _, _, _, _, _, _, _, _, _, _, rfl, _⟩ := h; rfl) | (obtain ⟨_, _, _, _, _, _, _, _, _, _, _, _, _, _, _, _, _, _, _, _, rfl, _⟩ := h; rfl) | (obtain ⟨_, _, _, _, _, _, _, _, _, _, _, _, _, _, _, _, _, _, _, _, _, rfl, _⟩ := h; rfl) | (obtain ⟨_, _, _, _, _, _, _, _, _, _, _, _, _, _, _, _, _, _, _, _, _, _, rfl, _⟩ := h; rfl) | (obtain ⟨_, _, _, _, _, _, _, _, _, _, _, _, _, _, _, _, _, _, _, _, _, _, _, rfl, _⟩ := h; rfl)
  refine ⟨_, (pss_one (ps_ret (pe_callTy (cl_listK K) (by rfl) T.n_list (by decide +kernel) (pa_cons (pe_ix (ix_listK K) (pe_fldK K (pv 0)) (pe_un un_neg pe_int) (fun _ _ => rfl)) pa_nil)))), ?_⟩
  obtain ⟨ad, M, r, L, S, row, rows, sums, rfl, hR, k⟩ := h
  obtain ⟨dx, as, a, h1, h2, h3, h4, h5, _⟩ := hR.top
  refine s_retL (el_cb (ea_cons (ev_op (ev_fld (ev_var rfl) h1 (R.cl ad) (R.rows ad) flds_rows) (ev_un ev_c ru_neg) (rv_last (sq_of h2))) ea_nil) (rcl_list (sq_of h4))) fun p H1 hp e1 h1 => k p H1 hp e1 h1
def spTimesNow (CC : Bool → Addr) (ad : Bool) : Sp := fun vs H Q _ => ∃ (M : List Addr) (r L S : Addr) (row : List Int) (rows : List (List Int)) (sums : List Int), vs = [.ref r] ∧ RAt CC M H r L S ad (row :: rows) sums ∧ RetL ((timesIn row).map V.int) H Q
def spLenR (CC : Bool → Addr) (ad : Bool) : Sp := fun vs H Q _ => ∃ (M : List Addr) (r L S : Addr) (row : List Int) (rows : List (List Int)) (sums : List Int), vs = [.ref r] ∧ RAt CC M H r L S ad (row :: rows) sums ∧ RetV (.int (row.length : Int)) H Q
theorem sc_Ridge__len : FnScope ["self"] ["self"] (defScope s_Ridge__len) := ⟨rfl, rfl, rfl, by decide +kernel, rfl, by decide +kernel, by decide +kernel⟩
theorem ok_Ridge__len {f : Addr} {fd : FuncData} (F : FunD K "__len__" "Ridge.__len__" (defArgs s_Ridge__len) (defBody s_Ridge__len) (defScope s_Ridge__len) [] [] f fd) (T : Bl mg) (R : RCls K CC)  : FnB P w K mg base 1 f fd ["self"] (fun vs H Q E => ∃ ad, spLenR CC ad vs H Q E) := by
  have nd := sc_Ridge__len.nd
  refine fn_body F sc_Ridge__len (fun vs H Q E h => ?_) (fun cdv A outer s H vs Q E hr h => ?_)
  · first | (obtain ⟨rfl, _⟩ := h; rfl) | (obtain ⟨_, rfl, _⟩ := h; rfl) | (obtain ⟨_, _, rfl, _⟩ := h; rfl) | (obtain ⟨_, _, _, rfl, _⟩ := h; rfl) | (obtain ⟨_, _, _, _, rfl, _⟩ := h; rfl) | (obtain ⟨_, _, _, _, _, rfl, _⟩ := h; rfl) | (obtain ⟨_, _, _, _, _, _, rfl, _⟩ := h; rfl) | (obtain ⟨_, _, _, _, _, _, _, rfl, _⟩ := h; rfl) | (obtain ⟨_, _, _, _, _, _, _, _, rfl, _⟩ := h; rfl) | (obtain ⟨_, _, _, _, _, _, _, _, _, rfl, _⟩ := h; rfl) | (obtain ⟨_, _, _, _, _, _, _, _, _, _, rfl, _⟩ := h; rfl) | (obtain ⟨_, _, _, _, _, _, _, _, _, _, _, rfl, _⟩ := h; rfl) | (obtain ⟨_, _, _, _, _, _, _, _, _, _, _, _, rfl, _⟩ := h; rfl) | (obtain ⟨_, _, _, _, _, _, _, _, _, _, _, _, _, rfl, _⟩ := h; rfl) | (obtain ⟨_, _, _, _, _, _, _, _, _, _, _, _, _, _, rfl, _⟩ := h; rfl) | (obtain ⟨_, _, _, _, _, _, _, _, _, _, _, _, _, _, _, rfl, _⟩ := h; rfl) | (obtain ⟨_, _, _, _, _, _, _, _, _, _, _, _, _, _, _, _, rfl, _⟩ := h; rfl) | (obtain ⟨_, _, _, _, _, _, _, _, _, _, _, _, _, _, _, _, _, rfl, _⟩ := h; rfl) | (obtain ⟨_, _, _, _, _, _, _, _, _, _, _, _, _, _, _, _, _, _, rfl, _⟩ := h; rfl) | (obtain ⟨_, _, _, _, _, _, _, _, _, _, _, _, _, _, _, _, _, _, _, rfl, _⟩ := h; rfl) | (obtain ⟨_, _, _, _, _, _, _, _, _, _, _, _, _, _, _, _, _, _, _, _, rfl, _⟩ := h; rfl) | (obtain ⟨_, _, _, _, _, _, _, _, _, _, _, _, _, _, _, _, _, _, _, _, _, rfl, _⟩ := h; rfl) | (obtain ⟨_, _, _, _, _, _, _, _, _, _, _, _, _, _, _, _, _, _, _, _, _, _, rfl, _⟩ := h; rfl) | (obtain ⟨_, _, _, _, _, _, _, _, _, _, _, _, _, _, _, _, _, _, _, _, _, _, _, rfl, _⟩ := h; rfl)
  refine ⟨_, (pss_one (ps_ret (pe_callB (cl_lenK K) (by rfl) T.n_len (by decide +kernel) (pa_cons (pe_ix (ix_listK K) (pe_fldK K (pv 0)) (pe_un un_neg pe_int) (fun _ _ => rfl)) pa_nil)))), ?_⟩
  obtain ⟨ad, M, r, L, S, row, rows, sums, rfl, hR, k⟩ := h
  obtain ⟨dx, as, a, h1, h2, h3, h4, h5, _⟩ := hR.top
  refine s_ret (ev_is (ev_cb (ea_cons (ev_op (ev_fld (ev_var rfl) h1 (R.cl ad) (R.rows ad) flds_rows) (ev_un ev_c ru_neg) (rv_last (sq_of h2))) ea_nil) (rc_len (sq_of h4))) (by rw [List.length_map])) fun H1 e1 => k.go e1
def spSumNow (CC : Bool → Addr) : Sp := fun vs H Q _ => ∃ (M : List Addr) (r L S : Addr) (rows : List (List Int)) (d : Int) (sums : List Int), vs = [.ref r] ∧ RAt CC M H r L S true rows (d :: sums) ∧ RetV (.int d) H Q
theorem sc_SumRidge_sum_now : FnScope ["self"] ["self"] (defScope s_SumRidge_sum_now) := ⟨rfl, rfl, rfl, by decide +kernel, rfl, by decide +kernel, by decide +kernel⟩
theorem ok_SumRidge_sum_now {f : Addr} {fd : FuncData} (F : FunD K "sum_now" "SumRidge.sum_now" (defArgs s_SumRidge_sum_now) (defBody s_SumRidge_sum_now) (defScope s_SumRidge_sum_now) [] [] f fd) (T : Bl mg) (R : RCls K CC)  : FnB P w K mg base 1 f fd ["self"] (spSumNow CC) := by
  have nd := sc_SumRidge_sum_now.nd
  refine fn_body F sc_SumRidge_sum_now (fun vs H Q E h => ?_) (fun cdv A outer s H vs Q E hr h => ?_)
  · first | (obtain ⟨rfl, _⟩ := h; rfl) | (obtain ⟨_, rfl, _⟩ := h; rfl) | (obtain ⟨_, _, rfl, _⟩ := h; rfl) | (obtain ⟨_, _, _, rfl, _⟩ := h; rfl) | (obtain ⟨_, _, _, _, rfl, _⟩ := h; rfl) | (obtain ⟨_, _, _, _, _, rfl, _⟩ := h; rfl) | (obtain ⟨_, _, _, _, _, _, rfl, _⟩ := h; rfl) | (obtain ⟨_, _, _, _, _, _, _, rfl, _⟩ := h; rfl) | (obtain ⟨_, _, _, _, _, _, _, _, rfl, _⟩ := h; rfl) | (obtain ⟨_, _, _, _, _, _, _, _, _, rfl, _⟩ := h; rfl) | (obtain ⟨_, _, _, _, _, _, _, _, _, _, rfl, _⟩ := h; rfl) | (obtain ⟨_, _, _, _, _, _, _, _, _, _, _, rfl, _⟩ := h; rfl) | (obtain ⟨_, _, _, _, _, _, _, _, _, _, _, _, rfl, _⟩ := h; rfl) | (obtain ⟨_, _, _, _, _, _, _, _, _, _, _, _, _, rfl, _⟩ := h; rfl) | (obtain ⟨_, _, _, _, _, _, _, _, _, _, _, _, _, _, rfl, _⟩ := h; rfl) | (obtain ⟨_, _, _, _, _, _, _, _, _, _, _, _, _, _, _, rfl, _⟩ := h; rfl) | (obtain ⟨_, _, _, _, _, _, _, _, _, _, _, _, _, _, _, _, rfl, _⟩ := h; rfl) | (obtain ⟨_, _, _, _, _, _, _, _, _, _, _, _, _, _, _, _, _, rfl, _⟩ := h; rfl) | (obtain ⟨_, _, _, _, _, _, _, _, _, _, _, _, _, _, _, _, _, _, rfl, _⟩ := h; rfl) | (obtain ⟨_, _, _, _, _, _, _, _, _, _, _, _, _, _, _, _, _, _, _, rfl, _⟩ := h; rfl) | (obtain ⟨_, _, _, _, _, _, _, _, _, _, _, _, _, _, _, _, _, _, _, _, rfl, _⟩ := h; rfl) | (obtain ⟨_, _, _, _, _, _, _, _, _, _, _, _, _, _, _, _, _, _, _, _, _, rfl, _⟩ := h; rfl) | (obtain ⟨_, _, _, _, _, _, _, _, _, _, _, _, _, _, _, _, _, _, _, _, _, _, rfl, _⟩ := h; rfl) | (obtain ⟨_, _, _, _, _, _, _, _, _, _, _, _, _, _, _, _, _, _, _, _, _, _, _, rfl, _⟩ := h; rfl)
  refine ⟨_, (pss_one (ps_ret (pe_ix (ix_listK K) (pe_fldK K (pv 0)) (pe_un un_neg pe_int) (fun _ _ => rfl)))), ?_⟩
  obtain ⟨M, r, L, S, rows, d, sums, rfl, hR, k⟩ := h
  obtain ⟨dx, h1⟩ := hR.obj
  have h2 := hR.sm rfl
  rw [List.reverse_cons] at h2
  refine s_ret (ev_op (ev_fld (ev_var rfl) h1 (R.cl true) (R.sums true) flds_sums) (ev_un ev_c ru_neg) (rv_last (sq_of h2))) fun H1 e1 => k.go e1
/-! undo -/
def spUndoR (CC : Bool → Addr) (NT : Addr) (ad : Bool) : Sp := fun vs H Q E => ∃ (r L : Addr) (dx : Addr) (fs : List (Str × V)) (xs : List V) (x : V), vs = [.ref r] ∧ H r = some (.ins (CC ad) dx fs) ∧ fs.lookup ("all_rows" : Str) = some (.ref L) ∧ H L = some (.lst (xs ++ [x])) ∧
  ((xs ≠ [] ∧ ∀ H1, Ex H H1 → Q .non (upd H1 L (.lst xs))) ∨ (xs = [] ∧ ∀ H1, Ex H H1 → E (.ref NT) none H1))
theorem sc_Ridge_undo : FnScope ["self"] ["self"] (defScope s_Ridge_undo) := ⟨rfl, rfl, rfl, by decide +kernel, rfl, by decide +kernel, by decide +kernel⟩
theorem ok_Ridge_undo {f : Addr} {fd : FuncData} (F : FunD K "undo" "Ridge.undo" (defArgs s_Ridge_undo) (defBody s_Ridge_undo) (defScope s_Ridge_undo) [] [] f fd) (T : Bl mg) (R : RCls K CC) (e_NothingToUndo : ErrC K mg "NothingToUndo" NT) : FnB P w K mg base 1 f fd ["self"] (fun vs H Q E => ∃ ad, spUndoR CC NT ad vs H Q E) := by
  have nd := sc_Ridge_undo.nd
  refine fn_body F sc_Ridge_undo (fun vs H Q E h => ?_) (fun cdv A outer s H vs Q E hr h => ?_)
  · first | (obtain ⟨rfl, _⟩ := h; rfl) | (obtain ⟨_, rfl, _⟩ := h; rfl) | (obtain ⟨_, _, rfl, _⟩ := h; rfl) | (obtain ⟨_, _, _, rfl, _⟩ := h; rfl) | (obtain ⟨_, _, _, _, rfl, _⟩ := h; rfl) | (obtain ⟨_, _, _, _, _, rfl, _⟩ := h; rfl) | (obtain ⟨_, _, _, _, _, _, rfl, _⟩ := h; rfl) | (obtain ⟨_, _, _, _, _, _, _, rfl, _⟩ := h; rfl) | (obtain ⟨_, _, _, _, _, _, _, _, rfl, _⟩ := h; rfl) | (obtain ⟨_, _, _, _, _, _, _, _, _, rfl, _⟩ := h; rfl) | (obtain ⟨_, _, _, _, _, _, _, _, _, _, rfl, _⟩ := h; rfl) | (obtain ⟨_, _, _, _, _, _, _, _, _, _, _, rfl, _⟩ := h; rfl) | (obtain ⟨_, _, _, _, _, _, _, _, _, _, _, _, rfl, _⟩ := h; rfl) | (obtain ⟨_, _, _, _, _, _, _, _, _, _, _, _, _, rfl, _⟩ := h; rfl) | (obtain ⟨_, _, _, _, _, _, _, _, _, _, _, _, _, _, rfl, _⟩ := h; rfl) | (obtain ⟨_, _, _, _, _, _, _, _, _, _, _, _, _, _, _, rfl, _⟩ := h; rfl) | (obtain ⟨_, _, _, _, _, _, _, _, _, _, _, _, _, _, _, _, rfl, _⟩ := h; rfl) | (obtain ⟨_, _, _, _, _, _, _, _, _, _, _, _, _, _, _, _, _, rfl, _⟩ := h; rfl) | (obtain ⟨_, _, _, _, _, _, _, _, _, _, _, _, _, _, _, _, _, _, rfl, _⟩ := h; rfl) | (obtain ⟨_, _, _, _, _, _, _, _, _, _, _, _, _, _, _, _, _, _, _, rfl, _⟩ := h; rfl) | (obtain ⟨_, _, _, _, _, _, _, _, _, _, _, _, _, _, _, _, _, _, _, _, rfl, _⟩ := h; rfl) | (obtain ⟨_, _, _, _, _, _, _, _, _, _, _, _, _, _, _, _, _, _, _, _, _, rfl, _⟩ := h; rfl) | (obtain ⟨_, _, _, _, _, _, _, _, _, _, _, _, _, _, _, _, _, _, _, _, _, _, rfl, _⟩ := h; rfl) | (obtain ⟨_, _, _, _, _, _, _, _, _, _, _, _, _, _, _, _, _, _, _, _, _, _, _, rfl, _⟩ := h; rfl)
  refine ⟨_, (pss_cons (ps_if (pt_cmpR (op_eq) (pe_callB (cl_lenK K) (by rfl) T.n_len (by decide +kernel) (pa_cons (pe_fldK K (pv 0)) pa_nil)) pe_int (nomark _)) (pss_one (ps_raiseE e_NothingToUndo rfl takesD)) pss_nil)
    (pss_one (ps_expr (pe_bm0 PySem.F.plainAttrs_list PySem.F.slot_list_pop PySem.F.type_list_pop mt_pop (pe_fldK K (pv 0)))))), ?_⟩
  obtain ⟨ad, r, L, dx, fs, xs, x, rfl, h1, h2, h3, hk⟩ := h
  refine q_when (b := decide (((xs ++ [x]).length : Int) = 1)) (et_test (ev_op (ev_cb (ea_cons (ev_fld (ev_var rfl) h1 (R.cl ad) (R.rows ad) h2) ea_nil) (rc_len (sq_of h3))) ev_c rv_eqI)) (fun z H1 e1 => ?_) fun z H1 e1 => ?_
  · have z := of_decide_eq_true z
    rw [List.length_append, List.length_singleton] at z
    rcases hk with ⟨hne, _⟩ | ⟨_, hk⟩
    · have := List.length_pos_iff.mpr hne; omega
    · exact hk H1 e1
  · have z := of_decide_eq_false z
    rw [List.length_append, List.length_singleton] at z
    rcases hk with ⟨_, hk⟩ | ⟨rfl, _⟩
    · exact s_pop (e1 _ _ h3) (ev_fld (ev_var rfl) (e1 _ _ h1) (R.cl ad) (R.rows ad) h2) fun H2 e2 => hk H2 (e1.trans e2)
    · exact absurd rfl z
def spUndoX (CC : Bool → Addr) (NT : Addr) (ad : Bool) : Sp := fun vs H Q E => ∃ (M : List Addr) (r L S : Addr) (row : List Int) (rows : List (List Int)) (d : Int) (sums : List Int), vs = [.ref r] ∧ RAt CC M H r L S ad (row :: rows) (d :: sums) ∧
  ((rows ≠ [] ∧ ∀ H1, Sm [L, S] H H1 → RAt CC M H1 r L S ad rows sums → Q .non H1) ∨ (rows = [] ∧ ∀ H1, Ex H H1 → E (.ref NT) none H1))
def spUndo (CC : Bool → Addr) (ad : Bool) : Sp := fun vs H Q _ => ∃ (M : List Addr) (r L S : Addr) (row : List Int) (rows : List (List Int)) (d : Int) (sums : List Int), vs = [.ref r] ∧ RAt CC M H r L S ad (row :: rows) (d :: sums) ∧ rows ≠ [] ∧
  ∀ H1, Sm [L, S] H H1 → RAt CC M H1 r L S ad rows sums → Q .non H1
theorem undo_ok {ad : Bool} {vs : List V} {H : Hp} {Q : VK} {E : XK} (h : spUndo CC ad vs H Q E) : spUndoX CC NT ad vs H Q E := by
  obtain ⟨M, r, L, S, row, rows, d, sums, e, hR, hne, k⟩ := h
  exact ⟨M, r, L, S, row, rows, d, sums, e, hR, .inl ⟨hne, k⟩⟩
theorem undo_false {vs : List V} {H : Hp} {Q : VK} {E : XK} (h : spUndoX CC NT false vs H Q E) : ∃ ad, spUndoR CC NT ad vs H Q E := by
  obtain ⟨M, r, L, S, row, rows, d, sums, rfl, hR, hk⟩ := h
  obtain ⟨dx, as, a, h1, h2, h3, h4, h5, h6⟩ := hR.top
  rw [List.map_append] at h2
  have hl := h6.len
  refine ⟨false, r, L, dx, _, _, _, rfl, h1, flds_rows, h2, ?_⟩
  rcases hk with ⟨hne, k⟩ | ⟨rfl, k⟩
  · refine .inl ⟨fun z => hne ?_, fun H1 e => ?_⟩
    · have : as = [] := by simpa using z
      rw [this] at hl
      exact List.eq_nil_of_length_eq_zero hl.symm
    · have s : Sm [L, S] H (upd H1 L (.lst (as.reverse.map V.ref))) := (Sm.ex e).mut (.inl (List.mem_cons_self ..))
      exact k _ s (hR.pop s h6 upd_same fun z => nomatch z)
  · refine .inr ⟨?_, k⟩
    have : as = [] := List.eq_nil_of_length_eq_zero hl
    rw [this]; rfl
/-! the changes -/
theorem el_takeN {te : TE} {σ : L2.St} {H : Hp} {a : Addr} {ns : List Int} {i : Nat} {ti : TE} (h : Ev te σ H (.ref a)) (hS : SqL K H a (ns.map V.int)) (hi : Ev ti σ H (.int (i : Int))) : EvL (tSl (rSlL K) te tNoPart (tPart ti)) σ H ((ns.take i).map V.int) :=
  el_isL (el_sl h eo_none (eo_some hi) hS) (cut_to ns i)
theorem el_dropN {te : TE} {σ : L2.St} {H : Hp} {a : Addr} {ns : List Int} {i : Nat} {ti : TE} (h : Ev te σ H (.ref a)) (hS : SqL K H a (ns.map V.int)) (hi : Ev ti σ H (.int (i : Int))) : EvL (tSl (rSlL K) te (tPart ti) tNoPart) σ H ((ns.drop i).map V.int) :=
  el_isL (el_sl h (eo_some hi) eo_none hS) (cut_from ns i)
theorem ev_succ {te : TE} {σ : L2.St} {H : Hp} {i : Nat} (h : Ev te σ H (.int (i : Int))) : Ev (tOp (rI0 fun i j => .int (i + j)) te (tC (.int 1))) σ H (.int ((i + 1 : Nat) : Int)) := ev_is (ev_op h ev_c rv_I0) (by rw [Int.natCast_add]; rfl)
def insR (row : List Int) (i : Nat) (e : Int) : List Int := row.take i ++ [e] ++ row.drop i
def delR (row : List Int) (i : Nat) : List Int := row.take i ++ row.drop (i + 1)
def setR (row : List Int) (i : Nat) (e : Int) : List Int := row.take i ++ [e] ++ row.drop (i + 1)
theorem insR_len (row : List Int) (i : Nat) (e : Int) : (insR row i e).length = row.length + 1 := by
  unfold insR; rw [List.length_append, List.length_append, List.length_take, List.length_drop, List.length_singleton]; omega
theorem delR_len {row : List Int} {i : Nat} (h : i < row.length) : (delR row i).length = row.length - 1 := by
  unfold delR; rw [List.length_append, List.length_take, List.length_drop]; omega
theorem setR_len {row : List Int} {i : Nat} {e : Int} (h : i < row.length) : (setR row i e).length = row.length := by
  unfold setR; rw [List.length_append, List.length_append, List.length_take, List.length_drop, List.length_singleton]; omega
theorem el_ins {te ti tx : TE} {σ : L2.St} {H : Hp} {a : Addr} {ns : List Int} {i : Nat} {e : Int} (h : ∀ H1, Ex H H1 → Ev te σ H1 (.ref a)) (hS : SqL K H a (ns.map V.int)) (hi : ∀ H1, Ex H H1 → Ev ti σ H1 (.int (i : Int))) (hx : Ev tx σ H (.int e)) (hz : ns.length ≤ 60) :
    EvL (tOp rCat (tOp rCat (tSl (rSlL K) te tNoPart (tPart ti)) (tLst (tCons tx tNil))) (tSl (rSlL K) te (tPart ti) tNoPart)) σ H ((insR ns i e).map V.int) := by
  refine el_isL (el_catLL (el_catLL (el_takeN (h H (Ex.refl H)) hS (hi H (Ex.refl H))) (el_lst (ea_cons hx ea_nil) (show 1 ≤ 100000 by decide)) ?_) (el_dropN (h H (Ex.refl H)) hS (hi H (Ex.refl H))) ?_) ?_
  · rw [List.length_map, List.length_take]; simp only [List.length_cons, List.length_nil]; omega
  · rw [List.length_append, List.length_map, List.length_take, List.length_map, List.length_drop]; simp only [List.length_cons, List.length_nil]; omega
  · unfold insR; rw [List.map_append, List.map_append]; rfl
theorem el_set {te ti tx : TE} {σ : L2.St} {H : Hp} {a : Addr} {ns : List Int} {i : Nat} {e : Int} (h : ∀ H1, Ex H H1 → Ev te σ H1 (.ref a)) (hS : SqL K H a (ns.map V.int)) (hi : ∀ H1, Ex H H1 → Ev ti σ H1 (.int (i : Int))) (hx : Ev tx σ H (.int e)) (hz : ns.length ≤ 60) :
    EvL (tOp rCat (tOp rCat (tSl (rSlL K) te tNoPart (tPart ti)) (tLst (tCons tx tNil))) (tSl (rSlL K) te (tPart (tOp (rI0 fun i j => .int (i + j)) ti (tC (.int 1)))) tNoPart)) σ H ((setR ns i e).map V.int) := by
  refine el_isL (el_catLL (el_catLL (el_takeN (h H (Ex.refl H)) hS (hi H (Ex.refl H))) (el_lst (ea_cons hx ea_nil) (show 1 ≤ 100000 by decide)) ?_) (el_dropN (h H (Ex.refl H)) hS (ev_succ (hi H (Ex.refl H)))) ?_) ?_
  · rw [List.length_map, List.length_take]; simp only [List.length_cons, List.length_nil]; omega
  · rw [List.length_append, List.length_map, List.length_take, List.length_map, List.length_drop]; simp only [List.length_cons, List.length_nil]; omega
  · unfold setR; rw [List.map_append, List.map_append]; rfl
theorem el_del {te ti : TE} {σ : L2.St} {H : Hp} {a : Addr} {ns : List Int} {i : Nat} (h : ∀ H1, Ex H H1 → Ev te σ H1 (.ref a)) (hS : SqL K H a (ns.map V.int)) (hi : ∀ H1, Ex H H1 → Ev ti σ H1 (.int (i : Int))) (hz : ns.length ≤ 60) :
    EvL (tOp rCat (tSl (rSlL K) te tNoPart (tPart ti)) (tSl (rSlL K) te (tPart (tOp (rI0 fun i j => .int (i + j)) ti (tC (.int 1)))) tNoPart)) σ H ((delR ns i).map V.int) := by
  refine el_isL (el_catLL (el_takeN (h H (Ex.refl H)) hS (hi H (Ex.refl H))) (el_dropN (h H (Ex.refl H)) hS (ev_succ (hi H (Ex.refl H)))) ?_) ?_
  · rw [List.length_map, List.length_take, List.length_map, List.length_drop]; omega
  · unfold delR; rw [List.map_append]
/-- a call of a method that only looks -/
theorem spv_ret {sp : Sp} {vs : List V} {H : Hp} {v : V} (h : ∀ H1, Ex H H1 → ∀ Q E, RetV v H1 Q → sp vs H1 Q E) : SpV sp vs H v := fun H1 e Q q E => h H1 e Q E q
theorem spl_ret {sp : Sp} {vs : List V} {H : Hp} {xs : List V} (h : ∀ H1, Ex H H1 → ∀ Q E, RetL xs H1 Q → sp vs H1 Q E) : SpL sp vs H xs := fun H1 e Q q E => h H1 e Q E q
theorem spv_len {M : List Addr} {H : Hp} {r L S : Addr} {ad : Bool} {row : List Int} {rows : List (List Int)} {sums : List Int} (h : RAt CC M H r L S ad (row :: rows) sums) : SpV (spLenR CC ad) [.ref r] H (.int (row.length : Int)) :=
  spv_ret fun H1 e Q E q => ⟨M, r, L, S, row, rows, sums, rfl, h.ex e, q⟩
def spPut (CC : Bool → Addr) (ad : Bool) : Sp := fun vs H Q _ => ∃ (M : List Addr) (r L S : Addr) (i : Nat) (e : Int) (row : List Int) (rows : List (List Int)) (sums : List Int), vs = [.ref r, .int (i : Int), .int e] ∧ RAt CC M H r L S ad (row :: rows) sums ∧ Dom M H ∧ i ≤ row.length ∧ row.length < 60 ∧ rows.length < 70000 ∧
  ∀ H1, Sm [L, S] H H1 → RAt CC M H1 r L S ad (insR row i e :: row :: rows) (pushS sums 0) → Q (.int ((row.length : Int) + 1)) H1
theorem sc_Ridge_put : FnScope ["self", "place", "entry", "row"] ["self", "place", "entry"] (defScope s_Ridge_put) := ⟨rfl, rfl, rfl, by decide +kernel, rfl, by decide +kernel, by decide +kernel⟩
theorem ok_Ridge_put {f : Addr} {fd : FuncData} (F : FunD K "put" "Ridge.put" (defArgs s_Ridge_put) (defBody s_Ridge_put) (defScope s_Ridge_put) [] [] f fd) (T : Bl mg) (R : RCls K CC) (m_need_place_below : CalM P w K mg base 2 CC "need_place_below" [] (fun _ => spPlace)) (m_need_entry : CalM P w K mg base 2 CC "need_entry" [] (fun _ => spEntry)) (m_go_on : CalM P w K mg base 2 CC "go_on" [] (spGo CC)) (m_len : CalM P w K mg base 1 CC "__len__" [] (spLenR CC)) : FnB P w K mg base 4 f fd ["self", "place", "entry"] (fun vs H Q E => ∃ ad, spPut CC ad vs H Q E) := by
  have nd := sc_Ridge_put.nd
  refine fn_body F sc_Ridge_put (fun vs H Q E h => ?_) (fun cdv A outer s H vs Q E hr h => ?_)
  · first | (obtain ⟨rfl, _⟩ := h; rfl) | (obtain ⟨_, rfl, _⟩ := h; rfl) | (obtain ⟨_, _, rfl, _⟩ := h; rfl) | (obtain ⟨_, _, _, rfl, _⟩ := h; rfl) | (obtain ⟨_, _, _, _, rfl, _⟩ := h; rfl) | (obtain ⟨_, _, _, _, _, rfl, _⟩ := h; rfl) | (obtain ⟨_, _, _, _, _, _, rfl, _⟩ := h; rfl) | (obtain ⟨_, _, _, _, _, _, _, rfl, _⟩ := h; rfl) | (obtain ⟨_, _, _, _, _, _, _, _, rfl, _⟩ := h; rfl) | (obtain ⟨_, _, _, _, _, _, _, _, _, rfl, _⟩ := h; rfl) | (obtain ⟨_, _, _, _, _, _, _, _, _, _, rfl, _⟩ := h; rfl) | (obtain ⟨_, _, _, _, _, _, _, _, _, _, _, rfl, _⟩ := h; rfl) | (obtain ⟨_, _, _, _, _, _, _, _, _, _, _, _, rfl, _⟩ := h; rfl) | (obtain ⟨_, _, _, _, _, _, _, _, _, _, _, _, _, rfl, _⟩ := h; rfl) | (obtain ⟨_, _, _, _, _, _, _, _, _, _, _, _, _, _, rfl, _⟩ := h; rfl) | (obtain ⟨_, _, _, _, _, _, _, _, _, _, _, _, _, _, _, rfl, _⟩ := h; rfl) | (obtain ⟨_, _, _, _, _, _, _, _, _, _, _, _, _, _, _, _, rfl, _⟩ := h; rfl) | (obtain ⟨_, _, _, _, _, _, _, _, _, _, _, _, _, _, _, _, _, rfl, _⟩ := h; rfl) | (obtain ⟨_, _, _, _, _, _, _, _, _, _, _, _, _, _, _, _, _, _, rfl, _⟩ := h; rfl) | (obtain ⟨_, _, _, _, _, _, _, _, _, _, _, _, _, _, _, _, _, _, _, rfl, _⟩ := h; rfl) | (obtain ⟨_, _, _, _, _, _, _, _, _, _, _, _, _, _, _, _, _, _, _, _, rfl, _⟩ := h; rfl) | (obtain ⟨_, _, _, _, _, _, _, _, _, _, _, _, _, _, _, _, _, _, _, _, _, rfl, _⟩ := h; rfl) | (obtain ⟨_, _, _, _, _, _, _, _, _, _, _, _, _, _, _, _, _, _, _, _, _, _, rfl, _⟩ := h; rfl) | (obtain ⟨_, _, _, _, _, _, _, _, _, _, _, _, _, _, _, _, _, _, _, _, _, _, _, rfl, _⟩ := h; rfl)
  refine ⟨_, (pss_cons (ps_set (i := 3) nd rfl (.inl rfl) (pe_ix (ix_listK K) (pe_fldK K (pv 0)) (pe_un un_neg pe_int) (fun _ _ => rfl)))
    (pss_cons (ps_expr (pe_mA (pv 0) R.cl m_need_place_below (hr.mono (by decide)) takesD (pa_cons (pv 1) (pa_cons (pe_op op_add (pe_callB (cl_lenK K) (by rfl) T.n_len (by decide +kernel) (pa_cons (pv 3) pa_nil)) pe_int) pa_nil))))
    (pss_cons (ps_expr (pe_mA (pv 0) R.cl m_need_entry (hr.mono (by decide)) takesD (pa_cons (pv 2) pa_nil)))
    (pss_cons (ps_if (pt_cmpR (op_ge) (pe_callB (cl_lenK K) (by rfl) T.n_len (by decide +kernel) (pa_cons (pv 3) pa_nil)) (pe_conK K (pv 0)) (nomark _)) (pss_one ps_never) pss_nil)
    (pss_cons (ps_expr (pe_mA (pv 0) R.cl m_go_on (hr.mono (by decide)) takesD (pa_cons (pe_op op_cat (pe_op op_cat (pe_slice (sl_listK K) (pv 3) po_none (po_some (pv 1))) (pe_lst (pa_cons (pv 2) pa_nil))) (pe_slice (sl_listK K) (pv 3) (po_some (pv 1)) po_none)) (pa_cons pe_int pa_nil))))
    (pss_one (ps_ret (pe_lenA (pv 0) m_len (hr.mono (by decide)) takesD T.n_len)))))))), ?_⟩
  obtain ⟨ad, M, r, L, S, i, e, row, rows, sums, rfl, hR, hD, hi, hrow, hl, k⟩ := h
  obtain ⟨dx, as, a, h1, h2, h3, h4, h5, _⟩ := hR.top
  obtain ⟨u, hm⟩ := R.most ad
  refine q_asg (ev_op (ev_fld (ev_var rfl) h1 (R.cl ad) (R.rows ad) flds_rows) (ev_un ev_c ru_neg) (rv_last (sq_of h2))) fun H1 e1 => ?_
  refine wq_drop (m_go ad (ev_var rfl) (e1 _ _ h1) (by cases ad <;> rfl) (ea_cons (ev_var rfl) (ea_cons (ev_op (ev_cb (ea_cons (ev_var rfl) ea_nil) (rc_len (sq_of (e1 _ _ h4)))) ev_c rv_I0) ea_nil)) fun H2 e2 => ⟨_, _, _, rfl, by omega, by rw [List.length_map]; omega, fun H3 e3 => ?_⟩)
  have e03 := (e1.trans e2).trans e3
  refine wq_drop (m_go ad (ev_var rfl) (e03 _ _ h1) (by cases ad <;> rfl) (ea_cons (ev_var rfl) ea_nil) fun H4 e4 => ⟨_, _, rfl, fun H5 e5 => ?_⟩)
  have e05 := e03.trans (e4.trans e5)
  refine q_when (b := false) (et_is (et_test (ev_op (ev_cb (ea_cons (ev_var rfl) ea_nil) (rc_len (sq_of (e05 _ _ h4)))) (ev_con (ev_var rfl) (e05 _ _ h1) (R.cl ad) hm (by cases ad <;> rfl)) rv_I0)) (by rw [List.length_map]; exact decide_eq_false (by omega))) (fun z => nomatch z) fun _ H6 e6 => ?_
  have e06 := e05.trans e6
  refine wq_drop (m_goE ad (ev_var rfl) (e06 _ _ h1) (by cases ad <;> rfl) fun H7 e7 => w_cons (EvL.go (el_ins (fun _ _ => ev_var rfl) (sq_of ((e06.trans e7) _ _ h4)) (fun _ _ => ev_var rfl) (ev_var rfl) h5) fun p H8 hp e8 h8 => w_cons1 ev_c fun H9 e9 => w_nil ?_))
  have e09 := (e06.trans e7).trans (e8.trans e9)
  refine ⟨M, r, L, S, p, insR row i e, 0, row :: rows, sums, rfl, hR.ex e09, hD.new (fresh_back (e06.trans e7) hp), e9 _ _ h8, by rw [insR_len]; omega, by rw [List.length_cons]; omega, by simp, fun H10 s10 hR10 => ?_⟩
  obtain ⟨dx2, g1⟩ := hR10.obj
  refine s_ret (ev_lenA ad (ev_var rfl) g1 (by rw [insR_len]; omega) (spv_len hR10)) fun H11 e11 => ?_
  rw [insR_len, Int.natCast_add]
  exact k H11 (((Sm.ex e09).trans s10).trans (Sm.ex e11)) (hR10.ex e11)
def spTake (CC : Bool → Addr) (ad : Bool) : Sp := fun vs H Q _ => ∃ (M : List Addr) (r L S : Addr) (i : Nat) (row : List Int) (rows : List (List Int)) (sums : List Int), vs = [.ref r, .int (i : Int)] ∧ RAt CC M H r L S ad (row :: rows) sums ∧ Dom M H ∧ i < row.length ∧ rows.length < 70000 ∧
  ∀ H1, Sm [L, S] H H1 → RAt CC M H1 r L S ad (delR row i :: row :: rows) (pushS sums 0) → Q (.int (row.getD i 0)) H1
def spChange (CC : Bool → Addr) (ad : Bool) : Sp := fun vs H Q _ => ∃ (M : List Addr) (r L S : Addr) (i : Nat) (e : Int) (row : List Int) (rows : List (List Int)) (sums : List Int), vs = [.ref r, .int (i : Int), .int e] ∧ RAt CC M H r L S ad (row :: rows) sums ∧ Dom M H ∧ i < row.length ∧ rows.length < 70000 ∧
  ∀ H1, Sm [L, S] H H1 → RAt CC M H1 r L S ad (setR row i e :: row :: rows) (pushS sums 0) → Q (.int (row.getD i 0)) H1
theorem sc_Ridge_change : FnScope ["self", "place", "entry", "row"] ["self", "place", "entry"] (defScope s_Ridge_change) := ⟨rfl, rfl, rfl, by decide +kernel, rfl, by decide +kernel, by decide +kernel⟩
theorem ok_Ridge_change {f : Addr} {fd : FuncData} (F : FunD K "change" "Ridge.change" (defArgs s_Ridge_change) (defBody s_Ridge_change) (defScope s_Ridge_change) [] [] f fd) (T : Bl mg) (R : RCls K CC) (m_need_place_below : CalM P w K mg base 2 CC "need_place_below" [] (fun _ => spPlace)) (m_need_entry : CalM P w K mg base 2 CC "need_entry" [] (fun _ => spEntry)) (m_go_on : CalM P w K mg base 2 CC "go_on" [] (spGo CC)) : FnB P w K mg base 4 f fd ["self", "place", "entry"] (fun vs H Q E => ∃ ad, spChange CC ad vs H Q E) := by
  have nd := sc_Ridge_change.nd
  refine fn_body F sc_Ridge_change (fun vs H Q E h => ?_) (fun cdv A outer s H vs Q E hr h => ?_)
  · first | (obtain ⟨rfl, _⟩ := h; rfl) | (obtain ⟨_, rfl, _⟩ := h; rfl) | (obtain ⟨_, _, rfl, _⟩ := h; rfl) | (obtain ⟨_, _, _, rfl, _⟩ := h; rfl) | (obtain ⟨_, _, _, _, rfl, _⟩ := h; rfl) | (obtain ⟨_, _, _, _, _, rfl, _⟩ := h; rfl) | (obtain ⟨_, _, _, _, _, _, rfl, _⟩ := h; rfl) | (obtain ⟨_, _, _, _, _, _, _, rfl, _⟩ := h; rfl) | (obtain ⟨_, _, _, _, _, _, _, _, rfl, _⟩ := h; rfl) | (obtain ⟨_, _, _, _, _, _, _, _, _, rfl, _⟩ := h; rfl) | (obtain ⟨_, _, _, _, _, _, _, _, _, _, rfl, _⟩ := h; rfl) | (obtain ⟨_, _, _, _, _, _, _, _, _, _, _, rfl, _⟩ := h; rfl) | (obtain ⟨_, _, _, _, _, _, _, _, _, _, _, _, rfl, _⟩ := h; rfl) | (obtain ⟨_, _, _, _, _, _, _, _, _, _, _, _, _, rfl, _⟩ := h; rfl) | (obtain ⟨_, _, _, _, _, _, _, _, _, _, _, _, _, _, rfl, _⟩ := h; rfl) | (obtain ⟨_, _, _, _, _, _, _, _, _, _, _, _, _, _, _, rfl, _⟩ := h; rfl) | (obtain ⟨_, _, _, _, _, _, _, _, _, _, _, _, _, _, _, _, rfl, _⟩ := h; rfl) | (obtain ⟨_, _, _, _, _, _, _, _, _, _, _, _, _, _, _, _, _, rfl, _⟩ := h; rfl) | (obtain ⟨_, _, _, _, _, _, _, _, _, _, _, _, _, _, _, _, _, _, rfl, _⟩ := h; rfl) | (obtain ⟨_, _, _, _, _, _, _, _, _, _, _, _, _, _, _, _, _, _, _, rfl, _⟩ := h; rfl) | (obtain ⟨_, _, _, _, _, _, _, _, _, _, _, _, _, _, _, _, _, _, _, _, rfl, _⟩ := h; rfl) | (obtain ⟨_, _, _, _, _, _, _, _, _, _, _, _, _, _, _, _, _, _, _, _, _, rfl, _⟩ := h; rfl) | (obtain ⟨_, _, _, _, _, _, _, _, _, _, _, _, _, _, _, _, _, _, _, _, _, _, rfl, _⟩ := h; rfl) | (obtain ⟨_, _, _, _, _, _, _, _, _, _, _, _, _, _, _, _, _, _, _, _, _, _, _, rfl, _⟩ := h; rfl)
  refine ⟨_, (pss_cons (ps_set (i := 3) nd rfl (.inl rfl) (pe_ix (ix_listK K) (pe_fldK K (pv 0)) (pe_un un_neg pe_int) (fun _ _ => rfl)))
    (pss_cons (ps_expr (pe_mA (pv 0) R.cl m_need_place_below (hr.mono (by decide)) takesD (pa_cons (pv 1) (pa_cons (pe_callB (cl_lenK K) (by rfl) T.n_len (by decide +kernel) (pa_cons (pv 3) pa_nil)) pa_nil))))
    (pss_cons (ps_expr (pe_mA (pv 0) R.cl m_need_entry (hr.mono (by decide)) takesD (pa_cons (pv 2) pa_nil)))
    (pss_cons (ps_expr (pe_mA (pv 0) R.cl m_go_on (hr.mono (by decide)) takesD (pa_cons (pe_op op_cat (pe_op op_cat (pe_slice (sl_listK K) (pv 3) po_none (po_some (pv 1))) (pe_lst (pa_cons (pv 2) pa_nil))) (pe_slice (sl_listK K) (pv 3) (po_some (pe_op op_add (pv 1) pe_int)) po_none)) (pa_cons pe_int pa_nil))))
    (pss_one (ps_ret (pe_ix (ix_listK K) (pv 3) (pv 1) (fun _ _ => rfl)))))))), ?_⟩
  obtain ⟨ad, M, r, L, S, i, e, row, rows, sums, rfl, hR, hD, hi, hl, k⟩ := h
  obtain ⟨dx, as, a, h1, h2, h3, h4, h5, _⟩ := hR.top
  refine q_asg (ev_op (ev_fld (ev_var rfl) h1 (R.cl ad) (R.rows ad) flds_rows) (ev_un ev_c ru_neg) (rv_last (sq_of h2))) fun H1 e1 => ?_
  refine wq_drop (m_go ad (ev_var rfl) (e1 _ _ h1) (by cases ad <;> rfl) (ea_cons (ev_var rfl) (ea_cons (ev_cb (ea_cons (ev_var rfl) ea_nil) (rc_len (sq_of (e1 _ _ h4)))) ea_nil)) fun H2 e2 => ⟨_, _, _, rfl, by omega, by rw [List.length_map]; omega, fun H3 e3 => ?_⟩)
  have e03 := (e1.trans e2).trans e3
  refine wq_drop (m_go ad (ev_var rfl) (e03 _ _ h1) (by cases ad <;> rfl) (ea_cons (ev_var rfl) ea_nil) fun H4 e4 => ⟨_, _, rfl, fun H5 e5 => ?_⟩)
  have e06 := e03.trans (e4.trans e5)
  refine wq_drop (m_goE ad (ev_var rfl) (e06 _ _ h1) (by cases ad <;> rfl) fun H7 e7 => w_cons (EvL.go (el_set (fun _ _ => ev_var rfl) (sq_of ((e06.trans e7) _ _ h4)) (fun _ _ => ev_var rfl) (ev_var rfl) h5) fun p H8 hp e8 h8 => w_cons1 ev_c fun H9 e9 => w_nil ?_))
  have e09 := (e06.trans e7).trans (e8.trans e9)
  refine ⟨M, r, L, S, p, setR row i e, 0, row :: rows, sums, rfl, hR.ex e09, hD.new (fresh_back (e06.trans e7) hp), e9 _ _ h8, by rw [setR_len hi]; omega, by rw [List.length_cons]; omega, by simp, fun H10 s10 hR10 => ?_⟩
  have h10 := s10.at (fun z => h3 (hR.sub _ z)) (e09 _ _ h4)
  exact s_ret (ev_op (ev_var rfl) (ev_var rfl) (rv_int (sq_of h10) hi)) fun H11 e11 => k H11 (((Sm.ex e09).trans s10).trans (Sm.ex e11)) (hR10.ex e11)
def spPeel (CC : Bool → Addr) (ad : Bool) : Sp := fun vs H Q _ => ∃ (M : List Addr) (r L S : Addr) (n : Int) (row : List Int) (rows : List (List Int)) (sums : List Int), vs = [.ref r, .int n] ∧ 0 ≤ n ∧ RAt CC M H r L S ad (row :: rows) sums ∧ Dom M H ∧ rows.length < 70000 ∧
  ∀ H1, Sm [L, S] H H1 → RAt CC M H1 r L S ad (peelN n.toNat row :: row :: rows) (pushS sums (row.sum - (peelN n.toNat row).sum)) → Q (.int ((row.length : Int) - ((peelN n.toNat row).length : Int))) H1
theorem spPeel_len {ad : Bool} {vs : List V} {H : Hp} {Q : VK} {E : XK} (h : spPeel CC ad vs H Q E) : vs.length = 2 := by
  obtain ⟨M, r, L, S, n, row, rows, sums, rfl, _⟩ := h
  rfl
theorem sc_Ridge_peel : FnScope ["self", "rounds", "row", "left"] ["self", "rounds"] (defScope s_Ridge_peel) := ⟨rfl, rfl, rfl, by decide +kernel, rfl, by decide +kernel, by decide +kernel⟩
theorem ok_Ridge_peel {f : Addr} {fd : FuncData} (F : FunD K "peel" "Ridge.peel" (defArgs s_Ridge_peel) (defBody s_Ridge_peel) (defScope s_Ridge_peel) [] [("rounds", .int 1)] f fd) (T : Bl mg) (R : RCls K CC) (c_need_rounds : Cal P w K mg base 2 "need_rounds" (spNeedRounds K)) (c_peeled : Cal P w K mg base 4 "peeled" (spPeeled K)) (m_go_on : CalM P w K mg base 2 CC "go_on" [] (spGo CC)) : FnB P w K mg base 5 f fd ["self", "rounds"] (fun vs H Q E => ∃ ad, spPeel CC ad vs H Q E) := by
  have nd := sc_Ridge_peel.nd
  refine fn_body F sc_Ridge_peel (fun vs H Q E h => ?_) (fun cdv A outer s H vs Q E hr h => ?_)
  · first | (obtain ⟨rfl, _⟩ := h; rfl) | (obtain ⟨_, rfl, _⟩ := h; rfl) | (obtain ⟨_, _, rfl, _⟩ := h; rfl) | (obtain ⟨_, _, _, rfl, _⟩ := h; rfl) | (obtain ⟨_, _, _, _, rfl, _⟩ := h; rfl) | (obtain ⟨_, _, _, _, _, rfl, _⟩ := h; rfl) | (obtain ⟨_, _, _, _, _, _, rfl, _⟩ := h; rfl) | (obtain ⟨_, _, _, _, _, _, _, rfl, _⟩ := h; rfl) | (obtain ⟨_, _, _, _, _, _, _, _, rfl, _⟩ := h; rfl) | (obtain ⟨_, _, _, _, _, _, _, _, _, rfl, _⟩ := h; rfl) | (obtain ⟨_, _, _, _, _, _, _, _, _, _, rfl, _⟩ := h; rfl) | (obtain ⟨_, _, _, _, _, _, _, _, _, _, _, rfl, _⟩ := h; rfl) | (obtain ⟨_, _, _, _, _, _, _, _, _, _, _, _, rfl, _⟩ := h; rfl) | (obtain ⟨_, _, _, _, _, _, _, _, _, _, _, _, _, rfl, _⟩ := h; rfl) | (obtain ⟨_, _, _, _, _, _, _, _, _, _, _, _, _, _, rfl, _⟩ := h; rfl) | (obtain ⟨_, _, _, _, _, _, _, _, _, _, _, _, _, _, _, rfl, _⟩ := h; rfl) | (obtain ⟨_, _, _, _, _, _, _, _, _, _, _, _, _, _, _, _, rfl, _⟩ := h; rfl) | (obtain ⟨_, _, _, _, _, _, _, _, _, _, _, _, _, _, _, _, _, rfl, _⟩ := h; rfl) | (obtain ⟨_, _, _, _, _, _, _, _, _, _, _, _, _, _, _, _, _, _, rfl, _⟩ := h; rfl) | (obtain ⟨_, _, _, _, _, _, _, _, _, _, _, _, _, _, _, _, _, _, _, rfl, _⟩ := h; rfl) | (obtain ⟨_, _, _, _, _, _, _, _, _, _, _, _, _, _, _, _, _, _, _, _, rfl, _⟩ := h; rfl) | (obtain ⟨_, _, _, _, _, _, _, _, _, _, _, _, _, _, _, _, _, _, _, _, _, rfl, _⟩ := h; rfl) | (obtain ⟨_, _, _, _, _, _, _, _, _, _, _, _, _, _, _, _, _, _, _, _, _, _, rfl, _⟩ := h; rfl) | (obtain ⟨_, _, _, _, _, _, _, _, _, _, _, _, _, _, _, _, _, _, _, _, _, _, _, rfl, _⟩ := h; rfl)
  refine ⟨_, (pss_cons (ps_expr (pe_c c_need_rounds (hr.mono (by decide)) takesD (pa_cons (pv 1) (pa_cons pe_int pa_nil))))
    (pss_cons (ps_set (i := 2) nd rfl (.inl rfl) (pe_ix (ix_listK K) (pe_fldK K (pv 0)) (pe_un un_neg pe_int) (fun _ _ => rfl)))
    (pss_cons (ps_set (i := 3) nd rfl (.inl rfl) (pe_c c_peeled (hr.mono (by decide)) takesD (pa_cons (pv 2) (pa_cons (pv 1) pa_nil))))
    (pss_cons (ps_expr (pe_mA (pv 0) R.cl m_go_on (hr.mono (by decide)) takesD (pa_cons (pv 3) (pa_cons (pe_op op_sub (pe_callB (cr_sumK K) (by rfl) T.n_sum (by decide +kernel) (pa_cons (pv 2) pa_nil)) (pe_callB (cr_sumK K) (by rfl) T.n_sum (by decide +kernel) (pa_cons (pv 3) pa_nil))) pa_nil))))
    (pss_one (ps_ret (pe_op op_sub (pe_callB (cl_lenK K) (by rfl) T.n_len (by decide +kernel) (pa_cons (pv 2) pa_nil)) (pe_callB (cl_lenK K) (by rfl) T.n_len (by decide +kernel) (pa_cons (pv 3) pa_nil))))))))), ?_⟩
  obtain ⟨ad, M, r, L, S, n, row, rows, sums, rfl, hn, hR, hD, hl, k⟩ := h
  obtain ⟨dx, as, a, h1, h2, h3, h4, h5, _⟩ := hR.top
  have hle := peelN_le n.toNat row
  refine q_drop (ev_f (ea_cons (ev_var rfl) (ea_cons ev_c ea_nil)) (spv_needRounds hn)) fun H1 e1 => ?_
  refine q_asg (ev_op (ev_fld (ev_var rfl) (e1 _ _ h1) (R.cl ad) (R.rows ad) flds_rows) (ev_un ev_c ru_neg) (rv_last (sq_of (e1 _ _ h2)))) fun H2 e2 => ?_
  refine q_asgL (el_f (ea_cons (ev_var rfl) (ea_cons (ev_var rfl) ea_nil)) (spl_peeled (sq_of ((e1.trans e2) _ _ h4)) (by omega) hn)) fun p H3 hp e3 h8 => ?_
  have e03 := (e1.trans e2).trans e3
  refine wq_drop (m_go ad (ev_var rfl) (e03 _ _ h1) (by cases ad <;> rfl) (ea_cons (ev_var rfl) (ea_cons (ev_op (ev_cb (ea_cons (ev_var rfl) ea_nil) (rc_sum (sq_of (e03 _ _ h4)))) (ev_cb (ea_cons (ev_var rfl) ea_nil) (rc_sum (sq_of h8))) rv_I0) ea_nil)) fun H4 e4 => ?_)
  have e04 := e03.trans e4
  have hpM := hD.new (fresh_back (e1.trans e2) hp)
  refine ⟨M, r, L, S, p, peelN n.toNat row, _, row :: rows, sums, rfl, hR.ex e04, hpM, e4 _ _ h8, by omega, by rw [List.length_cons]; omega, by simp, fun H10 s10 hR10 => ?_⟩
  have h10 := s10.at (fun z => h3 (hR.sub _ z)) (e04 _ _ h4)
  have p10 := s10.at (fun z => hpM (hR.sub _ z)) (e4 _ _ h8)
  exact s_ret (ev_is (ev_op (ev_cb (ea_cons (ev_var rfl) ea_nil) (rc_len (sq_of h10))) (ev_cb (ea_cons (ev_var rfl) ea_nil) (rc_len (sq_of p10))) rv_I0) (by rw [List.length_map, List.length_map])) fun H11 e11 => k H11 (((Sm.ex e04).trans s10).trans (Sm.ex e11)) (hR10.ex e11)
theorem b_peel0 {f : Addr} {fd : FuncData} (F : FunD K "peel" "Ridge.peel" (defArgs s_Ridge_peel) (defBody s_Ridge_peel) (defScope s_Ridge_peel) [] [("rounds", .int 1)] f fd) : ∃ ds, Vals [V.int 1] ds ∧ Binds K fd ["self", "rounds"] ds :=
  F.binds0 (ps := ["self", "rounds"]) 1 (by simp) rfl fun D doc pm an cdv ct us ks h1 h2 => match us, ks, h1, h2 with | [_], [_], _, _ => ⟨_, _, _, _, _, _, rfl, rfl, rfl⟩
theorem b_peel1 {f : Addr} {fd : FuncData} (F : FunD K "peel" "Ridge.peel" (defArgs s_Ridge_peel) (defBody s_Ridge_peel) (defScope s_Ridge_peel) [] [("rounds", .int 1)] f fd) : ∃ mv : List Value, KBn K fd ["self", "rounds"] 1 ["rounds"] (fun us ws => us ++ ws) (fun vs zs => vs ++ zs) :=
  F.kbinds0 (ps := ["self", "rounds"]) 1 ["rounds"] [] (fun us mv ws => us ++ ws) (by simp) (fun q h => nomatch h) (fun h1 h2 h3 => h1.append h3) fun D doc pm an cdv ct us mv ws h1 h2 h3 => match us, mv, ws, h1, h2, h3 with | [_], [], [_], _, _, _ => rfl

end
end Pk
end

section
namespace Pk
open PySem PySem.Spec PyProof.Rows L2 Evl
section
variable {P : Program} {w : World} {K : PySem.W.Frag} {mg : Str → Option Value} {base : Heap} {CC : Bool → Addr} {NT : Addr}
/-! ### making, and the second class -/
theorem w_if {t : TT} {ta tb : TE} {σ : L2.St} {H : Hp} {Q : VK} {b : Bool} (h : EvT t σ H b) (h1 : b = true → ∀ H1, Ex H H1 → ta σ H1 Q) (h2 : b = false → ∀ H1, Ex H H1 → tb σ H1 Q) : tIf t ta tb σ H Q := h H (Ex.refl H) _ fun H1 e => by
  cases b with
  | true => exact h1 rfl H1 e
  | false => exact h2 rfl H1 e
theorem w_fld {tv ta : TE} {f : Str} {D : Ends} {σ : L2.St} {H : Hp} (h : tv σ H fun y H1 => ta σ H1 fun x H2 => ∃ a C dx fs, x = .ref a ∧ H2 a = some (.ins C dx fs) ∧ Cls K C ∧ NoAttr K C f ∧ fs.length < 1000 ∧ D.nx σ (upd H2 a (.ins C dx (putF f y fs)))) : sFld K ta tv f D σ H := h
theorem fld_end {ta : TE} {f : Str} {D : Ends} {σ : L2.St} {H1 : Hp} {a C dx : Addr} {fs : List (Str × V)} {y : V} (h : Ev ta σ H1 (.ref a)) (ho : H1 a = some (.ins C dx fs)) (c : Cls K C) (n : NoAttr K C f) (hl : fs.length < 1000) (k : ∀ H2, Ex H1 H2 → D.nx σ (upd H2 a (.ins C dx (putF f y fs)))) :
    ta σ H1 fun x H2 => ∃ a C dx fs, x = .ref a ∧ H2 a = some (.ins C dx fs) ∧ Cls K C ∧ NoAttr K C f ∧ fs.length < 1000 ∧ D.nx σ (upd H2 a (.ins C dx (putF f y fs))) :=
  Ev.go h fun H2 e2 => ⟨a, C, dx, fs, rfl, e2 _ _ ho, c, n, hl, k H2 e2⟩
/-- the row that is passed, or nothing -/
def RowArg (H : Hp) (v : V) (ns : List Int) : Prop := (v = .non ∧ ns = []) ∨ ∃ a, v = .ref a ∧ H a = some (.lst (ns.map V.int))
def spInitR (CC : Bool → Addr) (ad : Bool) : Sp := fun vs H Q _ => ∃ (r : Addr) (v : V) (ns : List Int) (dx : Addr), vs = [.ref r, v] ∧ H r = some (.ins (CC ad) dx []) ∧ RowArg H v ns ∧ ns.length ≤ 60 ∧
  ∀ L p H1, Sm [r] H H1 → H L = none → H p = none → L ≠ p → H1 r = some (.ins (CC ad) dx [("all_rows", .ref L)]) → H1 L = some (.lst [.ref p]) → H1 p = some (.lst (ns.map V.int)) → Q .non H1
theorem sc_Ridge__init : FnScope ["self", "row", "first"] ["self", "row"] (defScope s_Ridge__init) := ⟨rfl, rfl, rfl, by decide +kernel, rfl, by decide +kernel, by decide +kernel⟩
theorem ok_Ridge__init {f : Addr} {fd : FuncData} (F : FunD K "__init__" "Ridge.__init__" (defArgs s_Ridge__init) (defBody s_Ridge__init) (defScope s_Ridge__init) [.non] [] f fd) (T : Bl mg) (R : RCls K CC) (c_need_row : Cal P w K mg base 3 "need_row" (spNeedRow K)) : FnB P w K mg base 4 f fd ["self", "row"] (fun vs H Q E => ∃ ad, spInitR CC ad vs H Q E) := by
  have nd := sc_Ridge__init.nd
  refine fn_body F sc_Ridge__init (fun vs H Q E h => ?_) (fun cdv A outer s H vs Q E hr h => ?_)
  · first | (obtain ⟨rfl, _⟩ := h; rfl) | (obtain ⟨_, rfl, _⟩ := h; rfl) | (obtain ⟨_, _, rfl, _⟩ := h; rfl) | (obtain ⟨_, _, _, rfl, _⟩ := h; rfl) | (obtain ⟨_, _, _, _, rfl, _⟩ := h; rfl) | (obtain ⟨_, _, _, _, _, rfl, _⟩ := h; rfl) | (obtain ⟨_, _, _, _, _, _, rfl, _⟩ := h; rfl) | (obtain ⟨_, _, _, _, _, _, _, rfl, _⟩ := h; rfl) | (obtain ⟨_, _, _, _, _, _, _, _, rfl, _⟩ := h; rfl) | (obtain ⟨_, _, _, _, _, _, _, _, _, rfl, _⟩ := h; rfl) | (obtain ⟨_, _, _, _, _, _, _, _, _, _, rfl, _⟩ := h; rfl) | (obtain ⟨_, _, _, _, _, _, _, _, _, _, _, rfl, _⟩ := h; rfl) | (obtain ⟨_, _, _, _, _, _, _, _, _, _, _, _, rfl, _⟩ := h; rfl) | (obtain ⟨_, _, _, _, _, _, _, _, _, _, _, _, _, rfl, _⟩ := h; rfl) | (obtain ⟨_, _, _, _, _, _, _, _, _, _, _, _, _, _, rfl, _⟩ := h; rfl) | (obtain ⟨_, _, _, _, _, _, _, _, _, _, _, _, _, _, _, rfl, _⟩ := h; rfl) | (obtain ⟨_, _, _, _, _, _, _, _, _, _, _, _, _, _, _, _, rfl, _⟩ := h; rfl) | (obtain ⟨_, _, _, _, _, _, _, _, _, _, _, _, _, _, _, _, _, rfl, _⟩ := h; rfl) | (obtain ⟨_, _, _, _, _, _, _, _, _, _, _, _, _, _, _, _, _, _, rfl, _⟩ := h; rfl) | (obtain ⟨_, _, _, _, _, _, _, _, _, _, _, _, _, _, _, _, _, _, _, rfl, _⟩ := h; rfl) | (obtain ⟨_, _, _, _, _, _, _, _, _, _, _, _, _, _, _, _, _, _, _, _, rfl, _⟩ := h; rfl) | (obtain ⟨_, _, _, _, _, _, _, _, _, _, _, _, _, _, _, _, _, _, _, _, _, rfl, _⟩ := h; rfl) | (obtain ⟨_, _, _, _, _, _, _, _, _, _, _, _, _, _, _, _, _, _, _, _, _, _, rfl, _⟩ := h; rfl) | (obtain ⟨_, _, _, _, _, _, _, _, _, _, _, _, _, _, _, _, _, _, _, _, _, _, _, rfl, _⟩ := h; rfl)
  refine ⟨_, (pss_cons (ps_set (i := 2) nd rfl (.inl rfl) (pe_ifExp (pt_cmpR (op_isN1) (pv 1) pe_non (nomark _)) (pe_lst pa_nil) (pv 1)))
    (pss_cons (ps_expr (pe_c c_need_row (hr.mono (by decide)) takesD (pa_cons (pv 2) pa_nil)))
    (pss_cons (ps_if (pt_cmpR (op_gt) (pe_callB (cl_lenK K) (by rfl) T.n_len (by decide +kernel) (pa_cons (pv 2) pa_nil)) (pe_conK K (pv 0)) (nomark _)) (pss_one ps_never) pss_nil)
    (pss_one (ps_fld (pv 0) (pe_lst (pa_cons (pe_callTy (cl_listK K) (by rfl) T.n_list (by decide +kernel) (pa_cons (pv 2) pa_nil)) pa_nil)) rfl))))), ?_⟩
  obtain ⟨ad, r, v, ns, dx, rfl, hr0, hv, hz, k⟩ := h
  obtain ⟨u, hm⟩ := R.most ad
  have go : ∀ (a : Addr) (H1 : Hp), Ex H H1 → H1 a = some (.lst (ns.map V.int)) → ∀ (σ : L2.St), σ = [some (.ref r), some v, some (.ref a)] → 
      (tSeq (tDrop (tF (spNeedRow K) (WD E) (tCons (tVar 2) tNil))) (tSeq (tIfS (tTest (tOp (rI0 fun i j => .bl (decide (j < i))) (tCB (rLenS K) (tCons (tVar 2) tNil)) (tCon K (tVar 0) "MOST"))) tNever tNext) (sFld K (tVar 0) (tLst (tCons (tCB (rListS K) (tCons (tVar 2) tNil)) tNil)) "all_rows"))) { nx := fun _ H' => Q .non H', rt := Q } σ H1 := by
    rintro a H1 e1 h1 σ rfl
    refine q_drop (ev_f (ea_cons (ev_var rfl) ea_nil) (spv_needRow (sq_of h1) (by omega))) fun H2 e2 => ?_
    have h2 := e2 _ _ h1
    refine q_when (b := false) (et_is (et_test (ev_op (ev_cb (ea_cons (ev_var rfl) ea_nil) (rc_len (sq_of h2))) (ev_con (ev_var rfl) ((e1.trans e2) _ _ hr0) (R.cl ad) hm rfl) rv_I0)) (by rw [List.length_map]; exact decide_eq_false (by omega))) (fun z => nomatch z) fun _ H3 e3 => ?_
    have e03 := (e1.trans e2).trans e3
    refine w_fld (w_lst (w_cons (EvL.go (el_cb (ea_cons (ev_var rfl) ea_nil) (rcl_list (sq_of (e3 _ _ h2)))) fun p H4 hp e4 h4 => w_nil ⟨show 1 ≤ sizeLine by decide, fun L hL => ?_⟩)))
    have e04 := e03.trans e4
    have hrL : r ≠ L := ne_of_new (e04 _ _ hr0) hL
    have hpL : p ≠ L := ne_of_new h4 hL
    refine fld_end (ev_var rfl) (by rw [upd_ne hrL]; exact e04 _ _ hr0) (R.cl ad) (R.rows ad) (by decide) fun H5 e5 => ?_
    have hpr : p ≠ r := ne_of_new' (e03 _ _ hr0) hp
    refine k L p _ (((Sm.ex e04).trans (Sm.ex ((Ex.new hL).trans e5))).mut (.inl (List.mem_singleton.mpr rfl))) (fresh_back e04 hL) (fresh_back e03 hp) hpL.symm upd_same ?_ ?_
    · rw [upd_ne hrL.symm]; exact e5 _ _ upd_same
    · rw [upd_ne hpr]; exact e5 _ _ (by rw [upd_ne hpL]; exact h4)
  rcases hv with ⟨rfl, rfl⟩ | ⟨a, rfl, ha⟩
  · refine wq_asg (w_if (b := true) (et_is (et_test (ev_op (ev_var rfl) ev_c rv_isN)) rfl) (fun _ H1 e1 => EvL.go (el_lst ea_nil (by decide)) fun p H2 hp e2 h2 => go p H2 (e1.trans e2) h2 _ rfl) fun z => nomatch z)
  · refine wq_asg (w_if (b := false) (et_is (et_test (ev_op (ev_var rfl) ev_c rv_isN)) rfl) (fun z => nomatch z) fun _ H1 e1 => Ev.go (ev_var rfl) fun H2 e2 => go a H2 (e1.trans e2) ((e1.trans e2) _ _ ha) _ rfl)
def spNew (CC : Bool → Addr) (ad : Bool) : Sp := fun vs H Q _ => ∃ (r : Addr) (v : V) (ns : List Int) (dx : Addr), vs = [.ref r, v] ∧ H r = some (.ins (CC ad) dx []) ∧ RowArg H v ns ∧ ns.length ≤ 60 ∧
  ∀ L S p H1, Sm [r] H H1 → H L = none → H S = none → H p = none → L ≠ p → S ≠ p → (ad = true → L ≠ S) → (ad = false → S = L) → H1 r = some (.ins (CC ad) dx (flds ad L S)) → H1 L = some (.lst [.ref p]) → (ad = true → H1 S = some (.lst [.int 0])) → H1 p = some (.lst (ns.map V.int)) → Q .non H1
theorem new_false {vs : List V} {H : Hp} {Q : VK} {E : XK} (h : spNew CC false vs H Q E) : ∃ ad, spInitR CC ad vs H Q E := by
  obtain ⟨r, v, ns, dx, rfl, h1, h2, h3, k⟩ := h
  exact ⟨false, r, v, ns, dx, rfl, h1, h2, h3, fun L p H1 s a1 a2 a3 a4 a5 a6 => k L L p H1 s a1 a1 a2 a3 a3 (fun z => nomatch z) (fun _ => rfl) a4 a5 (fun z => nomatch z) a6⟩
theorem b_init2 {f : Addr} {fd : FuncData} (F : FunD K "__init__" "Ridge.__init__" (defArgs s_Ridge__init) (defBody s_Ridge__init) (defScope s_Ridge__init) [.non] [] f fd) : Binds K fd ["self", "row"] [] := by
  obtain ⟨ds, rv, b⟩ := F.binds1 (ps := ["self", "row"]) 2 1 (by simp) rfl fun T kV doc pm an cdv ct us its h1 h2 => match us, its, h1, h2 with | [_, _], [_], _, _ => ⟨_, rfl, rfl⟩
  cases rv
  exact b
theorem scS_SumRidge_init : FnScS ["self", "row"] ["self", "row"] (defScope s_SumRidge__init) := ⟨rfl, rfl, rfl, by decide +kernel, rfl, by decide +kernel, by decide +kernel, by decide +kernel, rfl, rfl⟩
theorem ok_SumRidge_init {f g : Addr} {fd : FuncData} {cc cda : Addr} (FS : FunS P K "__init__" "SumRidge.__init__" (defArgs s_SumRidge__init) (defBody s_SumRidge__init) (defScope s_SumRidge__init) [.non] f fd (CC true) cc cda) (T : Bl mg) (R : RCls K CC)
    (htop : (P.main.scope.names.lookup ("super" : Str)).isSome = false) (U : SupOf K (CC true) (CC true) "__init__" g) (F : Fn P w K mg base 4 g [] (fun vs H Q E => ∃ ad, spInitR CC ad vs H Q E)) : FnB P w K mg base 5 f fd ["self", "row"] (spNew CC true) := by
  refine fn_sup (by decide) FS scS_SumRidge_init (fun vs H Q E h => by obtain ⟨_, _, _, _, rfl, _⟩ := h; rfl) rfl rfl rfl htop T.n_super U F (by decide) (fun A outer s H vs Q E hr h => ?_) (fun env he => ⟨_, rfl⟩) (fun env => rfl) (fun env => rfl) (fun env he => rfl)
  obtain ⟨r, v, ns, dx, rfl, hr0, hv, hz, k⟩ := h
  refine ⟨_, _, pa_cons (pv 1) pa_nil, pss_one (ps_fld (pv 0) (pe_lst (pa_cons pe_int pa_nil)) rfl), r, dx, [], rfl, hr0, fun q hq => ?_⟩
  have hrq : r ≠ q := ne_of_new hr0 hq
  refine w_cons (Ev.go (ev_var rfl) fun H1 e1 => w_nil ⟨e1 _ _ upd_same, true, r, v, ns, dx, rfl, e1 _ _ (by rw [upd_ne hrq]; exact hr0), ?_, hz, fun L p H2 s2 a1 a2 a3 a4 a5 a6 => ?_⟩)
  · rcases hv with h | ⟨a, e, ha⟩
    · exact .inl h
    · exact .inr ⟨a, e, e1 _ _ (by rw [upd_ne (ne_of_new ha hq)]; exact ha)⟩
  · have e01 : Ex H H1 := (Ex.new hq).trans e1
    refine w_fld (EvL.go (el_lst (ea_cons ev_c ea_nil) (show 1 ≤ 100000 by decide)) fun S H3 hS e3 h3 => fld_end (ev_var rfl) (e3 _ _ a4) (R.cl true) (R.sums true) (show 1 < 1000 by decide) fun H4 e4 => ?_)
    have hS2 : H2 S = none := hS
    have hS0 : H S = none := fresh_back e01 (s2.back hS)
    have e24 := e3.trans e4
    have hSr : S ≠ r := ne_of_new' a4 hS
    refine k L S p _ ((((Sm.ex e01).trans s2).trans (Sm.ex e24)).mut (.inl (List.mem_singleton.mpr rfl))) (fresh_back e01 a1) hS0 (fresh_back e01 a2) a3 (ne_of_new' a6 hS) (fun _ => ne_of_new a5 hS) (fun z => nomatch z) (by rw [upd_same]; rfl) ?_ (fun _ => ?_) ?_
    · rw [upd_ne (ne_of_new' (e01 _ _ hr0) a1)]; exact e24 _ _ a5
    · rw [upd_ne hSr]; exact e4 _ _ h3
    · rw [upd_ne (ne_of_new' (e01 _ _ hr0) a2)]; exact e24 _ _ a6
theorem bS_init2 {f cc cda : Addr} {fd : FuncData} (F : FunS P K "__init__" "SumRidge.__init__" (defArgs s_SumRidge__init) (defBody s_SumRidge__init) (defScope s_SumRidge__init) [.non] f fd (CC true) cc cda) : Binds K fd ["self", "row"] [] := by
  obtain ⟨ds, rv, b⟩ := funS_binds1 (ps := ["self", "row"]) F 2 1 (by simp) rfl fun T kV doc pm an ct us its h1 h2 => match us, its, h1, h2 with | [_, _], [_], _, _ => ⟨_, rfl, rfl⟩
  cases rv
  exact b
theorem scS_SumRidge_go_on : FnScS ["self", "row", "vanished"] ["self", "row", "vanished"] (defScope s_SumRidge_go_on) := ⟨rfl, rfl, rfl, by decide +kernel, rfl, by decide +kernel, by decide +kernel, by decide +kernel, rfl, rfl⟩
theorem ok_SumRidge_go_on {f g : Addr} {fd : FuncData} {cc cda : Addr} (FS : FunS P K "go_on" "SumRidge.go_on" (defArgs s_SumRidge_go_on) (defBody s_SumRidge_go_on) (defScope s_SumRidge_go_on) [] f fd (CC true) cc cda) (T : Bl mg) (R : RCls K CC)
    (htop : (P.main.scope.names.lookup ("super" : Str)).isSome = false) (U : SupOf K (CC true) (CC true) "go_on" g) (F : Fn P w K mg base 1 g [] (fun vs H Q E => ∃ ad, spGoR CC ad vs H Q E)) : FnB P w K mg base 2 f fd ["self", "row", "vanished"] (spGo CC true) := by
  refine fn_sup (by decide) FS scS_SumRidge_go_on (fun vs H Q E h => by obtain ⟨_, _, _, _, _, _, _, _, _, rfl, _⟩ := h; rfl) rfl rfl rfl htop T.n_super U F (by decide) (fun A outer s H vs Q E hr h => ?_) (fun env he => ⟨_, rfl⟩) (fun env => rfl) (fun env => rfl) (fun env he => rfl)
  obtain ⟨M, r, L, S, a, ns, d, rows, sums, rfl, hR, ha, hns, hz, hl, hne, k⟩ := h
  obtain ⟨dx, h1⟩ := hR.obj
  obtain ⟨as, h2, h3⟩ := hR.lst
  have h4 := hR.sm rfl
  obtain ⟨d0, sums, rfl⟩ : ∃ d0 ss, sums = d0 :: ss := by
    cases sums with
    | nil => exact absurd (List.eq_nil_of_length_eq_zero hR.len.symm) hne
    | cons x xs => exact ⟨x, xs, rfl⟩
  refine ⟨_, _, pa_cons (pv 1) (pa_cons (pv 2) pa_nil), pss_one (ps_expr (pe_bm PySem.F.plainAttrs_list PySem.F.slot_list_append PySem.F.type_list_append mt_append (pe_fld (pv 0) rfl) (pa_cons (pe_op op_add (pe_ix (ix_listK K) (pe_fld (pv 0) rfl) (pe_un un_neg pe_int) (fun _ _ => rfl)) (pv 2)) pa_nil))), r, dx, _, rfl, h1, fun q hq => ?_⟩
  refine EvA.go (ea_cons (ev_var rfl) (ea_cons (ev_var rfl) ea_nil)) fun H1 e1 => ?_
  have e01 : Ex H H1 := (Ex.new hq).trans e1
  refine ⟨e1 _ _ upd_same, true, r, L, _, _, dx, _, _, rfl, e01 _ _ h1, flds_rows, e01 _ _ h2, by rw [List.length_map, List.length_reverse, h3.len]; omega, fun H2 e2 => ?_⟩
  have hSL := hR.ls rfl
  have hrL := hR.rL
  have e02 := e01.trans e2
  have h4' : (upd H2 L (.lst (as.reverse.map V.ref ++ [.ref a]))) S = some (.lst (((sums.reverse : List Int) ++ [d0]).map V.int)) := by
    rw [upd_ne hSL.symm, ← List.reverse_cons]; exact e02 _ _ h4
  have h1' : (upd H2 L (.lst (as.reverse.map V.ref ++ [.ref a]))) r = some (.ins (CC true) dx (flds true L S)) := by
    rw [upd_ne hrL]; exact e02 _ _ h1
  refine s_app (v := .int (d0 + d)) h4' (ev_fld (ev_var rfl) h1' (R.cl true) (R.sums true) flds_sums) (ev_op (ev_op (ev_fld (ev_var rfl) h1' (R.cl true) (R.sums true) flds_sums) (ev_un ev_c ru_neg) (rv_last (sq_of h4'))) (ev_var rfl) rv_I0) ?_ fun H3 e3 => ?_
  · have := hR.len
    rw [List.length_cons] at this
    rw [List.length_map, List.length_append, List.length_reverse, List.length_singleton]; omega
  · have s : Sm [L, S] H (upd H3 S (.lst (((sums.reverse : List Int) ++ [d0]).map V.int ++ [.int (d0 + d)]))) := (((Sm.ex e02).mut (.inl (List.mem_cons_self ..))).trans (Sm.ex e3)).mut (.inl (List.mem_cons_of_mem _ (List.mem_cons_self ..)))
    refine k _ s (hR.push s ha hns hz h3 ?_ fun _ => ?_)
    · rw [upd_ne hSL]; exact e3 _ _ upd_same
    · rw [upd_same, List.reverse_cons]; rfl
theorem scS_SumRidge_undo : FnScS ["self"] ["self"] (defScope s_SumRidge_undo) := ⟨rfl, rfl, rfl, by decide +kernel, rfl, by decide +kernel, by decide +kernel, by decide +kernel, rfl, rfl⟩
theorem ok_SumRidge_undo {f g : Addr} {fd : FuncData} {cc cda : Addr} (FS : FunS P K "undo" "SumRidge.undo" (defArgs s_SumRidge_undo) (defBody s_SumRidge_undo) (defScope s_SumRidge_undo) [] f fd (CC true) cc cda) (T : Bl mg) (R : RCls K CC)
    (htop : (P.main.scope.names.lookup ("super" : Str)).isSome = false) (U : SupOf K (CC true) (CC true) "undo" g) (F : Fn P w K mg base 1 g [] (fun vs H Q E => ∃ ad, spUndoR CC NT ad vs H Q E)) : FnB P w K mg base 2 f fd ["self"] (spUndoX CC NT true) := by
  refine fn_sup0 (by decide) FS scS_SumRidge_undo (fun vs H Q E h => by obtain ⟨_, _, _, _, _, _, _, _, rfl, _⟩ := h; rfl) rfl rfl rfl htop T.n_super U F (by decide) (fun A outer s H vs Q E hr h => ?_) (fun env he => ⟨_, rfl⟩) (fun env he => rfl)
  obtain ⟨M, r, L, S, row, rows, d, sums, rfl, hR, hk⟩ := h
  obtain ⟨dx, as, a, h1, h2, h3, h4, h5, h6⟩ := hR.top
  have hs := hR.sm rfl
  have hl := h6.len
  rw [List.map_append] at h2
  rw [List.reverse_cons, List.map_append] at hs
  refine ⟨_, pss_one (ps_expr (pe_bm0 PySem.F.plainAttrs_list PySem.F.slot_list_pop PySem.F.type_list_pop mt_pop (pe_fld (pv 0) rfl))), r, dx, _, rfl, h1, fun q hq => w_nil ⟨upd_same, ?_⟩⟩
  have e01 : Ex H (upd H q (.met g r)) := Ex.new hq
  refine ⟨true, r, L, dx, _, _, _, rfl, e01 _ _ h1, flds_rows, e01 _ _ h2, ?_⟩
  rcases hk with ⟨hne, k⟩ | ⟨rfl, k⟩
  · refine .inl ⟨fun z => hne ?_, fun H2 e2 => ?_⟩
    · have : as = [] := by simpa using z
      rw [this] at hl
      exact List.eq_nil_of_length_eq_zero hl.symm
    · have hSL := hR.ls rfl
      have e02 := e01.trans e2
      refine s_pop (by rw [upd_ne hSL.symm]; exact e02 _ _ hs) (ev_fld (ev_var rfl) (by rw [upd_ne hR.rL]; exact e02 _ _ h1) (R.cl true) (R.sums true) flds_sums) fun H3 e3 => ?_
      have s : Sm [L, S] H (upd H3 S (.lst (sums.reverse.map V.int))) := (((Sm.ex e02).mut (.inl (List.mem_cons_self ..))).trans (Sm.ex e3)).mut (.inl (List.mem_cons_of_mem _ (List.mem_cons_self ..)))
      refine k _ s (hR.pop s h6 ?_ fun _ => upd_same)
      rw [upd_ne hSL]; exact e3 _ _ upd_same
  · refine .inr ⟨?_, fun H2 e2 => k H2 (e01.trans e2)⟩
    have : as = [] := List.eq_nil_of_length_eq_zero hl
    rw [this]; rfl

end
end Pk
end

section
namespace Pk
open PySem PySem.Spec PyProof.Rows L2 Evl
section
variable {P : Program} {w : World} {K : PySem.W.Frag} {mg : Str → Option Value} {base : Heap} {CC : Bool → Addr} {NT : Addr}
/-! ### try_peel -/
def tryRows (row : List Int) (ks : List Int) : List (List Int) := ks.map fun k => peelN k.toNat row
def spTry (CC : Bool → Addr) (ad : Bool) : Sp := fun vs H Q _ => ∃ (M : List Addr) (r L S : Addr) (row : List Int) (rows : List (List Int)) (sums : List Int) (ks : List Int), vs = .ref r :: ks.map V.int ∧ RAt CC M H r L S ad (row :: rows) sums ∧ (∀ k ∈ ks, 0 ≤ k) ∧ ks.length ≤ 1000 ∧
  ∀ p as H1, H p = none → Ex H H1 → H1 p = some (.lst (as.map V.ref)) → NR H H1 as ((tryRows row ks).map fun r => r.map V.int) → p ∉ as → Q (.ref p) H1
/-- behind the binding: the numbers are a tuple -/
def spTryB (CC : Bool → Addr) : Sp := fun vs H Q _ => ∃ (ad : Bool) (M : List Addr) (r L S t : Addr) (row : List Int) (rows : List (List Int)) (sums : List Int) (ks : List Int), vs = [.ref r, .ref t] ∧ H t = some (.tup (ks.map V.int)) ∧ RAt CC M H r L S ad (row :: rows) sums ∧ (∀ k ∈ ks, 0 ≤ k) ∧ ks.length ≤ 1000 ∧
  ∀ p as H1, H p = none → Ex H H1 → H1 p = some (.lst (as.map V.ref)) → NR H H1 as ((tryRows row ks).map fun r => r.map V.int) → p ∉ as → Q (.ref p) H1
theorem try_imp {ad : Bool} {vs : List V} {H : Hp} {Q : VK} {E : XK} (h : spTry CC ad vs H Q E) : ∃ ws rest, vs = ws ++ rest ∧ ws.length = ["self"].length ∧ rest.length ≤ sizeLine ∧ ∀ p, H p = none → spTryB CC (ws ++ [V.ref p]) (upd H p (.tup rest)) Q E := by
  obtain ⟨M, r, L, S, row, rows, sums, ks, rfl, hR, hk, hl, q⟩ := h
  exact ⟨[.ref r], ks.map V.int, rfl, rfl, by rw [List.length_map]; exact sz_of (by omega), fun p hp => ⟨ad, M, r, L, S, p, row, rows, sums, ks, rfl, upd_same, hR.ex (Ex.new hp), hk, hl, fun q1 as H1 g1 g2 g3 g4 g5 => q q1 as H1 (fresh_back (Ex.new hp) g1) ((Ex.new hp).trans g2) g3 (g4.back (Ex.new hp)) g5⟩⟩

end
end Pk
end

section
namespace Pk
open PySem PySem.Spec PyProof.Rows L2 Evl
section
variable {P : Program} {w : World} {K : PySem.W.Frag} {mg : Str → Option Value} {base : Heap} {CC : Bool → Addr} {NT : Addr}
/-! ### rules for code with effects -/
theorem w_fE {sp : Sp} {W : L2.WX} {A : TA} {σ : L2.St} {H : Hp} {Q : VK} (h : A σ H fun vs H1 => sp vs H1 Q (WE W σ)) : tF sp W A σ H Q := h
theorem w_forR {ta : TA} {g : TG} {tu : TS} {D : Ends} {σ : L2.St} {H : Hp} (h : ta σ H fun vs H1 => ∃ j : Int, vs = [.int j] ∧ -(2 ^ 62) ≤ j ∧ j < 2 ^ 62 ∧ tFor (fun _ H' R => R (Itr 0 j.toNat) H') g tu D σ H1) : tFor (iRng1 ta) g tu D σ H := h
theorem rng_go {n j : Nat} {tu : TS} {D : Ends} {σ : L2.St} {H1 : Hp} (Pv : Nat → L2.St → Hp → Prop) (h0 : Pv 0 σ H1)
    (hs : ∀ (i : Nat) σ' H', i < n → Pv i σ' H' → tu { D with nx := Pv (i + 1), ct := Pv (i + 1), bk := D.nx } (σ'.set j (some (.int (i : Int)))) H') (hd : ∀ σ' H', Pv n σ' H' → D.nx σ' H') : tFor (fun _ H' R => R (Itr 0 n) H') (gName j) tu D σ H1 :=
  for_range (lo := 0) (n := n) Pv h0 (fun i σ' H' hi p => by
    have e0 : (0 : Int) + (i : Int) = (i : Int) := Int.zero_add _
    show tu { D with nx := Pv (i + 1), ct := Pv (i + 1), bk := D.nx } (σ'.set j (some (.int ((0 : Int) + (i : Int))))) H'
    rw [e0]
    exact hs i σ' H' hi p) hd
theorem w_ifS {t : TT} {tu tw : TS} {D : Ends} {σ : L2.St} {H : Hp} (h : t σ H fun b H1 => if b = true then tu D σ H1 else tw D σ H1) : tIfS t tu tw D σ H := h
theorem wq_ifS {t : TT} {tu tw tz : TS} {D : Ends} {σ : L2.St} {H : Hp} (h : t σ H fun b H1 => if b = true then tu { D with nx := tz D } σ H1 else tw { D with nx := tz D } σ H1) : tSeq (tIfS t tu tw) tz D σ H := h
theorem wt_or {t u : TT} {σ : L2.St} {H : Hp} {R : Bool → Hp → Prop} (h : t σ H fun c H1 => if c = true then R true H1 else u σ H1 R) : tOr t u σ H R := h
theorem wt_not {t : TT} {σ : L2.St} {H : Hp} {R : Bool → Hp → Prop} (h : t σ H fun c H1 => R (!c) H1) : tNot t σ H R := h
theorem wt_B {te : TE} {σ : L2.St} {H : Hp} {R : Bool → Hp → Prop} (h : te σ H fun x H1 => ∃ c, x = .bl c ∧ R c H1) : tB te σ H R := h
theorem wt_test {te : TE} {σ : L2.St} {H : Hp} {R : Bool → Hp → Prop} (h : te σ H fun x H1 => ∃ c, x = .bl c ∧ R c H1) : tTest te σ H R := h
theorem g_three {σ : L2.St} {i j l : Nat} {p : Addr} {u v w : V} {H : Hp} {Q : L2.St → Hp → Prop} (h : H p = some (.tup [u, v, w])) (q : Q (((σ.set i (some u)).set j (some v)).set l (some w)) H) : gTup K 3 (gCons (gName i) (gCons (gName j) (gCons (gName l) gNil))) (.ref p) σ H Q :=
  ⟨p, _, rfl, SqT.of h, rfl, u, [v, w], rfl, v, [w], rfl, w, [], rfl, rfl, q⟩
/-- what was new when it began is no part of what was there -/
theorem Sm.allNew {M : List Addr} {H H1 : Hp} (s : Sm M H H1) (h : ∀ x ∈ M, H x = none) : Ex H H1 := fun a o e => s.1 a o (fun z => by rw [h a z] at e; cases e) e
theorem if_go_f {b : Bool} {A B : Prop} (h : b = false) (k : B) : if b = true then A else B := by subst h; exact k
theorem w_mk {C : Addr} {sp : Sp} {W : L2.WX} {t : TA} {σ : L2.St} {H : Hp} {Q : VK} (h : t σ H fun vs H1 => tMk C sp W (fun _ H' R => R vs H') σ H1 Q) : tMk C sp W t σ H Q := h
theorem ea_const {σ : L2.St} {H : Hp} {vs : List V} : EvA (fun _ H' R => R vs H') σ H vs := fun H1 _ Q q => q H1 (Ex.refl H1)

end
end Pk
end

section
namespace Pk
open PySem PySem.Spec PyProof.Rows L2 Evl
section
variable {P : Program} {w : World} {K : PySem.W.Frag} {mg : Str → Option Value} {base : Heap} {CC : Bool → Addr} {NT : Addr}
/-! ### rows_so_far -/
theorem NR.zero {H : Hp} {as : List Addr} {xss : List (List V)} (h : NR H H as xss) : as = [] := by
  cases as with
  | nil => rfl
  | cons a as =>
    obtain ⟨z1, xs, z2⟩ := h.mem (List.mem_cons_self ..)
    rw [z1] at z2; cases z2
def spRowsG (CC : Bool → Addr) (ad : Bool) : SpG := fun vs H Q _ => ∃ (M : List Addr) (r L S : Addr) (rows : List (List Int)) (sums : List Int), vs = [.ref r] ∧ RAt CC M H r L S ad rows sums ∧ rows.length ≤ 80000 ∧
  ∀ as H1, Ex H H1 → NR H H1 as (rows.reverse.map fun r => r.map V.int) → Q (as.map V.ref) H1
theorem RowsAt.at_ {M : List Addr} {H : Hp} : ∀ {as : List Addr} {rows : List (List Int)} {i : Nat} {a : Addr}, RowsAt M H as rows → as[i]? = some a → ∃ ns, rows[i]? = some ns ∧ H a = some (.lst (ns.map V.int))
  | _, _, 0, _, .cons h1 h2 h, e => by cases e; exact ⟨_, rfl, h2⟩
  | _, _, i + 1, _, .cons h1 h2 h, e => h.at_ (i := i) e
theorem getElem?_rev {α : Type} {xs : List α} {i : Nat} {x : α} (h : xs.reverse[i]? = some x) : i < xs.length ∧ xs[xs.length - 1 - i]? = some x := by
  have hi := (List.getElem?_eq_some_iff.mp h).1
  rw [List.length_reverse] at hi
  refine ⟨hi, ?_⟩
  rw [List.getElem?_reverse hi] at h
  exact h
theorem sc_Ridge_rows_so_far : GScope ["self", "row"] ["self"] (defScope s_Ridge_rows_so_far) := ⟨rfl, rfl, rfl, by decide +kernel, rfl, by decide +kernel, by decide +kernel⟩
theorem ok_Ridge_rows_so_far {f : Addr} {fd : FuncData} (F : FunD K "rows_so_far" "Ridge.rows_so_far" (defArgs s_Ridge_rows_so_far) (defBody s_Ridge_rows_so_far) (defScope s_Ridge_rows_so_far) [] [] f fd) (T : Bl mg) (R : RCls K CC)  : GFn P w K mg base 1 f fd ["self"] (fun vs H Q E => ∃ ad, spRowsG CC ad vs H Q E) := by
  have nd := sc_Ridge_rows_so_far.nd
  refine gfn_ofD F sc_Ridge_rows_so_far (fun vs H Q E h => ?_) (fun cdv A outer s H vs Q E pn hr h => ?_)
  · first | (obtain ⟨rfl, _⟩ := h; rfl) | (obtain ⟨_, rfl, _⟩ := h; rfl) | (obtain ⟨_, _, rfl, _⟩ := h; rfl) | (obtain ⟨_, _, _, rfl, _⟩ := h; rfl) | (obtain ⟨_, _, _, _, rfl, _⟩ := h; rfl) | (obtain ⟨_, _, _, _, _, rfl, _⟩ := h; rfl) | (obtain ⟨_, _, _, _, _, _, rfl, _⟩ := h; rfl) | (obtain ⟨_, _, _, _, _, _, _, rfl, _⟩ := h; rfl) | (obtain ⟨_, _, _, _, _, _, _, _, rfl, _⟩ := h; rfl) | (obtain ⟨_, _, _, _, _, _, _, _, _, rfl, _⟩ := h; rfl) | (obtain ⟨_, _, _, _, _, _, _, _, _, _, rfl, _⟩ := h; rfl) | (obtain ⟨_, _, _, _, _, _, _, _, _, _, _, rfl, _⟩ := h; rfl) | (obtain ⟨_, _, _, _, _, _, _, _, _, _, _, _, rfl, _⟩ := h; rfl) | (obtain ⟨_, _, _, _, _, _, _, _, _, _, _, _, _, rfl, _⟩ := h; rfl) | (obtain ⟨_, _, _, _, _, _, _, _, _, _, _, _, _, _, rfl, _⟩ := h; rfl) | (obtain ⟨_, _, _, _, _, _, _, _, _, _, _, _, _, _, _, rfl, _⟩ := h; rfl) | (obtain ⟨_, _, _, _, _, _, _, _, _, _, _, _, _, _, _, _, rfl, _⟩ := h; rfl) | (obtain ⟨_, _, _, _, _, _, _, _, _, _, _, _, _, _, _, _, _, rfl, _⟩ := h; rfl) | (obtain ⟨_, _, _, _, _, _, _, _, _, _, _, _, _, _, _, _, _, _, rfl, _⟩ := h; rfl) | (obtain ⟨_, _, _, _, _, _, _, _, _, _, _, _, _, _, _, _, _, _, _, rfl, _⟩ := h; rfl) | (obtain ⟨_, _, _, _, _, _, _, _, _, _, _, _, _, _, _, _, _, _, _, _, rfl, _⟩ := h; rfl) | (obtain ⟨_, _, _, _, _, _, _, _, _, _, _, _, _, _, _, _, _, _, _, _, _, rfl, _⟩ := h; rfl) | (obtain ⟨_, _, _, _, _, _, _, _, _, _, _, _, _, _, _, _, _, _, _, _, _, _, rfl, _⟩ := h; rfl) | (obtain ⟨_, _, _, _, _, _, _, _, _, _, _, _, _, _, _, _, _, _, _, _, _, _, _, rfl, _⟩ := h; rfl)
  refine ⟨_, (gss_cons (gs_for owns_gcx rfl (pi_listK K (by rfl) (pe_fldK K (pv 0))) (pg_name (i := 1) nd rfl (.inl rfl)) (gss_cons (gs_yield (pe_callTy (cl_listK K) (by rfl) T.n_list (by decide +kernel) (pa_cons (pv 1) pa_nil))) gss_nil)) gss_nil), ?_⟩
  obtain ⟨ad, M, r, L, S, rows, sums, rfl, hR, hl, q⟩ := h
  obtain ⟨dx, h1⟩ := hR.obj
  obtain ⟨as, h2, h3⟩ := hR.lst
  have h4 := h3.len
  refine qg_forL (ev_fld (ev_var rfl) h1 (R.cl ad) (R.rows ad) flds_rows) (sq_of h2) (fun i ys σ' H' => ∃ o2 bs, σ' = [some (.ref r), o2] ∧ Ex H H' ∧ ys = bs.map V.ref ∧ NR H H' bs ((rows.reverse.take i).map fun r => r.map V.int)) (fun H1 e1 => ⟨none, [], rfl, e1, rfl, .nil⟩) ?_ ?_ ?_
  · rintro i ys σ' H' hi ⟨o2, bs, rfl, e, _⟩
    exact sq_of (e _ _ h2)
  · rintro i x ys σ' H' hx ⟨o2, bs, rfl, e, rfl, nr⟩
    obtain ⟨a, ha, rfl⟩ := get_map hx
    obtain ⟨hi, ha'⟩ := getElem?_rev ha
    obtain ⟨ns, hn, hh⟩ := h3.at_ ha'
    have hn2 : rows.reverse[i]? = some ns := by
      rw [List.getElem?_reverse (by omega)]
      rw [← h4]; exact hn
    refine ⟨sz_lt (by rw [List.length_map, nr.len, List.length_map, List.length_take, List.length_reverse]; omega), ?_⟩
    refine EvL.go (el_cb (ea_cons (ev_var rfl) ea_nil) (rcl_list (sq_of (e _ _ hh)))) fun p H1 hp e1 hh1 => ?_
    refine ⟨_, bs ++ [p], rfl, e.trans e1, by rw [List.map_append]; rfl, ?_⟩
    rw [List.take_add_one, hn2, List.map_append]
    refine (nr.ex e1).snoc (fresh_back e hp) hh1 fun z => ?_
    obtain ⟨_, xs, e4⟩ := nr.mem z
    rw [hp] at e4; cases e4
  · rintro ys σ' H' ⟨o2, bs, rfl, e, rfl, nr⟩
    refine q bs H' e ?_
    rw [List.length_map, List.length_reverse, h4, ← List.length_reverse, List.take_length] at nr
    exact nr
theorem ell_rows {M : List Addr} {H : Hp} {r L S : Addr} {ad : Bool} {rows : List (List Int)} {sums : List Int} {σ : L2.St} {te : TE} (h : RAt CC M H r L S ad rows sums) (hl : rows.length ≤ 80000) (he : Ev te σ H (.ref r)) :
    EvLL (tListM CC "rows_so_far" (spRowsG CC) te) σ H (rows.reverse.map fun r => r.map V.int) := by
  obtain ⟨dx, ho⟩ := h.obj
  exact ell_listM ad he ho (by cases ad <;> rfl) fun H1 e Q q => ⟨M, r, L, S, rows, sums, rfl, h.ex e, hl, fun as H2 e2 nr => q as H2 e2 nr⟩

end
end Pk
end

section
namespace Pk
open PySem PySem.Spec PyProof.Rows L2 Evl
section
variable {P : Program} {w : World} {K : PySem.W.Frag} {mg : Str → Option Value} {base : Heap} {CC : Bool → Addr} {NT : Addr}
/-! ### a new ridge -/
/-- a new ridge -/
theorem mk_go {ad : Bool} {W : L2.WX} {t : TA} {σ : L2.St} {H : Hp} {Q : VK} {v : V} {ns : List Int} {M : List Addr} (hA : EvA t σ H [v]) (hv : RowArg H v ns) (hz : ns.length ≤ 60) (hD : Dom M H)
    (k : ∀ r L S H1, Ex H H1 → H r = none → H L = none → H S = none → RAt CC (r :: L :: S :: M) H1 r L S ad [ns] [0] → Q (.ref r) H1) : tMk (CC ad) (spNew CC ad) W t σ H Q := by
  refine EvA.go hA fun H1 e1 r dx hr hdx hne => ?_
  have e2 : Ex H1 (upd (upd H1 dx (.own r)) r (.ins (CC ad) dx [])) := (Ex.mut (Ex.new hdx) hr)
  refine ⟨r, v, ns, dx, rfl, upd_same, ?_, hz, fun L S p H2 s aL aS ap nLp nSp nLS nSL h1 h2 h3 h4 => ⟨rfl, ?_⟩⟩
  · rcases hv with h | ⟨a, e, ha⟩
    · exact .inl h
    · exact .inr ⟨a, e, (e1.trans e2) _ _ ha⟩
  have e12 : Ex H1 H2 := ((Sm.ex e2).trans s).drop hr |>.toEx
  have e02 := e1.trans e12
  have f : ∀ {x : Addr}, upd (upd H1 dx (.own r)) r (.ins (CC ad) dx []) x = none → H x = none := fun h => fresh_back (e1.trans e2) h
  have hrL : r ≠ L := fun z => by rw [← z, upd_same] at aL; cases aL
  have hrS : r ≠ S := fun z => by rw [← z, upd_same] at aS; cases aS
  have hrp : r ≠ p := fun z => by rw [← z, upd_same] at ap; cases ap
  refine k r L S H2 e02 (fresh_back e1 hr) (f aL) (f aS) ⟨⟨dx, h1⟩, ⟨[p], h2, .cons ?_ h4 .nil⟩, h3, rfl, ⟨by simp, by simp, by simp⟩, nLS, hrS, nSL, fun x hx => by rw [List.mem_singleton.mp hx]; exact hz⟩
  simp only [List.mem_cons, not_or]
  exact ⟨hrp.symm, nLp.symm, nSp.symm, hD.new (f ap)⟩

end
end Pk
end

section
namespace Pk
open PySem PySem.Spec PyProof.Rows L2 Evl
section
variable {P : Program} {w : World} {K : PySem.W.Frag} {mg : Str → Option Value} {base : Heap} {CC : Bool → Addr} {NT : Addr}
/-! ### a ridge is made -/
def spMade (CC : Bool → Addr) : Sp := fun vs H Q _ => ∃ (b : Addr) (n most : Nat) (M : List Addr), vs = [.ref b, .int (most : Int)] ∧ BarAt H b n ∧ n ≤ 10000000 ∧ most ≤ 60 ∧ Dom M H ∧ b ∈ M ∧
  ∀ (t r L S a : Addr) (ad : Bool) (ns : List Int) H1, Sm [b] H H1 → BarAt H1 b (n + 500) → H r = none → H L = none → H S = none → H a = none → a ∉ [r, L, S] → RAt CC (r :: L :: S :: M) H1 r L S ad [ns] [0] → H1 a = some (.lst (ns.map V.int)) → (∀ x ∈ ns, Sz x) → ns.length ≤ most →
    H1 t = some (.tup [.ref r, .ref a, .bl ad]) → Q (.ref t) H1
theorem sc_law_made : FnScope ["barrel", "most", "row", "adds"] ["barrel", "most"] (defScope s_law_made) := ⟨rfl, rfl, rfl, by decide +kernel, rfl, by decide +kernel, by decide +kernel⟩
theorem ok_law_made {f : Addr} {fd : FuncData} (F : FnP K "_law_made" s_law_made f fd) (g : mg "_law_made" = some (.ref f)) (T : Bl mg) (c_law_draw : Cal P w K mg base 1 "_law_draw" spDraw) (c_law_entries : Cal P w K mg base 2 "_law_entries" spEntries) (R : RCls K CC) (c_SumRidge : CalC P w K mg base 5 "SumRidge" (CC true) (spNew CC true)) (c_Ridge : CalC P w K mg base 5 "Ridge" (CC false) (spNew CC false)) : Cal P w K mg base 7 "_law_made" (spMade CC) := by
  have nd := sc_law_made.nd
  refine cal_of F.kp g (F.bindsN fun _ _ _ _ _ _ us hl => match us, hl with | [_, _], _ => rfl) (fn_body F sc_law_made (fun vs H Q E h => ?_) (fun cdv A outer s H vs Q E hr h => ?_))
  · first | (obtain ⟨rfl, _⟩ := h; rfl) | (obtain ⟨_, rfl, _⟩ := h; rfl) | (obtain ⟨_, _, rfl, _⟩ := h; rfl) | (obtain ⟨_, _, _, rfl, _⟩ := h; rfl) | (obtain ⟨_, _, _, _, rfl, _⟩ := h; rfl) | (obtain ⟨_, _, _, _, _, rfl, _⟩ := h; rfl) | (obtain ⟨_, _, _, _, _, _, rfl, _⟩ := h; rfl) | (obtain ⟨_, _, _, _, _, _, _, rfl, _⟩ := h; rfl) | (obtain ⟨_, _, _, _, _, _, _, _, rfl, _⟩ := h; rfl) | (obtain ⟨_, _, _, _, _, _, _, _, _, rfl, _⟩ := h; rfl) | (obtain ⟨_, _, _, _, _, _, _, _, _, _, rfl, _⟩ := h; rfl) | (obtain ⟨_, _, _, _, _, _, _, _, _, _, _, rfl, _⟩ := h; rfl) | (obtain ⟨_, _, _, _, _, _, _, _, _, _, _, _, rfl, _⟩ := h; rfl) | (obtain ⟨_, _, _, _, _, _, _, _, _, _, _, _, _, rfl, _⟩ := h; rfl) | (obtain ⟨_, _, _, _, _, _, _, _, _, _, _, _, _, _, rfl, _⟩ := h; rfl) | (obtain ⟨_, _, _, _, _, _, _, _, _, _, _, _, _, _, _, rfl, _⟩ := h; rfl) | (obtain ⟨_, _, _, _, _, _, _, _, _, _, _, _, _, _, _, _, rfl, _⟩ := h; rfl) | (obtain ⟨_, _, _, _, _, _, _, _, _, _, _, _, _, _, _, _, _, rfl, _⟩ := h; rfl) | (obtain ⟨_, _, _, _, _, _, _, _, _, _, _, _, _, _, _, _, _, _, rfl, _⟩ := h; rfl) | (obtain ⟨_, _, _, _, _, _, _, _, _, _, _, _, _, _, _, _, _, _, _, rfl, _⟩ := h; rfl) | (obtain ⟨_, _, _, _, _, _, _, _, _, _, _, _, _, _, _, _, _, _, _, _, rfl, _⟩ := h; rfl) | (obtain ⟨_, _, _, _, _, _, _, _, _, _, _, _, _, _, _, _, _, _, _, _, _, rfl, _⟩ := h; rfl) | (obtain ⟨_, _, _, _, _, _, _, _, _, _, _, _, _, _, _, _, _, _, _, _, _, _, rfl, _⟩ := h; rfl) | (obtain ⟨_, _, _, _, _, _, _, _, _, _, _, _, _, _, _, _, _, _, _, _, _, _, _, rfl, _⟩ := h; rfl)
  refine ⟨_, (pss_cons (ps_par (i := 2) (j := 3) rfl nd rfl rfl (by decide) rfl rfl (pa_cons (pe_c c_law_entries (hr.mono (by decide)) takesD (pa_cons (pv 0) (pa_cons (pv 1) pa_nil))) (pa_cons (pe_cmpR (op_eq) (pe_c c_law_draw (hr.mono (by decide)) takesD (pa_cons (pv 0) (pa_cons pe_int pa_nil))) pe_int (nomark _)) pa_nil)) (by rfl))
    (pss_one (ps_ret (pe_tup (pa_cons (pe_ifExp (pt_val (pv 3)) (pe_mkC c_SumRidge (hr.mono (by decide)) takesD (pa_cons (pv 2) pa_nil)) (pe_mkC c_Ridge (hr.mono (by decide)) takesD (pa_cons (pv 2) pa_nil))) (pa_cons (pv 2) (pa_cons (pv 3) pa_nil))))))), ?_⟩
  obtain ⟨b, n, most, M, rfl, hb, hn, hm, hD, hbM, k⟩ := h
  refine wq_par (w_cons (w_f (ea_cons (ev_var rfl) (ea_cons (ev_var rfl) ea_nil)) fun H1 e1 => ⟨b, n, most, rfl, hb.mono e1, by omega, by omega, fun a ns H2 s2 hb2 ha ha2 hl hz => ?_⟩))
  refine w_cons (w_op (draw_go (ea_cons (ev_var rfl) (ea_cons ev_c ea_nil)) hb2 (by omega) (by decide) (by decide +kernel) fun c H3 s3 hb3 hc => Ev.go ev_c fun H4 e4 => RV.go rv_eqI fun H5 e5 => w_nil ⟨_, _, rfl, ?_⟩))
  have hab : a ≠ b := ((hb.mono e1).ne ha).symm
  have ha5 : H5 a = some (.lst (ns.map V.int)) := e5 _ _ (e4 _ _ (s3.at (not_one hab) ha2))
  have s05 : Sm [b] H H5 := ((Sm.ex e1).trans s2).trans (s3.trans (Sm.ex (e4.trans e5)))
  have hb5 := hb3.mono (e4.trans e5)
  have hD5 := hD.mono s05
  generalize decide ((c : Int) = 0) = ad
  have fin : ∀ r L S H7, Ex H5 H7 → H5 r = none → H5 L = none → H5 S = none → RAt CC (r :: L :: S :: M) H7 r L S ad [ns] [0] →
      tCons (tVar 2) (tCons (tVar 3) tNil) [some (.ref b), some (.int (most : Int)), some (.ref a), some (.bl ad)] H7 (fun vs H8 => (.ref r :: vs).length ≤ sizeLine ∧ ∀ p, H8 p = none → Q (.ref p) (upd H8 p (.tup (.ref r :: vs)))) := fun r L S H7 e7 hr hL hS hR => EvA.go (ea_cons (ev_var rfl) (ea_cons (ev_var rfl) ea_nil)) fun H8 e8 => ⟨show 3 ≤ sizeLine by decide, fun t ht => by
    have e58 := (e7.trans e8).trans (Ex.new (o := .tup [.ref r, .ref a, .bl ad]) ht)
    refine k t r L S a ad ns _ (s05.trans (Sm.ex e58)) ((hb5.mono e58).le (by omega)) (s05.back hr) (s05.back hL) (s05.back hS) (fresh_back e1 ha) ?_ (hR.ex (e8.trans (Ex.new ht))) (e58 _ _ ha5) hz hl upd_same
    simp only [List.mem_cons, List.not_mem_nil, or_false, not_or]
    exact ⟨ne_of_new ha5 hr, ne_of_new ha5 hL, ne_of_new ha5 hS⟩⟩
  refine w_ret (w_tup (w_cons (w_if (b := ad) (et_B (ev_var rfl)) (fun h1 H6 e6 => ?_) (fun h1 H6 e6 => ?_))))
  · subst h1
    exact mk_go (ea_cons (ev_var rfl) ea_nil) (.inr ⟨a, rfl, e6 _ _ ha5⟩) (by omega) (hD5.mono (Sm.ex (M := []) e6)) fun r L S H7 e7 hr hL hS hR => fin r L S H7 (e6.trans e7) (fresh_back e6 hr) (fresh_back e6 hL) (fresh_back e6 hS) hR
  · subst h1
    exact mk_go (ea_cons (ev_var rfl) ea_nil) (.inr ⟨a, rfl, e6 _ _ ha5⟩) (by omega) (hD5.mono (Sm.ex (M := []) e6)) fun r L S H7 e7 hr hL hS hR => fin r L S H7 (e6.trans e7) (fresh_back e6 hr) (fresh_back e6 hL) (fresh_back e6 hS) hR

end
end Pk
end

section
namespace Pk
open PySem PySem.Spec PyProof.Rows L2 Evl
section
variable {P : Program} {w : World} {K : PySem.W.Frag} {mg : Str → Option Value} {base : Heap} {CC : Bool → Addr} {NT : Addr}
/-! ### the state -/
theorem St.sums {M : List Addr} {H : Hp} {b r L S q : Addr} {ad : Bool} {rows : List (List Int)} {sums : List Int} {n : Nat} (h : St CC M H b r L S q ad rows sums n) (hne : rows ≠ []) : ∃ row rs d ss, rows = row :: rs ∧ sums = d :: ss := by
  have hl := h.rat.len
  cases rows with
  | nil => exact absurd rfl hne
  | cons row rs =>
    cases sums with
    | nil => cases hl
    | cons d ss => exact ⟨_, _, _, _, rfl, rfl⟩
/-- the row that is passed and 0 as the first entry of the list of rows so far -/
theorem st_start {H H1 : Hp} {b r L S q a t : Addr} {ad : Bool} {ns : List Int} {n : Nat} (hb : BarAt H b n) (hR : RAt CC (r :: L :: S :: [b]) H r L S ad [ns] [0]) (ha : H a = some (.lst (ns.map V.int))) (hne : a ∉ [r, L, S]) (hab : a ≠ b) (hbr : b ∉ [r, L, S]) (hz : ∀ x ∈ ns, Sz x)
    (hD : Dom (r :: L :: S :: [b]) H) (hq : H q = none) (ht : H t = none) (e : Ex H H1) (hq1 : H1 q = some (.lst [.ref t])) (ht1 : H1 t = some (.tup [.ref a, .int 0])) : St CC (q :: r :: L :: S :: [b]) H1 b r L S q ad [ns] [0] n := by
  have hqM := hD.new hq
  have htM := hD.new ht
  have hqa : q ≠ a := ne_of_new' ha hq
  have hqt : q ≠ t := ne_of_kind hq1 ht1 (by simp)
  refine ⟨hb.mono e, (hR.addM hq).ex e, ⟨⟨[t], hq1, .cons (fun z => (List.mem_cons.mp z).elim hqt.symm htM) ht1 (fun z => (List.mem_cons.mp z).elim hqa.symm fun z => ?_) (e _ _ ha) .nil⟩, List.mem_cons_self ..⟩, fun x hx => ?_, by simp, fun z => ?_, fun z => hqM ?_, fun x hx => by rw [List.mem_singleton.mp hx]; exact hz⟩
  · simp only [List.mem_cons, List.not_mem_nil, or_false] at z hne
    rcases z with z | z | z | z
    · exact hne (.inl z)
    · exact hne (.inr (.inl z))
    · exact hne (.inr (.inr z))
    · exact hab z
  · rcases List.mem_cons.mp hx with rfl | hx
    · rw [hq1]; simp
    · exact fun z => hD x hx (fresh_back e z)
  · simp only [List.mem_cons, List.not_mem_nil, or_false] at z hbr
    rcases z with z | z | z | z
    · exact hbr (.inl z)
    · exact hbr (.inr (.inl z))
    · exact hbr (.inr (.inr z))
    · rw [z] at hb; exact absurd hq (by obtain ⟨o, h⟩ := hb.some; rw [h]; simp)
  · simp only [List.mem_cons, List.not_mem_nil, or_false] at z ⊢
    rcases z with z | z | z
    · exact .inl z
    · exact .inr (.inl z)
    · exact .inr (.inr (.inl z))

end
end Pk
end

section
namespace Pk
open PySem PySem.Spec PyProof.Rows L2 Evl
section
variable {P : Program} {w : World} {K : PySem.W.Frag} {mg : Str → Option Value} {base : Heap} {CC : Bool → Addr} {NT : Addr}
/-! ### a step -/
def spStep (CC : Bool → Addr) : Sp := fun vs H Q _ => ∃ (M : List Addr) (b r L S q : Addr) (ad : Bool) (n : Nat) (row : List Int) (rows : List (List Int)) (d : Int) (sums : List Int), vs = [.ref b, .ref r, .ref q] ∧ St CC M H b r L S q ad (row :: rows) (d :: sums) n ∧ n ≤ 100000000 ∧ rows.length ≤ 60000 ∧
  ∀ (rows2 : List (List Int)) (sums2 : List Int) H1, Sm [b, L, S, q] H H1 → St CC M H1 b r L S q ad rows2 sums2 (n + 20) → rows2 ≠ [] → rows2.length ≤ rows.length + 2 → Q (.bl true) H1
theorem peel1_sz {row : List Int} {k : Nat} (h : ∀ x ∈ row, Sz x) : ∀ x ∈ peelN k row, Sz x := fun x hx => h x (peelN_mem hx)
theorem mem_take' {l : List Int} {i : Nat} {x : Int} (h : x ∈ l.take i) : x ∈ l := List.mem_of_mem_take h
theorem ins_sz {row : List Int} {i : Nat} {e : Int} (h : ∀ x ∈ row, Sz x) (he : Sz e) : ∀ x ∈ insR row i e, Sz x := fun x hx => by
  unfold insR at hx
  rcases List.mem_append.mp hx with hx | hx
  · rcases List.mem_append.mp hx with hx | hx
    · exact h x (List.mem_of_mem_take hx)
    · rw [List.mem_singleton.mp hx]; exact he
  · exact h x (List.mem_of_mem_drop hx)
theorem set_sz {row : List Int} {i : Nat} {e : Int} (h : ∀ x ∈ row, Sz x) (he : Sz e) : ∀ x ∈ setR row i e, Sz x := fun x hx => by
  unfold setR at hx
  rcases List.mem_append.mp hx with hx | hx
  · rcases List.mem_append.mp hx with hx | hx
    · exact h x (List.mem_of_mem_take hx)
    · rw [List.mem_singleton.mp hx]; exact he
  · exact h x (List.mem_of_mem_drop hx)
theorem del_sz {row : List Int} {i : Nat} (h : ∀ x ∈ row, Sz x) : ∀ x ∈ delR row i, Sz x := fun x hx => by
  unfold delR at hx
  rcases List.mem_append.mp hx with hx | hx
  · exact h x (List.mem_of_mem_take hx)
  · exact h x (List.mem_of_mem_drop hx)
theorem zs_cons {nw : List Int} {rows : List (List Int)} (h1 : ∀ x ∈ nw, Sz x) (h : ∀ row ∈ rows, ∀ x ∈ row, Sz x) : ∀ row ∈ nw :: rows, ∀ x ∈ row, Sz x := fun row hr => by
  rcases List.mem_cons.mp hr with rfl | hr
  · exact h1
  · exact h row hr
theorem sm_after {M : List Addr} {b L S q : Addr} {H H1 H2 H3 : Hp} (s1 : Sm [b] H H1) (s2 : Sm [q] H1 H2) (s3 : Sm [L, S] H2 H3) : Sm [b, L, S, q] H H3 := ((sm_b s1).trans (sm_q s2)).trans (sm_LS s3)
theorem natval {v : V} {xs : List V} {i : Nat} {p : Int → Prop} (h : xs[i]? = some v) (hx : ∀ x ∈ xs, ∃ n : Nat, x = .int (n : Int) ∧ p n) : ∃ n : Nat, v = .int (n : Int) ∧ p n := hx v (List.mem_of_getElem? h)
theorem val_pick {v : V} {v1 v2 i : Nat} (hv : [V.int (v1 : Int), V.int (v2 : Int)][i]? = some v) (h1 : (v1 : Int) < 9) (h2 : (v2 : Int) < 10 ^ (30 : Int).toNat) : ∃ m : Nat, v = .int (m : Int) ∧ Sz m := by
  have e30 : (10 : Int) ^ (30 : Int).toNat = 1000000000000000000000000000000 := by decide +kernel
  rw [e30] at h2
  have hm := List.mem_of_getElem? hv
  rcases List.mem_cons.mp hm with rfl | hm
  · exact ⟨v1, rfl, szI (by omega) (by omega)⟩
  · rw [List.mem_singleton.mp hm]
    exact ⟨v2, rfl, szI (by omega) (by omega)⟩
theorem spot_pick {v : V} {i1 l j : Nat} (hv : [V.int (i1 : Int), V.int (l : Int), V.int 0][j]? = some v) (h1 : (i1 : Int) < (l : Int) + 1) : ∃ m : Nat, v = .int (m : Int) ∧ m ≤ l := by
  have hm := List.mem_of_getElem? hv
  rcases List.mem_cons.mp hm with rfl | hm
  · exact ⟨i1, rfl, by omega⟩
  · rcases List.mem_cons.mp hm with rfl | hm
    · exact ⟨l, rfl, Nat.le_refl _⟩
    · rw [List.mem_singleton.mp hm]; exact ⟨0, rfl, Nat.zero_le _⟩
theorem many_pick {v : V} {i1 j : Nat} (hv : [V.int 1, V.int (i1 : Int), V.int (10 ^ (30 : Int).toNat)][j]? = some v) : ∃ m : Nat, v = .int (m : Int) := by
  have e30 : (10 : Int) ^ (30 : Int).toNat = ((1000000000000000000000000000000 : Nat) : Int) := by decide +kernel
  rw [e30] at hv
  have hm := List.mem_of_getElem? hv
  rcases List.mem_cons.mp hm with rfl | hm
  · exact ⟨1, rfl⟩
  · rcases List.mem_cons.mp hm with rfl | hm
    · exact ⟨i1, rfl⟩
    · rw [List.mem_singleton.mp hm]; exact ⟨_, rfl⟩

end
end Pk
end

section
namespace Pk
open PySem PySem.Spec PyProof.Rows L2 Evl
section
variable {P : Program} {w : World} {K : PySem.W.Frag} {mg : Str → Option Value} {base : Heap} {CC : Bool → Addr} {NT : Addr}
/-! ### a ridge and the barrel -/
structure Bt (CC : Bool → Addr) (M : List Addr) (H : Hp) (b r L S : Addr) (ad : Bool) (rows : List (List Int)) (sums : List Int) (n : Nat) : Prop where
  bar : BarAt H b n
  rat : RAt CC M H r L S ad rows sums
  dom : Dom M H
  bM : b ∈ M
  b1 : b ∉ [r, L, S]
section
variable {M : List Addr} {H H1 : Hp} {b r L S : Addr} {ad : Bool} {rows : List (List Int)} {sums : List Int} {n m : Nat}
theorem Bt.nb (h : Bt CC M H b r L S ad rows sums n) : b ≠ r ∧ b ≠ L ∧ b ≠ S := by
  have h1 := h.b1
  simp only [List.mem_cons, List.not_mem_nil, or_false, not_or] at h1
  exact h1
theorem Bt.draw (h : Bt CC M H b r L S ad rows sums n) (s : Sm [b] H H1) (hb : BarAt H1 b m) : Bt CC M H1 b r L S ad rows sums m := by
  obtain ⟨n1, n2, n3⟩ := h.nb
  exact ⟨hb, h.rat.one s h.bM n1.symm n2.symm n3.symm, h.dom.mono s, h.bM, h.b1⟩
theorem Bt.toEx (h : Bt CC M H b r L S ad rows sums n) (e : Ex H H1) : Bt CC M H1 b r L S ad rows sums n := h.draw (Sm.ex e) (h.bar.mono e)
theorem Bt.le (h : Bt CC M H b r L S ad rows sums n) (l : n ≤ m) : Bt CC M H b r L S ad rows sums m := ⟨h.bar.le l, h.rat, h.dom, h.bM, h.b1⟩
theorem Bt.go {rows2 : List (List Int)} {sums2 : List Int} (h : Bt CC M H b r L S ad rows sums n) (s : Sm [L, S] H H1) (hR : RAt CC M H1 r L S ad rows2 sums2) : Bt CC M H1 b r L S ad rows2 sums2 n := by
  obtain ⟨n1, n2, n3⟩ := h.nb
  exact ⟨h.bar.at fun o ho => s.at (not_two n2 n3) ho, hR, h.dom.mono s, h.bM, h.b1⟩
theorem sm3_b (s : Sm [b] H H1) : Sm [b, L, S] H H1 := s.mono fun x hx => by rw [List.mem_singleton.mp hx]; exact List.mem_cons_self ..
theorem sm3_LS (s : Sm [L, S] H H1) : Sm [b, L, S] H H1 := s.mono fun x hx => List.mem_cons_of_mem _ hx
theorem not_three {x : Addr} (hb : x ≠ b) (hL : x ≠ L) (hS : x ≠ S) : x ∉ [b, L, S] := by
  simp only [List.mem_cons, List.not_mem_nil, or_false, not_or]
  exact ⟨hb, hL, hS⟩
theorem Bt.out (h : Bt CC M H b r L S ad rows sums n) {x : Addr} (hx : x ∉ M) : x ∉ [b, L, S] := not_three (fun z => hx (z ▸ h.bM)) (fun z => hx (z ▸ h.rat.mem.2.1)) (fun z => hx (z ▸ h.rat.mem.2.2))
/-! what the ridge tells, as values -/
theorem el_rowNow {σ : L2.St} {te : TE} {row : List Int} (h : RAt CC M H r L S ad (row :: rows) sums) (he : Ev te σ H (.ref r)) : EvL (tPrA CC (spRowNow CC) te) σ H (row.map V.int) := by
  obtain ⟨dx, ho⟩ := h.obj
  exact el_pr ad he ho (spl_ret fun H2 e2 Q E q => ⟨_, r, L, S, _, _, _, rfl, h.ex e2, q⟩)
theorem el_timesNow {σ : L2.St} {te : TE} {row : List Int} (h : RAt CC M H r L S ad (row :: rows) sums) (he : Ev te σ H (.ref r)) : EvL (tPrA CC (spTimesNow CC) te) σ H ((timesIn row).map V.int) := by
  obtain ⟨dx, ho⟩ := h.obj
  exact el_pr ad he ho (spl_ret fun H2 e2 Q E q => ⟨_, r, L, S, _, _, _, rfl, h.ex e2, q⟩)
theorem ev_sumNow {σ : L2.St} {te : TE} {d : Int} (h : RAt CC M H r L S true rows (d :: sums)) (he : Ev te σ H (.ref r)) : Ev (tPrA (fun _ : Unit => CC true) (fun _ => spSumNow CC) te) σ H (.int d) := by
  obtain ⟨dx, ho⟩ := h.obj
  exact ev_pr () he ho (spv_ret fun H3 e3 Q E q => ⟨_, r, L, S, _, _, _, rfl, h.ex e3, q⟩)
theorem ev_lenR {σ : L2.St} {te : TE} {W : L2.WX} {row : List Int} (h : RAt CC M H r L S ad (row :: rows) sums) (he : Ev te σ H (.ref r)) : Ev (tLenA CC (spLenR CC) W te) σ H (.int (row.length : Int)) := by
  obtain ⟨dx, ho⟩ := h.obj
  have hz := h.sz row (List.mem_cons_self ..)
  exact ev_lenA ad he ho (by omega) (spv_len h)
end
theorem er_try {M : List Addr} {H : Hp} {r L S : Addr} {ad : Bool} {row : List Int} {rows : List (List Int)} {sums : List Int} {σ : L2.St} {te : TE} {W : L2.WX} {t : TA} {ks : List Int} (h : RAt CC M H r L S ad (row :: rows) sums) (he : Ev te σ H (.ref r)) (hA : EvA t σ H (ks.map V.int)) (hk : ∀ k ∈ ks, 0 ≤ k) (hl : ks.length ≤ 1000) :
    EvRows K (tMA CC "try_peel" (spTry CC) W te t) σ H (tryRows row ks) := fun H1 e Q q => by
  obtain ⟨dx, ho⟩ := h.obj
  refine m_go ad (Ev.mono e he) (e _ _ ho) (by cases ad <;> rfl) (EvA.mono e hA) fun H2 e2 => ⟨M, r, L, S, row, rows, sums, ks, rfl, h.ex (e.trans e2), hk, hl, fun p as H3 hp e3 h3 nr hn => q p H3 (e2.trans e3) fun H4 e4 => isRows_of (e4 _ _ h3) (nr.ex e4)⟩
theorem if_go_t {b : Bool} {A B : Prop} (h : b = true) (k : A) : if b = true then A else B := by subst h; exact k
theorem g_four {σ : L2.St} {i j l m : Nat} {p : Addr} {u v w x : V} {H : Hp} {Q : L2.St → Hp → Prop} (h : H p = some (.tup [u, v, w, x])) (q : Q ((((σ.set i (some u)).set j (some v)).set l (some w)).set m (some x)) H) : gTup K 4 (gCons (gName i) (gCons (gName j) (gCons (gName l) (gCons (gName m) gNil)))) (.ref p) σ H Q :=
  ⟨p, _, rfl, SqT.of h, rfl, u, [v, w, x], rfl, v, [w, x], rfl, w, [x], rfl, x, [], rfl, rfl, q⟩

end
end Pk
end

section
namespace Pk
open PySem PySem.Spec PyProof.Rows L2 Evl
section
variable {P : Program} {w : World} {K : PySem.W.Frag} {mg : Str → Option Value} {base : Heap} {CC : Bool → Addr} {NT : Addr}
/-! ### the barrel, a ridge and the list of rows and sums -/
theorem rat_dom {M : List Addr} {H : Hp} {r L S : Addr} {ad : Bool} {rows : List (List Int)} {sums : List Int} (h : RAt CC (r :: L :: S :: M) H r L S ad rows sums) (hM : Dom M H) : Dom (r :: L :: S :: M) H := fun x hx => by
  have k1 := h.obj
  have k2 := h.lst
  rcases List.mem_cons.mp hx with rfl | hx
  · obtain ⟨dx, k1⟩ := k1; rw [k1]; simp
  rcases List.mem_cons.mp hx with rfl | hx
  · obtain ⟨as, k2, _⟩ := k2; rw [k2]; simp
  rcases List.mem_cons.mp hx with rfl | hx
  · exact h.dS
  · exact hM x hx
theorem bar_dom {H : Hp} {b : Addr} {n : Nat} (h : BarAt H b n) : Dom [b] H := fun x hx => by rw [List.mem_singleton.mp hx]; obtain ⟨o, h⟩ := h.some; rw [h]; simp
theorem past_go {D : Ends} {tz : TS} {b r L S a2 : Addr} {ad : Bool} {ns : List Int} {H7 : Hp} {n i j : Nat} {σ : L2.St} (hv : σ[i]? = some (some (.ref a2))) (hb7 : BarAt H7 b n) (hR : RAt CC (r :: L :: S :: [b]) H7 r L S ad [ns] [0]) (h2 : H7 a2 = some (.lst (ns.map V.int))) (hne : a2 ∉ [r, L, S]) (hab : a2 ≠ b) (hbr : b ∉ [r, L, S]) (hz : ∀ x ∈ ns, Sz x)
    (k : ∀ q H1, H7 q = none → Ex H7 H1 → a2 ≠ q → St CC (q :: r :: L :: S :: [b]) H1 b r L S q ad [ns] [0] n → tz D (σ.set j (some (.ref q))) H1) :
    tSeq (tAsg (tLst (tCons (tTup (tCons (tVar i) (tCons (tC (.int 0)) tNil))) tNil)) (gName j)) tz D σ H7 := by
  have hD7 := rat_dom hR (bar_dom hb7)
  refine wq_asg (w_lst (w_cons (w_tup (w_cons1 (ev_var hv) fun H8 e8 => w_cons1 ev_c fun H9 e9 => w_nil ⟨show 2 ≤ sizeLine by decide, fun t2 ht2 => w_nil ⟨show 1 ≤ sizeLine by decide, fun q hq => ?_⟩⟩))))
  have e79 := e8.trans e9
  have hqt : q ≠ t2 := fun z => by rw [z, upd_same] at hq; cases hq
  have hq9 : H9 q = none := by rw [upd_ne hqt] at hq; exact hq
  have eF : Ex H7 (upd (upd H9 t2 (.tup [.ref a2, .int 0])) q (.lst [.ref t2])) := e79.trans ((Ex.new ht2).trans (Ex.new hq))
  have hst := st_start (q := q) (t := t2) hb7 hR h2 hne hab hbr hz hD7 (fresh_back e79 hq9) (fresh_back e79 ht2) eF upd_same (by rw [upd_ne hqt.symm, upd_same])
  have haq : a2 ≠ q := fun z => by rw [← z, e79 _ _ h2] at hq9; cases hq9
  exact k q _ (fresh_back e79 hq9) eF haq hst
theorem st_go {W1 W2 W3 : L2.WX} {D : Ends} {tz : TS} {H0 : Hp} {a : Addr} {sc : List Int} {ki m1 m2 : Nat} {o2 o3 o4 o5 o6 : Option V} {rest : List (Option V)} (hS : SqL K H0 a (sc.map V.int)) (hi : ki < 100) (hm1 : m1 ≤ 60) (hm2 : m2 ≤ 60)
    (k : ∀ b r L S q a2 ad ns H1, (∀ x ∈ [b, L, S, q], H0 x = none) → Sm [b, L, S, q] H0 H1 → St CC (q :: r :: L :: S :: [b]) H1 b r L S q ad [ns] [0] 1000 → H1 a2 = some (.lst (ns.map V.int)) → H0 a2 = none → a2 ∉ (q :: r :: L :: S :: [b]) →
      tz D (some (.ref a) :: some (.int (ki : Int)) :: some (.ref b) :: some (.ref r) :: some (.ref a2) :: some (.bl ad) :: some (.ref q) :: rest) H1) :
    tSeq (tAsg (tF (spBarrel K) W1 (tCons (tVar 0) (tCons (tVar 1) tNil))) (gName 2)) (tSeq (tAsg (tF (spMade CC) W2 (tCons (tVar 2) (tCons (tOp (rIxL K) (tLst (tCons (tC (.int (m1 : Int))) (tCons (tC (.int (m2 : Int))) tNil))) (tF spDraw W3 (tCons (tVar 2) (tCons (tC (.int 2)) tNil)))) tNil))) (gTup K 3 (gCons (gName 3) (gCons (gName 4) (gCons (gName 5) gNil)))))
      (tSeq (tAsg (tLst (tCons (tTup (tCons (tVar 4) (tCons (tC (.int 0)) tNil))) tNil)) (gName 6)) tz)) D (some (.ref a) :: some (.int (ki : Int)) :: o2 :: o3 :: o4 :: o5 :: o6 :: rest) H0 := by
  refine wq_asg (w_f (ea_cons (ev_var rfl) (ea_cons (ev_var rfl) ea_nil)) fun H1 e1 => ⟨a, sc, ki, rfl, ex_l e1 hS, by omega, fun b H2 hb e2 hbar => ?_⟩)
  have hb0 : H0 b = none := fresh_back e1 hb
  refine wq_asgG (w_fE (w_cons1 (ev_var rfl) fun H3 e3 => w_cons (w_op (w_lst (w_cons1 ev_c fun H4 e4 => w_cons1 ev_c fun H5 e5 => w_nil ⟨show 2 ≤ sizeLine by decide, fun p hp => ?_⟩)))))
  have e25 := (e3.trans e4).trans e5
  have hbar5 := hbar.mono (e25.trans (Ex.new (o := .lst [.int (m1 : Int), .int (m2 : Int)]) hp))
  refine ixd_go upd_same (ea_cons (ev_var rfl) (ea_cons ev_c ea_nil)) hbar5 (by omega) (by decide) (by decide +kernel) ((hbar.mono e25).ne hp).symm (show (2 : Int) ≤ (2 : Nat) by decide) fun j v H6 hv s6 hb6 => w_nil ?_
  obtain ⟨most, rfl, hmost⟩ : ∃ m : Nat, v = .int (m : Int) ∧ m ≤ 60 := by
    have hm := List.mem_of_getElem? hv
    rcases List.mem_cons.mp hm with rfl | hm
    · exact ⟨m1, rfl, hm1⟩
    · rw [List.mem_singleton.mp hm]; exact ⟨m2, rfl, hm2⟩
  have s06 : Sm [b] H0 H6 := ((Sm.ex ((e1.trans e2).trans e25)).trans (Sm.ex (Ex.new hp))).trans s6
  refine ⟨b, 1, most, [b], rfl, hb6, by omega, hmost, bar_dom hb6, List.mem_singleton.mpr rfl, fun t r L S a2 ad ns H7 s7 hb7 hr hL hS7 ha2 hne hR h2 hz hlen ht => g_three ht ?_⟩
  have s07 := s06.trans s7
  have hbr : b ∉ [r, L, S] := by
    simp only [List.mem_cons, List.not_mem_nil, or_false, not_or]
    exact ⟨hb6.ne hr, hb6.ne hL, hb6.ne hS7⟩
  have hab : a2 ≠ b := (hb6.ne ha2).symm
  have hD7 := rat_dom hR (bar_dom hb7)
  refine wq_asg (w_lst (w_cons (w_tup (w_cons1 (ev_var rfl) fun H8 e8 => w_cons1 ev_c fun H9 e9 => w_nil ⟨show 2 ≤ sizeLine by decide, fun t2 ht2 => w_nil ⟨show 1 ≤ sizeLine by decide, fun q hq => ?_⟩⟩))))
  have e79 := e8.trans e9
  have hqt : q ≠ t2 := fun z => by rw [z, upd_same] at hq; cases hq
  have hq9 : H9 q = none := by rw [upd_ne hqt] at hq; exact hq
  have eF : Ex H7 (upd (upd H9 t2 (.tup [.ref a2, .int 0])) q (.lst [.ref t2])) := e79.trans ((Ex.new ht2).trans (Ex.new hq))
  have hst := st_start (q := q) (t := t2) hb7 hR h2 hne hab hbr hz hD7 (fresh_back e79 hq9) (fresh_back e79 ht2) eF upd_same (by rw [upd_ne hqt.symm, upd_same])
  have hMn : ∀ x ∈ [b, L, S, q], H0 x = none := fun x hx => by
    simp only [List.mem_cons, List.not_mem_nil, or_false] at hx
    rcases hx with rfl | rfl | rfl | rfl
    · exact hb0
    · exact s06.back hL
    · exact s06.back hS7
    · exact s07.back (fresh_back e79 hq9)
  have haq : a2 ≠ q := fun z => by rw [← z, e79 _ _ h2] at hq9; cases hq9
  have h2F := eF _ _ h2
  have sF : Sm [b, L, S, q] H0 _ := (sm_b s07).trans (Sm.ex eF)
  refine k b r L S q a2 ad ns _ hMn sF (hst.le (by omega)) h2F (s06.back ha2) ?_
  simp only [List.mem_cons, List.not_mem_nil, or_false, not_or] at hne ⊢
  exact ⟨haq, hne.1, hne.2.1, hne.2.2, hab⟩
/-- the turns of the law -/
theorem cells_le (sc : List Int) (hl : sc.length ≤ 63) : 0 ≤ (if (if ((sc.length : Int) + 1) < 5 then ((sc.length : Int) + 1) else 5) > 1 then (if ((sc.length : Int) + 1) < 5 then ((sc.length : Int) + 1) else 5) else 1) ∧ (if (if ((sc.length : Int) + 1) < 5 then ((sc.length : Int) + 1) else 5) > 1 then (if ((sc.length : Int) + 1) < 5 then ((sc.length : Int) + 1) else 5) else 1) ≤ 100 := by
  split <;> split <;> omega
theorem ea_cells {a : Addr} {sc : List Int} {σ : L2.St} {H : Hp} (hS : SqL K H a (sc.map V.int)) (h : σ[0]? = some (some (.ref a))) :
    EvA (tCons (tCB rMax2 (tCons (tC (.int 1)) (tCons (tCB rMin2 (tCons (tC (.int 5)) (tCons (tOp (rI0 fun i j => .int (i + j)) (tCB (rLenS K) (tCons (tVar 0) tNil)) (tC (.int 1))) tNil))) tNil))) tNil) σ H
      [.int (if (if ((sc.length : Int) + 1) < 5 then ((sc.length : Int) + 1) else 5) > 1 then (if ((sc.length : Int) + 1) < 5 then ((sc.length : Int) + 1) else 5) else 1)] :=
  ea_cons (ev_cb (ea_cons ev_c (ea_cons (ev_cb (ea_cons ev_c (ea_cons (ev_op (ev_is (ev_cb (ea_cons (ev_var h) ea_nil) (rc_len hS)) (by rw [List.length_map])) ev_c rv_I0) ea_nil)) rc_min2) ea_nil)) rc_max2) ea_nil
def spLaw (K : PySem.W.Frag) : Sp := fun vs H Q _ => ∃ (a : Addr) (sc : List Int), vs = [.ref a] ∧ SqL K H a (sc.map V.int) ∧ sc.length ≤ 63 ∧ ∀ H', Q (.bl true) H'
theorem law_end (H : Hp) (a : Addr) (ns : List Int) (hl : ns.length ≤ 63) (_ : ∀ z ∈ ns, Builtin.Int.intBits z ≤ 1048576) (hS : SqL K H a (ns.map V.int)) : spLaw K [.ref a] H (fun v _ => v = .bl true) (fun _ _ _ => False) := ⟨a, ns, rfl, hS, hl, fun _ => rfl⟩

end
end Pk
end

section
namespace Pk
open PySem PySem.Spec PyProof.Rows L2 Evl
section
variable {P : Program} {w : World} {K : PySem.W.Frag} {mg : Str → Option Value} {base : Heap} {CC : Bool → Addr} {NT : Addr}
/-! ### the law k39 -/
def spNothing (CC : Bool → Addr) : Sp := fun vs H Q _ => ∃ (ad : Bool) (M : List Addr) (r L S : Addr) (row : List Int) (d : Int) (sums : List Int), vs = [.ref r] ∧ RAt CC M H r L S ad [row] (d :: sums) ∧ RetV (.bl true) H Q
theorem sc_law_nothing : FnScope ["ridge"] ["ridge"] (defScope s_law_nothing) := ⟨rfl, rfl, rfl, by decide +kernel, rfl, by decide +kernel, by decide +kernel⟩
theorem ok_law_nothing {f : Addr} {fd : FuncData} (F : FnP K "_law_nothing" s_law_nothing f fd) (g : mg "_law_nothing" = some (.ref f)) (T : Bl mg)  (R : RCls K CC) (e_NothingToUndo : ErrC K mg "NothingToUndo" NT) (m_undoX : CalM P w K mg base 2 CC "undo" [] (spUndoX CC NT)) : Cal P w K mg base 3 "_law_nothing" (spNothing CC) := by
  have nd := sc_law_nothing.nd
  refine cal_of F.kp g (F.bindsN fun _ _ _ _ _ _ us hl => match us, hl with | [_], _ => rfl) (fn_body F sc_law_nothing (fun vs H Q E h => ?_) (fun cdv A outer s H vs Q E hr h => ?_))
  · first | (obtain ⟨rfl, _⟩ := h; rfl) | (obtain ⟨_, rfl, _⟩ := h; rfl) | (obtain ⟨_, _, rfl, _⟩ := h; rfl) | (obtain ⟨_, _, _, rfl, _⟩ := h; rfl) | (obtain ⟨_, _, _, _, rfl, _⟩ := h; rfl) | (obtain ⟨_, _, _, _, _, rfl, _⟩ := h; rfl) | (obtain ⟨_, _, _, _, _, _, rfl, _⟩ := h; rfl) | (obtain ⟨_, _, _, _, _, _, _, rfl, _⟩ := h; rfl) | (obtain ⟨_, _, _, _, _, _, _, _, rfl, _⟩ := h; rfl) | (obtain ⟨_, _, _, _, _, _, _, _, _, rfl, _⟩ := h; rfl) | (obtain ⟨_, _, _, _, _, _, _, _, _, _, rfl, _⟩ := h; rfl) | (obtain ⟨_, _, _, _, _, _, _, _, _, _, _, rfl, _⟩ := h; rfl) | (obtain ⟨_, _, _, _, _, _, _, _, _, _, _, _, rfl, _⟩ := h; rfl) | (obtain ⟨_, _, _, _, _, _, _, _, _, _, _, _, _, rfl, _⟩ := h; rfl) | (obtain ⟨_, _, _, _, _, _, _, _, _, _, _, _, _, _, rfl, _⟩ := h; rfl) | (obtain ⟨_, _, _, _, _, _, _, _, _, _, _, _, _, _, _, rfl, _⟩ := h; rfl) | (obtain ⟨_, _, _, _, _, _, _, _, _, _, _, _, _, _, _, _, rfl, _⟩ := h; rfl) | (obtain ⟨_, _, _, _, _, _, _, _, _, _, _, _, _, _, _, _, _, rfl, _⟩ := h; rfl) | (obtain ⟨_, _, _, _, _, _, _, _, _, _, _, _, _, _, _, _, _, _, rfl, _⟩ := h; rfl) | (obtain ⟨_, _, _, _, _, _, _, _, _, _, _, _, _, _, _, _, _, _, _, rfl, _⟩ := h; rfl) | (obtain ⟨_, _, _, _, _, _, _, _, _, _, _, _, _, _, _, _, _, _, _, _, rfl, _⟩ := h; rfl) | (obtain ⟨_, _, _, _, _, _, _, _, _, _, _, _, _, _, _, _, _, _, _, _, _, rfl, _⟩ := h; rfl) | (obtain ⟨_, _, _, _, _, _, _, _, _, _, _, _, _, _, _, _, _, _, _, _, _, _, rfl, _⟩ := h; rfl) | (obtain ⟨_, _, _, _, _, _, _, _, _, _, _, _, _, _, _, _, _, _, _, _, _, _, _, rfl, _⟩ := h; rfl)
  refine ⟨_, (pss_cons (ps_tryE e_NothingToUndo rfl rfl takesD (fun W pn xe tk _ => (pss_one (ps_expr (pe_mA0 (pv 0) R.cl m_undoX (hr.mono (by decide)) tk)))) (fun a oe cls d pn _ _ => (pss_one (ps_ret pe_bl))))
    (pss_one (ps_ret pe_bl))), ?_⟩
  obtain ⟨ad, M, r, L, S, row, d, sums, rfl, hR, k⟩ := h
  obtain ⟨dx, ho⟩ := hR.obj
  exact w_drop (m_go ad (ev_var rfl) ho (by cases ad <;> rfl) ea_nil fun H1 e1 => ⟨M, r, L, S, row, [], d, sums, rfl, hR.ex e1, .inr ⟨rfl, fun H2 e2 => w_caught e_NothingToUndo fun a ha => s_ret ev_c fun H3 e3 => k.go ((e1.trans e2).trans e3)⟩⟩)
theorem ins_end (row : List Int) (e : Int) : insR row row.length e = row ++ [e] := by
  unfold insR; rw [List.take_length, List.drop_length, List.append_nil]
theorem snoc_sz {row : List Int} {e : Int} (h : ∀ x ∈ row, Sz x) (he : Sz e) : ∀ x ∈ row ++ [e], Sz x := fun x hx => by
  rcases List.mem_append.mp hx with hx | hx
  · exact h x hx
  · rw [List.mem_singleton.mp hx]; exact he
theorem past_last {M : List Addr} {H : Hp} {q t : Addr} {ts : List Addr} {j : Nat} {σ : L2.St} (hq : H q = some (.lst ((ts.reverse : List Addr).map V.ref ++ [.ref t]))) (hv : σ[j]? = some (some (.ref q))) : Ev (tOp (rIxL K) (tVar j) (tUn (rU fun i => .int (-i)) (tC (.int 1)))) σ H (.ref t) :=
  ev_op (ev_var hv) (ev_un ev_c ru_neg) (rv_last (d := V.ref) (l := ts.reverse) (x := t) (sq_of (by rw [hq, List.map_append]; rfl)))
theorem rv_fst {H : Hp} {t : Addr} {x y : V} (h : H t = some (.tup [x, y])) : RV (rIxT K) (.ref t) (.int 0) H x := rv_ixT (SqT.of h) rfl
theorem rv_snd {H : Hp} {t : Addr} {x y : V} (h : H t = some (.tup [x, y])) : RV (rIxT K) (.ref t) (.int 1) H y := rv_ixT (SqT.of h) rfl
def spChanged (CC : Bool → Addr) : Sp := fun vs H Q _ => ∃ (M : List Addr) (b r L S q : Addr) (ad : Bool) (n : Nat) (row : List Int) (rows : List (List Int)) (d : Int) (sums : List Int), vs = [.ref b, .ref r, .ref q] ∧ St CC M H b r L S q ad (row :: rows) (d :: sums) n ∧ n ≤ 100000000 ∧ rows.length ≤ 60000 ∧
  ∀ (nw : List Int) (d2 : Int) H1, Sm [b, L, S, q] H H1 → St CC M H1 b r L S q ad (nw :: row :: rows) (d2 :: d :: sums) (n + 1) → Q (.bl true) H1
theorem sc_law_changed : FnScope ["barrel", "ridge", "past", "row", "total", "many", "size", "left", "spot"] ["barrel", "ridge", "past"] (defScope s_law_changed) := ⟨rfl, rfl, rfl, by decide +kernel, rfl, by decide +kernel, by decide +kernel⟩
theorem ok_law_changed {f : Addr} {fd : FuncData} (F : FnP K "_law_changed" s_law_changed f fd) (g : mg "_law_changed" = some (.ref f)) (T : Bl mg) (c_law_draw : Cal P w K mg base 1 "_law_draw" spDraw) (c_law_after : Cal P w K mg base 2 "_law_after" (spAfter K)) (R : RCls K CC) (m_put : CalM P w K mg base 4 CC "put" [] (spPut CC)) (m_change : CalM P w K mg base 4 CC "change" [] (spChange CC)) (m_peel : CalM P w K mg base 5 CC "peel" [] (fun ad vs H Q E => spPeel CC ad (vs ++ [.int 1]) H Q E)) (mk_peel : CalM P w K mg base 5 CC "peel" ["rounds"] (spPeel CC)) : Cal P w K mg base 6 "_law_changed" (spChanged CC) := by
  have nd := sc_law_changed.nd
  refine cal_of F.kp g (F.bindsN fun _ _ _ _ _ _ us hl => match us, hl with | [_, _, _], _ => rfl) (fn_body F sc_law_changed (fun vs H Q E h => ?_) (fun cdv A outer s H vs Q E hr h => ?_))
  · first | (obtain ⟨rfl, _⟩ := h; rfl) | (obtain ⟨_, rfl, _⟩ := h; rfl) | (obtain ⟨_, _, rfl, _⟩ := h; rfl) | (obtain ⟨_, _, _, rfl, _⟩ := h; rfl) | (obtain ⟨_, _, _, _, rfl, _⟩ := h; rfl) | (obtain ⟨_, _, _, _, _, rfl, _⟩ := h; rfl) | (obtain ⟨_, _, _, _, _, _, rfl, _⟩ := h; rfl) | (obtain ⟨_, _, _, _, _, _, _, rfl, _⟩ := h; rfl) | (obtain ⟨_, _, _, _, _, _, _, _, rfl, _⟩ := h; rfl) | (obtain ⟨_, _, _, _, _, _, _, _, _, rfl, _⟩ := h; rfl) | (obtain ⟨_, _, _, _, _, _, _, _, _, _, rfl, _⟩ := h; rfl) | (obtain ⟨_, _, _, _, _, _, _, _, _, _, _, rfl, _⟩ := h; rfl) | (obtain ⟨_, _, _, _, _, _, _, _, _, _, _, _, rfl, _⟩ := h; rfl) | (obtain ⟨_, _, _, _, _, _, _, _, _, _, _, _, _, rfl, _⟩ := h; rfl) | (obtain ⟨_, _, _, _, _, _, _, _, _, _, _, _, _, _, rfl, _⟩ := h; rfl) | (obtain ⟨_, _, _, _, _, _, _, _, _, _, _, _, _, _, _, rfl, _⟩ := h; rfl) | (obtain ⟨_, _, _, _, _, _, _, _, _, _, _, _, _, _, _, _, rfl, _⟩ := h; rfl) | (obtain ⟨_, _, _, _, _, _, _, _, _, _, _, _, _, _, _, _, _, rfl, _⟩ := h; rfl) | (obtain ⟨_, _, _, _, _, _, _, _, _, _, _, _, _, _, _, _, _, _, rfl, _⟩ := h; rfl) | (obtain ⟨_, _, _, _, _, _, _, _, _, _, _, _, _, _, _, _, _, _, _, rfl, _⟩ := h; rfl) | (obtain ⟨_, _, _, _, _, _, _, _, _, _, _, _, _, _, _, _, _, _, _, _, rfl, _⟩ := h; rfl) | (obtain ⟨_, _, _, _, _, _, _, _, _, _, _, _, _, _, _, _, _, _, _, _, _, rfl, _⟩ := h; rfl) | (obtain ⟨_, _, _, _, _, _, _, _, _, _, _, _, _, _, _, _, _, _, _, _, _, _, rfl, _⟩ := h; rfl) | (obtain ⟨_, _, _, _, _, _, _, _, _, _, _, _, _, _, _, _, _, _, _, _, _, _, _, rfl, _⟩ := h; rfl)
  refine ⟨_, (pss_cons (ps_asg (pe_ix (ix_listK K) (pv 2) (pe_un un_neg pe_int) (fun _ _ => rfl)) (pg_tupK K (by rfl) (n := 2) (pgs_cons (pg_name (i := 3) nd rfl (.inl rfl)) (pgs_cons (pg_name (i := 4) nd rfl (.inl rfl)) pgs_nil))))
    (pss_cons (ps_par (i := 5) (j := 6) rfl nd rfl rfl (by decide) rfl rfl (pa_cons (pe_callB (cl_lenK K) (by rfl) T.n_len (by decide +kernel) (pa_cons (pv 2) pa_nil)) (pa_cons (pe_callB (cl_lenK K) (by rfl) T.n_len (by decide +kernel) (pa_cons (pv 3) pa_nil)) pa_nil)) (by rfl))
    (pss_cons (ps_if (pt_cmpR (op_eq) (pe_op op_mod (pv 5) pe_int) pe_int (nomark _)) (pss_cons (ps_set (i := 7) nd rfl (.inl rfl) (pe_c c_law_after (hr.mono (by decide)) takesD (pa_cons (pv 3) (pa_cons pe_int pa_nil))))
    (pss_cons (ps_expr (pe_bm PySem.F.plainAttrs_list PySem.F.slot_list_append PySem.F.type_list_append mt_append (pv 2) (pa_cons (pe_tup (pa_cons (pv 7) (pa_cons (pe_op op_sub (pe_op op_add (pv 4) (pe_callB (cr_sumK K) (by rfl) T.n_sum (by decide +kernel) (pa_cons (pv 3) pa_nil))) (pe_callB (cr_sumK K) (by rfl) T.n_sum (by decide +kernel) (pa_cons (pv 7) pa_nil))) pa_nil))) pa_nil)))
    (pss_one (ps_ret (pe_cmpR (op_eq) (pe_mA0 (pv 1) R.cl m_peel (hr.mono (by decide)) takesD) (pe_op op_sub (pv 6) (pe_callB (cl_lenK K) (by rfl) T.n_len (by decide +kernel) (pa_cons (pv 7) pa_nil))) (nomark _)))))) pss_nil)
    (pss_cons (ps_if (PW.pt (pw_and (pt_cmpR (op_lt) (pe_op op_mod (pv 5) pe_int) pe_int (nomark _)) (pw_and1 (pt_cmpR (op_lt) (pv 6) pe_int (nomark _))))) (pss_cons (ps_expr (pe_bm PySem.F.plainAttrs_list PySem.F.slot_list_append PySem.F.type_list_append mt_append (pv 2) (pa_cons (pe_tup (pa_cons (pe_op op_cat (pv 3) (pe_lst (pa_cons (pv 5) pa_nil))) (pa_cons (pv 4) pa_nil))) pa_nil)))
    (pss_one (ps_ret (pe_cmpR (op_eq) (pe_mA (pv 1) R.cl m_put (hr.mono (by decide)) takesD (pa_cons (pv 6) (pa_cons (pv 5) pa_nil))) (pe_op op_add (pv 6) pe_int) (nomark _))))) pss_nil)
    (pss_cons (ps_if (pt_cmpR (op_eq) (pv 6) pe_int (nomark _)) (pss_cons (ps_expr (pe_bm PySem.F.plainAttrs_list PySem.F.slot_list_append PySem.F.type_list_append mt_append (pv 2) (pa_cons (pe_ix (ix_listK K) (pv 2) (pe_un un_neg pe_int) (fun _ _ => rfl)) pa_nil)))
    (pss_one (ps_ret (pe_cmpR (op_eq) (pe_mKA (hln := fun _ _ _ q => ⟨rfl, q⟩) (pv 1) R.cl mk_peel (hr.mono (by decide)) takesD (pk_cons pe_int pk_nil)) pe_int (nomark _))))) pss_nil)
    (pss_cons (ps_set (i := 8) nd rfl (.inl rfl) (pe_c c_law_draw (hr.mono (by decide)) takesD (pa_cons (pv 0) (pa_cons (pv 6) pa_nil))))
    (pss_cons (ps_expr (pe_bm PySem.F.plainAttrs_list PySem.F.slot_list_append PySem.F.type_list_append mt_append (pv 2) (pa_cons (pe_tup (pa_cons (pe_op op_cat (pe_op op_cat (pe_slice (sl_listK K) (pv 3) po_none (po_some (pv 8))) (pe_lst (pa_cons (pv 5) pa_nil))) (pe_slice (sl_listK K) (pv 3) (po_some (pe_op op_add (pv 8) pe_int)) po_none)) (pa_cons (pv 4) pa_nil))) pa_nil)))
    (pss_one (ps_ret (pe_cmpR (op_eq) (pe_mA (pv 1) R.cl m_change (hr.mono (by decide)) takesD (pa_cons (pv 8) (pa_cons (pv 5) pa_nil))) (pe_ix (ix_listK K) (pv 3) (pv 8) (fun _ _ => rfl)) (nomark _))))))))))), ?_⟩
  obtain ⟨M, b, r, L, S, q, ad, n, row, rows, d, sums, rfl, hs, hn, hl, k⟩ := h
  obtain ⟨ts, t, a, hq, ht, ht2, ha, ha2, hP⟩ := hs.pat.top
  obtain ⟨n1, n2, n3, n4, n5, n6, n7⟩ := hs.nb
  have hab : a ≠ b := fun z => ha (z ▸ hs.bM)
  have hzr := hs.zs row (List.mem_cons_self ..)
  have hlr := hs.rat.sz row (List.mem_cons_self ..)
  have hPl := hP.len
  refine wq_asgG (Ev.go (v := .ref t) (past_last (M := M) hq rfl) fun H1 e1 => g_pair (e1 _ _ ht2) ?_)
  refine wq_par (w_cons (Ev.go (v := .int ((rows.length + 1 : Nat) : Int)) (ev_is (ev_cb (ea_cons (ev_var rfl) ea_nil) (rc_len (sq_of (e1 _ _ hq)))) (by rw [List.length_append, List.length_map, List.length_reverse, hPl]; rfl)) fun H2 e2 => w_cons (Ev.go (ev_is (ev_cb (ea_cons (ev_var rfl) ea_nil) (rc_len (sq_of ((e1.trans e2) _ _ ha2)))) (by rw [List.length_map])) fun H3 e3 => w_nil ⟨_, _, rfl, ?_⟩)))
  have e03 := (e1.trans e2).trans e3
  have hs3 := hs.toEx e03
  have ha3 := e03 _ _ ha2
  have hpS : ∀ z : Int, pushS (d :: sums) z = (d + z) :: d :: sums := fun z => by unfold pushS; rw [List.headD_cons]
  have mz : Sz ((rows.length + 1 : Nat) : Int) := szI (by omega) (by omega)
  generalize hmd : ((rows.length + 1 : Nat) : Int) = many at mz ⊢
  refine q_when (b := decide (many % 20 = 19)) (et_test (ev_op (ev_op (ev_var rfl) ev_c (rv_I (by decide))) ev_c rv_eqI)) (fun _ H4 e4 => ?_) (fun _ H4 e4 => ?_)
  · have hs4 := hs3.toEx e4
    have ha4 := e4 _ _ ha3
    refine q_asgL (el_f (ea_cons (ev_var rfl) (ea_cons ev_c ea_nil)) (spl_after (sq_of ha4) (by omega) (by omega))) fun u H13 hu e13 h13 => ?_
    have hs13 := hs4.toEx e13
    have ha13 := e13 _ _ ha4
    have huM : u ∉ M := hs4.dom.new hu
    refine wq_drop (app_go2 (nw := peelN (1 : Int).toNat row) (d2 := d + row.sum - (peelN (1 : Int).toNat row).sum) hs13.pat hs13.dom (ev_var rfl) huM h13 (fun H1 e => ev_var rfl) (fun H1 e => ev_op (ev_op (ev_var rfl) (ev_cb (ea_cons (ev_var rfl) ea_nil) (rc_sum (sq_of (e _ _ ha13)))) rv_I0) (ev_cb (ea_cons (ev_var rfl) ea_nil) (rc_sum (sq_of (e _ _ h13)))) rv_I0) (by rw [List.length_cons]; omega) fun H14 s14 hP14 => ?_)
    have hR14 := hs13.rat.one s14 hs.pat.mem n5.symm n6.symm n7.symm
    have hu14 := s14.at (fun z => huM ((one_sub hs.pat.mem) _ z)) h13
    have hD14 := hs13.dom.mono s14
    obtain ⟨dx, ho⟩ := hR14.obj
    refine w_ret (w_op (m_go ad (ev_var rfl) ho (by cases ad <;> rfl) ea_nil fun H16 e16 => ⟨M, r, L, S, 1, row, rows, d :: sums, rfl, by decide, hR14.ex e16, hD14.mono (Sm.ex (M := []) e16), by omega, fun H17 s17 hR17 => ?_⟩))
    have hLS := (Sm.ex (M := [L, S]) e16).trans s17
    have hu17 := hLS.at (fun z => huM (hR14.sub _ z)) hu14
    refine Ev.go (ev_op (ev_var rfl) (ev_is (ev_cb (ea_cons (ev_var rfl) ea_nil) (rc_len (sq_of hu17))) (by rw [List.length_map])) rv_I0) fun H18 e18 => RV.go rv_eqI fun H19 e19 => ?_
    rw [decide_eq_true rfl]
    have e1 := e18.trans e19
    rw [hpS] at hR17
    have ed : d + (row.sum - (peelN (1 : Int).toNat row).sum) = d + row.sum - (peelN (1 : Int).toNat row).sum := by omega
    rw [ed] at hR17
    exact k _ _ H19 (sm_after (M := M) (Sm.ex ((e03.trans e4).trans e13)) s14 (hLS.trans (Sm.ex e1))) ((hs13.both s14 hP14 (hLS.trans (Sm.ex e1)) (hR17.ex e1) (zs_cons (peel1_sz hzr) hs.zs)).le (by omega))
  have hs4 := hs3.toEx e4
  have ha4 := e4 _ _ ha3
  have e04 := e03.trans e4
  refine q_when (b := decide (many % 3 < 2) && decide ((row.length : Int) < 60)) (et_and (et_test (ev_op (ev_op (ev_var rfl) ev_c (rv_I (by decide))) ev_c rv_I0)) fun _ => et_test (ev_op (ev_var rfl) ev_c rv_I0)) (fun hb H5 e5 => ?_) (fun _ H5 e5 => ?_)
  · rw [Bool.and_eq_true, decide_eq_true_iff, decide_eq_true_iff] at hb
    have hs5 := hs4.toEx e5
    have ha5 := e5 _ _ ha4
    refine wq_drop (app_go (nw := row ++ [many]) (d2 := d) hs5.pat hs5.dom (ev_var rfl) (fun H1 e => el_isL (el_catEL (ev_var rfl) (e _ _ ha5) (el_lst (ea_cons (ev_var rfl) ea_nil) (show 1 ≤ 100000 by decide)) (by rw [List.length_map]; simp only [List.length_cons, List.length_nil]; omega)) (by rw [List.map_append]; rfl)) (fun H1 e => ev_var rfl) (by rw [List.length_cons]; omega) fun H12 s12 hP12 => ?_)
    have hR12 := hs5.rat.one s12 hs.pat.mem n5.symm n6.symm n7.symm
    obtain ⟨dx, ho⟩ := hR12.obj
    refine w_ret (w_op (m_go ad (ev_var rfl) ho (by cases ad <;> rfl) (ea_cons (ev_var rfl) (ea_cons (ev_var rfl) ea_nil)) fun H13 e13 => ⟨M, r, L, S, row.length, many, row, rows, d :: sums, rfl, hR12.ex e13, (hs5.dom.mono s12).mono (Sm.ex (M := []) e13), by omega, by omega, by omega, fun H14 s14 hR14 => ?_⟩))
    have hLS14 := (Sm.ex (M := [L, S]) e13).trans s14
    refine Ev.go (ev_op (ev_var rfl) ev_c rv_I0) fun H15 e15 => RV.go rv_eqI fun H16 e16 => ?_
    rw [decide_eq_true rfl]
    have e1 := e15.trans e16
    rw [hpS, ins_end, Int.add_zero] at hR14
    exact k _ _ H16 (sm_after (M := M) (Sm.ex (e04.trans e5)) s12 (hLS14.trans (Sm.ex e1))) ((hs5.both s12 hP12 (hLS14.trans (Sm.ex e1)) (hR14.ex e1) (zs_cons (snoc_sz hzr mz) hs.zs)).le (by omega))
  have hs5 := hs4.toEx e5
  have ha5 := e5 _ _ ha4
  have e05 := e04.trans e5
  refine q_when (b := decide ((row.length : Int) = 0)) (et_test (ev_op (ev_var rfl) ev_c rv_eqI)) (fun hb H6 e6 => ?_) (fun hb H6 e6 => ?_)
  · have hs6 := hs5.toEx e6
    have hq6 := (e05.trans e6) _ _ hq
    have ha6 := e6 _ _ ha5
    have ht6 := (e05.trans e6) _ _ ht2
    have hP6 := hP.frame (Sm.ex (M := []) (e05.trans e6)) (fun _ z => nomatch z)
    refine wq_drop (w_app (ev_var rfl) hq6 fun H7 e7 => Ev.go (past_last (M := M) (e7 _ _ hq6) rfl) fun H8 e8 => app_end ((e7.trans e8) _ _ hq6) (by rw [List.length_append, List.length_map, List.length_reverse, hPl]; simp only [List.length_cons, List.length_nil]; omega) ?_)
    have e78 := e7.trans e8
    have s8 : Sm [q] H6 (upd H8 q (.lst ((ts.reverse : List Addr).map V.ref ++ [.ref t] ++ [.ref t]))) := (Sm.ex e78).mut (.inl (List.mem_singleton.mpr rfl))
    have htq : t ≠ q := fun z => ht (z ▸ hs.pat.mem)
    have haq : a ≠ q := fun z => ha (z ▸ hs.pat.mem)
    have hP8 : PAt M (upd H8 q (.lst ((ts.reverse : List Addr).map V.ref ++ [.ref t] ++ [.ref t]))) q (row :: row :: rows) (d :: d :: sums) :=
      ⟨⟨t :: t :: ts, by rw [upd_same, List.reverse_cons, List.reverse_cons, List.map_append, List.map_append]; rfl, .cons ht (by rw [upd_ne htq]; exact e78 _ _ ht6) ha (by rw [upd_ne haq]; exact e78 _ _ ha6) (.cons ht (by rw [upd_ne htq]; exact e78 _ _ ht6) ha (by rw [upd_ne haq]; exact e78 _ _ ha6) (hP6.frame s8 (one_sub hs.pat.mem)))⟩, hs.pat.mem⟩
    have hR8 := hs6.rat.one s8 hs.pat.mem n5.symm n6.symm n7.symm
    obtain ⟨dx, ho⟩ := hR8.obj
    refine w_ret (w_op (m_goK ad (ev_var rfl) ho (by cases ad <;> rfl) (ea_cons ev_c ea_nil) fun H9 e9 => ⟨M, r, L, S, 0, row, rows, d :: sums, rfl, by decide, hR8.ex e9, (hs6.dom.mono s8).mono (Sm.ex (M := []) e9), by omega, fun H10 s10 hR10 => Ev.go ev_c fun H11 e11 => RV.go rv_eqI fun H12 e12 => ?_⟩))
    have e1 := e11.trans e12
    have hLS := (Sm.ex (M := [L, S]) e9).trans (s10.trans (Sm.ex e1))
    have e0 : ∀ ns : List Int, peelN (0 : Int).toNat ns = ns := fun ns => rfl
    rw [hpS, e0, Int.sub_self, Int.add_zero] at hR10
    rw [e0, Int.sub_self]
    exact k _ _ H12 (sm_after (M := M) (Sm.ex (e05.trans e6)) s8 hLS) ((hs6.both s8 hP8 hLS (hR10.ex e1) (zs_cons hzr hs.zs)).le (by omega))
  have hb := of_decide_eq_false hb
  have hs6 := hs5.toEx e6
  have ha6 := e6 _ _ ha5
  have e06 := e05.trans e6
  refine wq_asg (draw_go (ea_cons (ev_var rfl) (ea_cons (ev_var rfl) ea_nil)) hs6.bar (by omega) (by omega) (big (by omega)) fun i H9 s9 hb9 hi => ?_)
  have hi : i < row.length := by omega
  have hs9 := hs6.draw s9 hb9
  have ha9 := s9.at (not_one hab) ha6
  refine wq_drop (app_go (nw := setR row i many) (d2 := d) hs9.pat hs9.dom (ev_var rfl) (fun H1 e => el_set (fun _ _ => ev_var rfl) (sq_of (e _ _ ha9)) (fun _ _ => ev_var rfl) (ev_var rfl) hlr) (fun H1 e => ev_var rfl) (by rw [List.length_cons]; omega) fun H12 s12 hP12 => ?_)
  have hR12 := hs9.rat.one s12 hs.pat.mem n5.symm n6.symm n7.symm
  have ha12 := s12.at (fun z => ha ((one_sub hs.pat.mem) _ z)) ha9
  obtain ⟨dx, ho⟩ := hR12.obj
  refine w_ret (w_op (m_go ad (ev_var rfl) ho (by cases ad <;> rfl) (ea_cons (ev_var rfl) (ea_cons (ev_var rfl) ea_nil)) fun H13 e13 => ⟨M, r, L, S, i, many, row, rows, d :: sums, rfl, hR12.ex e13, (hs9.dom.mono s12).mono (Sm.ex (M := []) e13), hi, by omega, fun H14 s14 hR14 => ?_⟩))
  have hLS14 := (Sm.ex (M := [L, S]) e13).trans s14
  have ha14 := hLS14.at (fun z => ha (hR12.sub _ z)) ha12
  refine Ev.go (ev_op (ev_var rfl) (ev_var rfl) (rv_int (sq_of ha14) hi)) fun H15 e15 => RV.go rv_eqI fun H16 e16 => ?_
  rw [decide_eq_true rfl]
  have e1 := e15.trans e16
  rw [hpS, Int.add_zero] at hR14
  exact k _ _ H16 (sm_after (M := M) ((Sm.ex e06).trans s9) s12 (hLS14.trans (Sm.ex e1))) (hs9.both s12 hP12 (hLS14.trans (Sm.ex e1)) (hR14.ex e1) (zs_cons (set_sz hzr mz) hs.zs))

end
end Pk
end

section
namespace Pk
open PySem PySem.Spec PyProof.Rows L2 Evl
section
variable {P : Program} {w : World} {K : PySem.W.Frag} {mg : Str → Option Value} {base : Heap} {CC : Bool → Addr} {NT : Addr}
/-! ### the run of k39 -/
theorem et_shown {M : List Addr} {H : Hp} {b r L S q : Addr} {ad : Bool} {rows : List (List Int)} {sums : List Int} {n : Nat} {σ : L2.St} (hs : St CC M H b r L S q ad rows sums n) (hne : rows ≠ []) (h3 : σ[3]? = some (some (.ref r))) (h5 : σ[5]? = some (some (.bl ad))) (h6 : σ[6]? = some (some (.ref q))) :
    EvT (tOr (tTest (tOp (rNeLI K) (tPrA CC (spRowNow CC) (tVar 3)) (tOp (rIxT K) (tOp (rIxL K) (tVar 6) (tUn (rU fun i => .int (-i)) (tC (.int 1)))) (tC (.int 0)))))
      (tAnd (tB (tVar 5)) (tTest (tOp rNe (tPrA (fun _ : Unit => CC true) (fun _ => spSumNow CC) (tVar 3)) (tOp (rIxT K) (tOp (rIxL K) (tVar 6) (tUn (rU fun i => .int (-i)) (tC (.int 1)))) (tC (.int 1))))))) σ H (false || (ad && false)) := by
  obtain ⟨row, rs, d, ss, rfl, rfl⟩ := hs.sums hne
  obtain ⟨ts, t, a, hq, ht, ht2, ha, ha2, hP⟩ := hs.pat.top
  refine et_or (et_is (et_test (ev_opL1 (el_rowNow hs.rat (ev_var h3)) (fun H1 e => ev_op (past_last (M := M) (e _ _ hq) h6) ev_c (rv_fst (e _ _ ht2))) fun p H1 hp e => rv_neLI (sq_of hp) (sq_of (e _ _ ha2)))) (by simp)) fun _ => et_and (et_B (ev_var h5)) fun had => ?_
  subst had
  exact et_is (et_test (ev_op (ev_sumNow hs.rat (ev_var h3)) (ev_op (past_last (M := M) hq h6) ev_c (rv_snd ht2)) rv_neI)) (by simp)
def spRun (CC : Bool → Addr) : Sp := fun vs H Q _ => ∃ (b : Addr) (n c u : Nat), vs = [.ref b, .int (c : Int), .int (u : Int)] ∧ BarAt H b n ∧ n ≤ 1000 ∧ u ≤ c ∧ c ≤ 1000 ∧ ∀ H1, Sm [b] H H1 → Q (.bl true) H1
theorem sc_law_run : FnScope ["barrel", "changes", "undone", "ridge", "row", "adds", "past", "turn", "before", "total"] ["barrel", "changes", "undone"] (defScope s_law_run) := ⟨rfl, rfl, rfl, by decide +kernel, rfl, by decide +kernel, by decide +kernel⟩
theorem ok_law_run {f : Addr} {fd : FuncData} (F : FnP K "_law_run" s_law_run f fd) (g : mg "_law_run" = some (.ref f)) (T : Bl mg) (c_law_made : Cal P w K mg base 7 "_law_made" (spMade CC)) (c_law_changed : Cal P w K mg base 6 "_law_changed" (spChanged CC)) (c_law_nothing : Cal P w K mg base 3 "_law_nothing" (spNothing CC)) (R : RCls K CC) (m_undo : CalM P w K mg base 2 CC "undo" [] (spUndo CC)) (p_row_now : CalP P w K mg base 1 CC "row_now" (spRowNow CC)) (p_sum_now : CalP P w K mg base 1 (fun _ : Unit => CC true) "sum_now" (fun _ => spSumNow CC)) (m_rows_so_far : CalG P w K mg base 1 CC "rows_so_far" (spRowsG CC)) : Cal P w K mg base 8 "_law_run" (spRun CC) := by
  have nd := sc_law_run.nd
  refine cal_of F.kp g (F.bindsN fun _ _ _ _ _ _ us hl => match us, hl with | [_, _, _], _ => rfl) (fn_body F sc_law_run (fun vs H Q E h => ?_) (fun cdv A outer s H vs Q E hr h => ?_))
  · first | (obtain ⟨rfl, _⟩ := h; rfl) | (obtain ⟨_, rfl, _⟩ := h; rfl) | (obtain ⟨_, _, rfl, _⟩ := h; rfl) | (obtain ⟨_, _, _, rfl, _⟩ := h; rfl) | (obtain ⟨_, _, _, _, rfl, _⟩ := h; rfl) | (obtain ⟨_, _, _, _, _, rfl, _⟩ := h; rfl) | (obtain ⟨_, _, _, _, _, _, rfl, _⟩ := h; rfl) | (obtain ⟨_, _, _, _, _, _, _, rfl, _⟩ := h; rfl) | (obtain ⟨_, _, _, _, _, _, _, _, rfl, _⟩ := h; rfl) | (obtain ⟨_, _, _, _, _, _, _, _, _, rfl, _⟩ := h; rfl) | (obtain ⟨_, _, _, _, _, _, _, _, _, _, rfl, _⟩ := h; rfl) | (obtain ⟨_, _, _, _, _, _, _, _, _, _, _, rfl, _⟩ := h; rfl) | (obtain ⟨_, _, _, _, _, _, _, _, _, _, _, _, rfl, _⟩ := h; rfl) | (obtain ⟨_, _, _, _, _, _, _, _, _, _, _, _, _, rfl, _⟩ := h; rfl) | (obtain ⟨_, _, _, _, _, _, _, _, _, _, _, _, _, _, rfl, _⟩ := h; rfl) | (obtain ⟨_, _, _, _, _, _, _, _, _, _, _, _, _, _, _, rfl, _⟩ := h; rfl) | (obtain ⟨_, _, _, _, _, _, _, _, _, _, _, _, _, _, _, _, rfl, _⟩ := h; rfl) | (obtain ⟨_, _, _, _, _, _, _, _, _, _, _, _, _, _, _, _, _, rfl, _⟩ := h; rfl) | (obtain ⟨_, _, _, _, _, _, _, _, _, _, _, _, _, _, _, _, _, _, rfl, _⟩ := h; rfl) | (obtain ⟨_, _, _, _, _, _, _, _, _, _, _, _, _, _, _, _, _, _, _, rfl, _⟩ := h; rfl) | (obtain ⟨_, _, _, _, _, _, _, _, _, _, _, _, _, _, _, _, _, _, _, _, rfl, _⟩ := h; rfl) | (obtain ⟨_, _, _, _, _, _, _, _, _, _, _, _, _, _, _, _, _, _, _, _, _, rfl, _⟩ := h; rfl) | (obtain ⟨_, _, _, _, _, _, _, _, _, _, _, _, _, _, _, _, _, _, _, _, _, _, rfl, _⟩ := h; rfl) | (obtain ⟨_, _, _, _, _, _, _, _, _, _, _, _, _, _, _, _, _, _, _, _, _, _, _, rfl, _⟩ := h; rfl)
  refine ⟨_, (pss_cons (ps_asg (pe_c c_law_made (hr.mono (by decide)) takesD (pa_cons (pv 0) (pa_cons pe_int pa_nil))) (pg_tupK K (by rfl) (n := 3) (pgs_cons (pg_name (i := 3) nd rfl (.inl rfl)) (pgs_cons (pg_name (i := 4) nd rfl (.inl rfl)) (pgs_cons (pg_name (i := 5) nd rfl (.inl rfl)) pgs_nil)))))
    (pss_cons (ps_set (i := 6) nd rfl (.inl rfl) (pe_lst (pa_cons (pe_tup (pa_cons (pv 4) (pa_cons pe_int pa_nil))) pa_nil)))
    (pss_cons (ps_for passD rfl (pi_range1 (by rfl) T.n_range (pa_cons (pv 1) pa_nil)) (pg_name (i := 7) nd rfl (.inl rfl)) (pss_one (ps_if (pt_not (pt_val (pe_c c_law_changed (hr.mono (by decide)) takesD (pa_cons (pv 0) (pa_cons (pv 3) (pa_cons (pv 6) pa_nil)))))) (pss_one (ps_ret pe_bl)) pss_nil)))
    (pss_cons (ps_if (pt_cmpR ((op_neDK K (by rfl) hr.r.units)) (pe_listM (pv 3) R.cl m_rows_so_far (hr.mono (by decide)).r T.n_list) (pe_lc (own := [("before", 8), ("total", 9)]) rfl nd (pi_listK K (by rfl) (pv 6)) (blkOk_by (N := ["barrel", "changes", "undone", "ridge", "row", "adds", "past", "turn", "before", "total"]) (sc := defScope s_law_run) (by decide +kernel)) (fun _ _ _ _ _ => (by exact (pg_tupK K (by rfl) (n := 2) (pgs_cons (pg_name (i := 8) nd rfl (.inl rfl)) (pgs_cons (pg_name (i := 9) nd rfl (.inl rfl)) pgs_nil))))) (fun _ _ _ _ _ => (by exact pts_nil)) (fun _ _ _ _ _ => (by exact (pv 8)))) (nomark _)) (pss_one (ps_ret pe_bl)) pss_nil)
    (pss_cons (ps_for passD rfl (pi_range1 (by rfl) T.n_range (pa_cons (pv 2) pa_nil)) (pg_name (i := 7) nd rfl (.inl rfl)) (pss_cons (ps_if (PW.pt (pw_or (pt_cmpR ((op_neLIK K (by rfl) hr.r.units)) (pe_prA (pv 3) R.cl p_row_now (hr.mono (by decide))) (pe_ix (ix_tupK K) (pe_ix (ix_listK K) (pv 6) (pe_un un_neg pe_int) (fun _ _ => rfl)) pe_int (fun _ _ => rfl)) (nomark _)) (pw_or1 (PW.pt (pw_and (pt_val (pv 5)) (pw_and1 (pt_cmpR (op_ne) (pe_prA (pv 3) (fun _ => R.cl true) p_sum_now (hr.mono (by decide))) (pe_ix (ix_tupK K) (pe_ix (ix_listK K) (pv 6) (pe_un un_neg pe_int) (fun _ _ => rfl)) pe_int (fun _ _ => rfl)) (nomark _)))))))) (pss_one (ps_ret pe_bl)) pss_nil)
    (pss_cons (ps_expr (pe_bm0 PySem.F.plainAttrs_list PySem.F.slot_list_pop PySem.F.type_list_pop mt_pop (pv 6)))
    (pss_one (ps_expr (pe_mA0 (pv 3) R.cl m_undo (hr.mono (by decide)) takesD))))))
    (pss_cons (ps_if (PW.pt (pw_or (pt_cmpR ((op_neLIK K (by rfl) hr.r.units)) (pe_prA (pv 3) R.cl p_row_now (hr.mono (by decide))) (pe_ix (ix_tupK K) (pe_ix (ix_listK K) (pv 6) (pe_un un_neg pe_int) (fun _ _ => rfl)) pe_int (fun _ _ => rfl)) (nomark _)) (pw_or1 (PW.pt (pw_and (pt_val (pv 5)) (pw_and1 (pt_cmpR (op_ne) (pe_prA (pv 3) (fun _ => R.cl true) p_sum_now (hr.mono (by decide))) (pe_ix (ix_tupK K) (pe_ix (ix_listK K) (pv 6) (pe_un un_neg pe_int) (fun _ _ => rfl)) pe_int (fun _ _ => rfl)) (nomark _)))))))) (pss_one (ps_ret pe_bl)) pss_nil)
    (pss_one (ps_ret (pe_or (pe_cmpR (op_gt) (pe_callB (cl_lenK K) (by rfl) T.n_len (by decide +kernel) (pa_cons (pv 6) pa_nil)) pe_int (nomark _)) (pe_one (pe_c c_law_nothing (hr.mono (by decide)) takesD (pa_cons (pv 3) pa_nil)))))))))))), ?_⟩
  obtain ⟨b, n, c, u, rfl, hb, hn, huc, hc, k⟩ := h
  refine wq_asgG (w_f (ea_cons (ev_var rfl) (ea_cons ev_c ea_nil)) fun H1 e1 => ⟨b, n, 30, [b], rfl, hb.mono e1, by omega, by decide, bar_dom (hb.mono e1), List.mem_singleton.mpr rfl, fun t r L S a2 ad ns H7 s7 hb7 hr hL hS7 ha2 hne hR h2 hz hlen ht => g_three ht ?_⟩)
  have hb1 := hb.mono e1
  have hbr : b ∉ [r, L, S] := by
    simp only [List.mem_cons, List.not_mem_nil, or_false, not_or]
    exact ⟨hb1.ne hr, hb1.ne hL, hb1.ne hS7⟩
  have hab : a2 ≠ b := (hb1.ne ha2).symm
  refine past_go rfl hb7 hR h2 hne hab hbr hz fun q H10 hq e10 haq hst => ?_
  have s010 : Sm [b] H H10 := ((Sm.ex e1).trans s7).trans (Sm.ex e10)
  have hq0 : H q = none := ((Sm.ex e1).trans s7).back hq
  have hL0 := fresh_back e1 hL
  have hS0 := fresh_back e1 hS7
  have fin : ∀ H1, Sm [b, L, S, q] H H1 → Sm [b] H H1 := fun H1 s => ⟨fun x o hx hu => s.1 x o (fun z => by
    simp only [List.mem_cons, List.not_mem_nil, or_false] at z
    rcases z with z | z | z | z
    · exact hx (List.mem_singleton.mpr z)
    · rw [z, hL0] at hu; cases hu
    · rw [z, hS0] at hu; cases hu
    · rw [z, hq0] at hu; cases hu) hu, s.2⟩
  refine q_forR1 (n := (c : Int)) (ea_cons (ev_var rfl) ea_nil) (by omega) (fun i σ' H' => ∃ o7 rows sums, σ' = [some (.ref b), some (.int (c : Int)), some (.int (u : Int)), some (.ref r), some (.ref a2), some (.bl ad), some (.ref q), o7, none, none] ∧ Sm [b, L, S, q] H H' ∧ St CC (q :: r :: L :: S :: [b]) H' b r L S q ad rows sums (n + 500 + i) ∧ rows.length = i + 1)
    (fun H11 e11 => ⟨_, _, _, rfl, (sm_b s010).trans (Sm.ex e11), (hst.toEx e11).le (by omega), rfl⟩) ?_ ?_
  · rintro i σ' H' hi ⟨o7, rows, sums, rfl, s, hst, hl⟩
    have hne : rows ≠ [] := fun z => by rw [z] at hl; simp at hl
    obtain ⟨row, rs, d, ss, rfl, rfl⟩ := hst.sums hne
    rw [List.length_cons] at hl
    refine w_ifS (wt_not (wt_B (w_f (ea_cons (ev_var rfl) (ea_cons (ev_var rfl) (ea_cons (ev_var rfl) ea_nil))) fun H13 e13 => ⟨_, b, r, L, S, q, ad, _, row, rs, d, ss, rfl, hst.toEx e13, by omega, by omega, fun nw d2 H14 s14 hst14 => ⟨true, rfl, if_go_f rfl ?_⟩⟩)))
    exact ⟨_, _, _, rfl, (s.trans (Sm.ex e13)).trans s14, hst14.le (by omega), by simp only [List.length_cons]; omega⟩
  rintro σ' H' ⟨o7, rows, sums, rfl, s, hst, hl⟩
  rw [Int.toNat_natCast] at hl hst
  have hne : rows ≠ [] := fun z => by rw [z] at hl; simp at hl
  refine q_when (b := false) (et_is (et_test (ev_neRows (er_ell (ell_rows hst.rat (by omega) (ev_var rfl))) (er_past hst.pat (by omega) (ev_var rfl) (fun x y => rfl) fun x y H1 => ev_var rfl))) (by simp)) (fun z => nomatch z) fun _ H2 e2 => ?_
  refine q_forR1 (n := (u : Int)) (ea_cons (ev_var rfl) ea_nil) (by omega) (fun i σ' H' => ∃ o7 rows sums, σ' = [some (.ref b), some (.int (c : Int)), some (.int (u : Int)), some (.ref r), some (.ref a2), some (.bl ad), some (.ref q), o7, none, none] ∧ Sm [b, L, S, q] H H' ∧ St CC (q :: r :: L :: S :: [b]) H' b r L S q ad rows sums (n + 500 + c) ∧ rows.length + i = c + 1)
    (fun H11 e11 => ⟨_, rows, sums, rfl, s.trans (Sm.ex (e2.trans e11)), hst.toEx (e2.trans e11), by omega⟩) ?_ ?_
  · rintro i σ' H' hi ⟨o7, rows, sums, rfl, s, hst, hl⟩
    have hne : rows ≠ [] := fun z => by rw [z] at hl; simp at hl; omega
    refine q_when (et_shown hst hne rfl rfl rfl) (fun z => by simp at z) fun _ H3 e3 => ?_
    obtain ⟨row, rs, d, ss, rfl, rfl⟩ := hst.sums hne
    rw [List.length_cons] at hl
    have hne2 : rs ≠ [] := fun z => by rw [z] at hl; simp at hl; omega
    have hst3 := hst.toEx e3
    obtain ⟨ts, t, a3, g1, g2, g3, g4, g5, g6⟩ := hst3.pat.top
    obtain ⟨n1, n2, n3, n4, n5, n6, n7⟩ := hst3.nb
    refine q_pop g1 (ev_var rfl) fun H16 e16 => ?_
    have s7 : Sm [q] H3 (upd H16 q (.lst (ts.reverse.map V.ref))) := (Sm.ex e16).mut (.inl (List.mem_singleton.mpr rfl))
    have hP7 : PAt (q :: r :: L :: S :: [b]) (upd H16 q (.lst (ts.reverse.map V.ref))) q rs ss := ⟨⟨ts, upd_same, g6.frame s7 (one_sub hst.pat.mem)⟩, hst.pat.mem⟩
    have hR7 := hst3.rat.one s7 hst.pat.mem n5.symm n6.symm n7.symm
    obtain ⟨dx, ho⟩ := hR7.obj
    refine w_drop (m_go ad (ev_var rfl) ho (by cases ad <;> rfl) ea_nil fun H17 e17 => ⟨_, r, L, S, row, rs, d, ss, rfl, hR7.ex e17, hne2, fun H18 s18 hR18 => ?_⟩)
    have hLS := (Sm.ex (M := [L, S]) e17).trans s18
    have hst20 := hst3.both s7 hP7 hLS hR18 fun x hx => hst3.zs x (List.mem_cons_of_mem _ hx)
    exact ⟨_, _, _, rfl, ((s.trans (Sm.ex e3)).trans (sm_q s7)).trans (sm_LS hLS), hst20, by omega⟩
  rintro σ' H' ⟨o7, rows, sums, rfl, s, hst, hl⟩
  rw [Int.toNat_natCast] at hl
  have hne : rows ≠ [] := fun z => by rw [z] at hl; simp at hl; omega
  refine q_when (et_shown hst hne rfl rfl rfl) (fun z => by simp at z) fun _ H3 e3 => ?_
  obtain ⟨row, rs, d, ss, rfl, rfl⟩ := hst.sums hne
  have hst3 := hst.toEx e3
  obtain ⟨ts, t, a3, g1, g2, g3, g4, g5, g6⟩ := hst3.pat.top
  have hP := g6.len
  have hlen : (ts.reverse.map V.ref ++ [V.ref t]).length = rs.length + 1 := by rw [List.length_append, List.length_map, List.length_reverse, hP]; rfl
  refine s_ret (v := .bl (decide (((rs.length + 1 : Nat) : Int) > 1) || true)) (ev_orV (ev_op (ev_is (ev_cb (ea_cons (ev_var rfl) ea_nil) (rc_len (sq_of g1))) (by rw [hlen])) ev_c rv_I0) fun hf => ?_) fun H4 e4 => by
    rw [Bool.or_true]; exact k H4 (fin H4 ((s.trans (Sm.ex e3)).trans (Sm.ex e4)))
  have hf := of_decide_eq_false hf
  obtain rfl : rs = [] := List.eq_nil_of_length_eq_zero (by omega)
  exact ev_f (ea_cons (ev_var rfl) ea_nil) (spv_ret fun H5 e5 Q E q => ⟨ad, _, r, L, S, row, d, ss, rfl, hst3.rat.ex e5, q⟩)
theorem ev_run {W W2 : L2.WX} {σ : L2.St} {H : Hp} {a : Addr} {sc : List Int} {kk c u : Nat} (hv : σ[0]? = some (some (.ref a))) (hS : SqL K H a (sc.map V.int)) (hk : kk ≤ 100) (h1 : u ≤ c) (h2 : c ≤ 1000) :
    Ev (tF (spRun CC) W (tCons (tF (spBarrel K) W2 (tCons (tVar 0) (tCons (tC (.int (kk : Int))) tNil))) (tCons (tC (.int (c : Int))) (tCons (tC (.int (u : Int))) tNil)))) σ H (.bl true) := fun H1 e Q q =>
  w_fE (w_cons (w_f (ea_cons (ev_var hv) (ea_cons ev_c ea_nil)) fun H2 e2 => ⟨a, sc, kk, rfl, ex_l (e.trans e2) hS, by omega, fun b H3 hb e3 hbar => w_cons1 ev_c fun H4 e4 => w_cons1 ev_c fun H5 e5 => w_nil ⟨b, 0, c, u, rfl, hbar.mono (e4.trans e5), by decide, h1, h2, fun H6 s6 => q H6 (((Sm.ex (M := [b]) (e2.trans (e3.trans (e4.trans e5)))).trans s6).allNew fun x hx => by rw [List.mem_singleton.mp hx]; exact fresh_back e2 hb)⟩⟩))
theorem sc_law : FnScope ["script"] ["script"] (defScope s_law) := ⟨rfl, rfl, rfl, by decide +kernel, rfl, by decide +kernel, by decide +kernel⟩
theorem ok_law {f : Addr} {fd : FuncData} (F : FnP K "law" s_law f fd) (T : Bl mg) (c_law_barrel : Cal P w K mg base 1 "_law_barrel" (spBarrel K)) (c_law_run : Cal P w K mg base 8 "_law_run" (spRun CC))  : FnB P w K mg base 10 f fd ["script"] (spLaw K) := by
  have nd := sc_law.nd
  refine fn_body F sc_law (fun vs H Q E h => ?_) (fun cdv A outer s H vs Q E hr h => ?_)
  · first | (obtain ⟨rfl, _⟩ := h; rfl) | (obtain ⟨_, rfl, _⟩ := h; rfl) | (obtain ⟨_, _, rfl, _⟩ := h; rfl) | (obtain ⟨_, _, _, rfl, _⟩ := h; rfl) | (obtain ⟨_, _, _, _, rfl, _⟩ := h; rfl) | (obtain ⟨_, _, _, _, _, rfl, _⟩ := h; rfl) | (obtain ⟨_, _, _, _, _, _, rfl, _⟩ := h; rfl) | (obtain ⟨_, _, _, _, _, _, _, rfl, _⟩ := h; rfl) | (obtain ⟨_, _, _, _, _, _, _, _, rfl, _⟩ := h; rfl) | (obtain ⟨_, _, _, _, _, _, _, _, _, rfl, _⟩ := h; rfl) | (obtain ⟨_, _, _, _, _, _, _, _, _, _, rfl, _⟩ := h; rfl) | (obtain ⟨_, _, _, _, _, _, _, _, _, _, _, rfl, _⟩ := h; rfl) | (obtain ⟨_, _, _, _, _, _, _, _, _, _, _, _, rfl, _⟩ := h; rfl) | (obtain ⟨_, _, _, _, _, _, _, _, _, _, _, _, _, rfl, _⟩ := h; rfl) | (obtain ⟨_, _, _, _, _, _, _, _, _, _, _, _, _, _, rfl, _⟩ := h; rfl) | (obtain ⟨_, _, _, _, _, _, _, _, _, _, _, _, _, _, _, rfl, _⟩ := h; rfl) | (obtain ⟨_, _, _, _, _, _, _, _, _, _, _, _, _, _, _, _, rfl, _⟩ := h; rfl) | (obtain ⟨_, _, _, _, _, _, _, _, _, _, _, _, _, _, _, _, _, rfl, _⟩ := h; rfl) | (obtain ⟨_, _, _, _, _, _, _, _, _, _, _, _, _, _, _, _, _, _, rfl, _⟩ := h; rfl) | (obtain ⟨_, _, _, _, _, _, _, _, _, _, _, _, _, _, _, _, _, _, _, rfl, _⟩ := h; rfl) | (obtain ⟨_, _, _, _, _, _, _, _, _, _, _, _, _, _, _, _, _, _, _, _, rfl, _⟩ := h; rfl) | (obtain ⟨_, _, _, _, _, _, _, _, _, _, _, _, _, _, _, _, _, _, _, _, _, rfl, _⟩ := h; rfl) | (obtain ⟨_, _, _, _, _, _, _, _, _, _, _, _, _, _, _, _, _, _, _, _, _, _, rfl, _⟩ := h; rfl) | (obtain ⟨_, _, _, _, _, _, _, _, _, _, _, _, _, _, _, _, _, _, _, _, _, _, _, rfl, _⟩ := h; rfl)
  refine ⟨_, (pss_one (ps_ret (pe_and (pe_c c_law_run (hr.mono (by decide)) takesD (pa_cons (pe_c c_law_barrel (hr.mono (by decide)) takesD (pa_cons (pv 0) (pa_cons pe_int pa_nil))) (pa_cons pe_int (pa_cons pe_int pa_nil)))) (pe_one (pe_c c_law_run (hr.mono (by decide)) takesD (pa_cons (pe_c c_law_barrel (hr.mono (by decide)) takesD (pa_cons (pv 0) (pa_cons pe_int pa_nil))) (pa_cons pe_int (pa_cons pe_int pa_nil)))))))), ?_⟩
  obtain ⟨a, sc, rfl, hS, hl, k⟩ := h
  exact s_ret (v := .bl (true && true)) (ev_andV (ev_run (kk := 0) (c := 90) (u := 29) rfl hS (by decide) (by decide) (by decide)) fun _ => ev_run (kk := 1) (c := 58) (u := 58) rfl hS (by decide) (by decide) (by decide)) fun H1 e1 => k H1

end
end Pk
end

section
namespace Pk
open PySem PySem.Spec PyProof.Rows L2
/-! ### the head -/
def fn : List He5.DefA := [⟨fun K => He.ga K "is_integer", "is_integer", "is_integer", defArgs s_is_integer, defBody s_is_integer, defScope s_is_integer, [], []⟩,
  ⟨fun K => He.ga K "is_row", "is_row", "is_row", defArgs s_is_row, defBody s_is_row, defScope s_is_row, [], []⟩,
  ⟨fun K => He.ga K "need_row", "need_row", "need_row", defArgs s_need_row, defBody s_need_row, defScope s_need_row, [], []⟩,
  ⟨fun K => He.ga K "need_rounds", "need_rounds", "need_rounds", defArgs s_need_rounds, defBody s_need_rounds, defScope s_need_rounds, [], []⟩,
  ⟨fun K => He.ga K "peak_places", "peak_places", "peak_places", defArgs s_peak_places, defBody s_peak_places, defScope s_peak_places, [], []⟩,
  ⟨fun K => He.ga K "peeled_once", "peeled_once", "peeled_once", defArgs s_peeled_once, defBody s_peeled_once, defScope s_peeled_once, [], []⟩,
  ⟨fun K => He.ga K "peeled", "peeled", "peeled", defArgs s_peeled, defBody s_peeled, defScope s_peeled, [], []⟩,
  ⟨fun K => He.ga K "_law_draw", "_law_draw", "_law_draw", defArgs s_law_draw, defBody s_law_draw, defScope s_law_draw, [], []⟩,
  ⟨fun K => He.ga K "_law_barrel", "_law_barrel", "_law_barrel", defArgs s_law_barrel, defBody s_law_barrel, defScope s_law_barrel, [], []⟩,
  ⟨fun K => He.ga K "_law_entries", "_law_entries", "_law_entries", defArgs s_law_entries, defBody s_law_entries, defScope s_law_entries, [], []⟩,
  ⟨fun K => He.ga K "_law_one_round", "_law_one_round", "_law_one_round", defArgs s_law_one_round, defBody s_law_one_round, defScope s_law_one_round, [], []⟩,
  ⟨fun K => He.ga K "_law_after", "_law_after", "_law_after", defArgs s_law_after, defBody s_law_after, defScope s_law_after, [], []⟩,
  ⟨fun K => He.ga K "_law_made", "_law_made", "_law_made", defArgs s_law_made, defBody s_law_made, defScope s_law_made, [], []⟩,
  ⟨fun K => He.ga K "_law_nothing", "_law_nothing", "_law_nothing", defArgs s_law_nothing, defBody s_law_nothing, defScope s_law_nothing, [], []⟩,
  ⟨fun K => He.ga K "_law_changed", "_law_changed", "_law_changed", defArgs s_law_changed, defBody s_law_changed, defScope s_law_changed, [], []⟩,
  ⟨fun K => He.ga K "_law_run", "_law_run", "_law_run", defArgs s_law_run, defBody s_law_run, defScope s_law_run, [], []⟩,
  ⟨fun K => He.ga K "law", "law", "law", defArgs s_law, defBody s_law, defScope s_law, [], []⟩,
  ⟨fun K => He.ma K (He.ga K "Ridge") "go_on", "go_on", "Ridge.go_on", defArgs s_Ridge_go_on, defBody s_Ridge_go_on, defScope s_Ridge_go_on, [], []⟩,
  ⟨fun K => He.ma K (He.ga K "Ridge") "need_place_below", "need_place_below", "Ridge.need_place_below", defArgs s_Ridge_need_place_below, defBody s_Ridge_need_place_below, defScope s_Ridge_need_place_below, [], []⟩,
  ⟨fun K => He.ma K (He.ga K "Ridge") "need_entry", "need_entry", "Ridge.need_entry", defArgs s_Ridge_need_entry, defBody s_Ridge_need_entry, defScope s_Ridge_need_entry, [], []⟩,
  ⟨fun K => pga K (He.ga K "Ridge") "row_now", "row_now", "Ridge.row_now", defArgs s_Ridge_row_now, defBody s_Ridge_row_now, defScope s_Ridge_row_now, [], []⟩,
  ⟨fun K => He.ma K (He.ga K "Ridge") "__len__", "__len__", "Ridge.__len__", defArgs s_Ridge__len, defBody s_Ridge__len, defScope s_Ridge__len, [], []⟩,
  ⟨fun K => pga K (He.ga K "SumRidge") "sum_now", "sum_now", "SumRidge.sum_now", defArgs s_SumRidge_sum_now, defBody s_SumRidge_sum_now, defScope s_SumRidge_sum_now, [], []⟩,
  ⟨fun K => He.ma K (He.ga K "Ridge") "undo", "undo", "Ridge.undo", defArgs s_Ridge_undo, defBody s_Ridge_undo, defScope s_Ridge_undo, [], []⟩,
  ⟨fun K => He.ma K (He.ga K "Ridge") "put", "put", "Ridge.put", defArgs s_Ridge_put, defBody s_Ridge_put, defScope s_Ridge_put, [], []⟩,
  ⟨fun K => He.ma K (He.ga K "Ridge") "change", "change", "Ridge.change", defArgs s_Ridge_change, defBody s_Ridge_change, defScope s_Ridge_change, [], []⟩,
  ⟨fun K => He.ma K (He.ga K "Ridge") "peel", "peel", "Ridge.peel", defArgs s_Ridge_peel, defBody s_Ridge_peel, defScope s_Ridge_peel, [], [("rounds", .int 1)]⟩,
  ⟨fun K => He.ma K (He.ga K "Ridge") "__init__", "__init__", "Ridge.__init__", defArgs s_Ridge__init, defBody s_Ridge__init, defScope s_Ridge__init, [.non], []⟩,
  ⟨fun K => He.ma K (He.ga K "Ridge") "rows_so_far", "rows_so_far", "Ridge.rows_so_far", defArgs s_Ridge_rows_so_far, defBody s_Ridge_rows_so_far, defScope s_Ridge_rows_so_far, [], []⟩]
def sf : List SupD := [⟨fun K => He.ma K (He.ga K "SumRidge") "__init__", "__init__", "SumRidge.__init__", defArgs s_SumRidge__init, defBody s_SumRidge__init, defScope s_SumRidge__init, fun K => He.ga K "SumRidge", (PySem.Challenge.rw_peakpeel_k39_long_histories).prog.main.file, [.non]⟩,
  ⟨fun K => He.ma K (He.ga K "SumRidge") "go_on", "go_on", "SumRidge.go_on", defArgs s_SumRidge_go_on, defBody s_SumRidge_go_on, defScope s_SumRidge_go_on, fun K => He.ga K "SumRidge", (PySem.Challenge.rw_peakpeel_k39_long_histories).prog.main.file, []⟩,
  ⟨fun K => He.ma K (He.ga K "SumRidge") "undo", "undo", "SumRidge.undo", defArgs s_SumRidge_undo, defBody s_SumRidge_undo, defScope s_SumRidge_undo, fun K => He.ga K "SumRidge", (PySem.Challenge.rw_peakpeel_k39_long_histories).prog.main.file, []⟩]
def fa : List He.Fa := [.glo "is_integer", .glo "is_row", .glo "need_row", .glo "need_rounds", .glo "peak_places", .glo "peeled_once", .glo "peeled", .glo "_law_draw", .glo "_law_barrel", .glo "_law_entries", .glo "_law_one_round", .glo "_law_after", .glo "_law_made", .glo "_law_nothing", .glo "_law_changed", .glo "_law_run", .glo "law", .glo "Ridge", .glo "SumRidge", .free "len", .free "max", .free "min", .free "isinstance", .free "list", .free "sum", .free "all", .free "any", .free "range", .free "enumerate", .free "zip", .free "int", .free "str", .free "bool", .free "repr", .free "sorted", .free "super", .free "tuple", .free "set", .free "abs", .free "reversed", .cls "Ridge", .mkr "Ridge", .noat "Ridge" "all_rows", .noat "Ridge" "all_sums", .cls "SumRidge", .mkr "SumRidge", .noat "SumRidge" "all_rows", .noat "SumRidge" "all_sums", .meth "Ridge" "go_on", .meth "SumRidge" "go_on", .meth "Ridge" "need_place_below", .meth "SumRidge" "need_place_below", .meth "Ridge" "need_entry", .meth "SumRidge" "need_entry", .meth "Ridge" "__len__", .meth "SumRidge" "__len__", .meth "Ridge" "undo", .meth "SumRidge" "undo", .meth "Ridge" "put", .meth "SumRidge" "put", .meth "Ridge" "change", .meth "SumRidge" "change", .meth "Ridge" "peel", .meth "SumRidge" "peel", .meth "Ridge" "rows_so_far", .meth "SumRidge" "rows_so_far", .glo "NothingToUndo"]
def ex : List (PySem.W.Frag → Bool) := [fun K => supB K (He.ga K "SumRidge") (He.ga K "SumRidge") "__init__" (He.ma K (He.ga K "Ridge") "__init__"),
  fun K => supB K (He.ga K "SumRidge") (He.ga K "SumRidge") "go_on" (He.ma K (He.ga K "Ridge") "go_on"),
  fun K => supB K (He.ga K "SumRidge") (He.ga K "SumRidge") "undo" (He.ma K (He.ga K "Ridge") "undo"),
  fun K => decide (He.ma K (He.ga K "SumRidge") "need_place_below" = He.ma K (He.ga K "Ridge") "need_place_below"),
  fun K => decide (He.ma K (He.ga K "SumRidge") "need_entry" = He.ma K (He.ga K "Ridge") "need_entry"),
  fun K => decide (He.ma K (He.ga K "SumRidge") "__len__" = He.ma K (He.ga K "Ridge") "__len__"),
  fun K => decide (He.ma K (He.ga K "SumRidge") "put" = He.ma K (He.ga K "Ridge") "put"),
  fun K => decide (He.ma K (He.ga K "SumRidge") "change" = He.ma K (He.ga K "Ridge") "change"),
  fun K => decide (He.ma K (He.ga K "SumRidge") "peel" = He.ma K (He.ga K "Ridge") "peel"),
  fun K => decide (He.ma K (He.ga K "SumRidge") "rows_so_far" = He.ma K (He.ga K "Ridge") "rows_so_far"),
  fun K => propB K (He.ga K "Ridge") "row_now",
  fun K => propB K (He.ga K "SumRidge") "row_now",
  fun K => decide (pga K (He.ga K "SumRidge") "row_now" = pga K (He.ga K "Ridge") "row_now"),
  fun K => propB K (He.ga K "SumRidge") "sum_now",
  fun K => He.conB K "Ridge" "MOST" (.int 60),
  fun K => He.conB K "SumRidge" "MOST" (.int 60),
  errB (fun K => He.ga K "NothingToUndo")]
abbrev Rw : PySem.W.OpenRow := PySem.W.OpenLaw.row PySem.Challenge.rw_peakpeel_k39_long_histories
abbrev hk : PySem.W.Hook := hookP 6 fa fn sf ex
def ob (s : PySem.W.SharedT) : AlP := obsPG 6 fa fn sf ex (HandSHeadRun.getT s)
theorem ob_eq (s : PySem.W.SharedT) : ob s = hk.obs s.abs := obsPG_eq (HandSHeadRun.getT_eq s)
def names0 : List PySem.Str := ["_wall", "__name__", "PeakError", "InvalidRow", "InvalidPlace", "InvalidRounds", "InvalidEntry", "InvalidText", "NothingToUndo", "TooLarge", "is_integer", "is_row", "need_row", "need_rounds", "peak_places", "peeled_once", "peeled", "DIGITS", "MINUS", "EMPTY", "SPACE", "size_in", "integer_in", "read_row", "Ridge", "SumRidge", "_law_barrel", "_law_draw", "_law_entries", "_law_one_round"]
def names1 : List PySem.Str := ["_law_after", "_law_made", "_law_nothing", "_law_changed", "_law_run"]
def names : List PySem.Str := names0 ++ names1
theorem run (w : World) : HandSHeadRun.RunEq Rw (PySem.W.view Rw.prog [39]) hk ob 9000 names w := by
  intro os
  kernel_rfl
end Pk
end

section
namespace Pk
open PySem PySem.Spec PyProof.Rows L2
/-! ### what the head says, put together -/
abbrev CCK (K : PySem.W.Frag) : Bool → Addr := CCo (He.ga K "Ridge") (He.ga K "SumRidge")
abbrev Pg : Program := (PySem.Challenge.rw_peakpeel_k39_long_histories).prog
theorem facts {w : World} {K : PySem.W.Frag} {h : Heap} {mg : Str → Option Value} {f : Addr} (X : K.In h) (G : h.Ns mainGlobals mg) (hfa : mg ("law" : Str) = some (.ref f)) (c : SaysP fa fn sf ex K) :
    ∃ fd : FuncData, (∀ (s : Shared) (v : Value), BindsTo s fd ⟨[v], []⟩ [("script", v)]) ∧ ∀ base : Heap, FnB Pg w K mg base 10 f fd ["script"] (spLaw K) := by
  have T : Bl mg := ⟨He.free_ok X G (c.fact 19 (f := .free "len") rfl), He.free_ok X G (c.fact 20 (f := .free "max") rfl), He.free_ok X G (c.fact 21 (f := .free "min") rfl), He.free_ok X G (c.fact 22 (f := .free "isinstance") rfl), He.free_ok X G (c.fact 23 (f := .free "list") rfl), He.free_ok X G (c.fact 24 (f := .free "sum") rfl), He.free_ok X G (c.fact 25 (f := .free "all") rfl), He.free_ok X G (c.fact 26 (f := .free "any") rfl), He.free_ok X G (c.fact 27 (f := .free "range") rfl), He.free_ok X G (c.fact 28 (f := .free "enumerate") rfl), He.free_ok X G (c.fact 29 (f := .free "zip") rfl), He.free_ok X G (c.fact 30 (f := .free "int") rfl), He.free_ok X G (c.fact 31 (f := .free "str") rfl), He.free_ok X G (c.fact 32 (f := .free "bool") rfl), He.free_ok X G (c.fact 33 (f := .free "repr") rfl), He.free_ok X G (c.fact 34 (f := .free "sorted") rfl), He.free_ok X G (c.fact 35 (f := .free "super") rfl), He.free_ok X G (c.fact 36 (f := .free "tuple") rfl), He.free_ok X G (c.fact 37 (f := .free "set") rfl), He.free_ok X G (c.fact 38 (f := .free "abs") rfl), He.free_ok X G (c.fact 39 (f := .free "reversed") rfl)⟩
  obtain ⟨fdL, D_law⟩ := c.def_ 16
  have D_law : FnP K "law" s_law (He.ga K "law") fdL := D_law
  have e := hfa.symm.trans (He.glo_ok X G (c.fact 16 (f := .glo "law") rfl))
  cases e
  have bL := FunD.bindsA (ps := ["script"]) D_law fun _ _ _ _ _ _ us hl => match us, hl with | [_], _ => rfl
  refine ⟨fdL, fun s v => bL s [v] rfl, fun base => ?_⟩
  have R : RCls K (CCK K) := ⟨fun ad => by cases ad; exact He.cls_ok (c.fact 40 (f := .cls "Ridge") rfl); exact He.cls_ok (c.fact 44 (f := .cls "SumRidge") rfl), fun ad => by cases ad; exact He.noat_ok (c.fact 42 (f := .noat "Ridge" "all_rows") rfl); exact He.noat_ok (c.fact 46 (f := .noat "SumRidge" "all_rows") rfl), fun ad => by cases ad; exact He.noat_ok (c.fact 43 (f := .noat "Ridge" "all_sums") rfl); exact He.noat_ok (c.fact 47 (f := .noat "SumRidge" "all_sums") rfl), fun ad => by cases ad; exact He.conB_ok (c.more 14 (e := fun K => He.conB K "Ridge" "MOST" (.int 60)) rfl); exact He.conB_ok (c.more 15 (e := fun K => He.conB K "SumRidge" "MOST" (.int 60)) rfl)⟩
  have htop : (Pg.main.scope.names.lookup ("super" : Str)).isSome = false := by kernel_rfl
  have M0_go_on := He.meth_ok (c.fact 48 (f := .meth "Ridge" "go_on") rfl)
  have M1_go_on := He.meth_ok (c.fact 49 (f := .meth "SumRidge" "go_on") rfl)
  have M0_need_place_below := He.meth_ok (c.fact 50 (f := .meth "Ridge" "need_place_below") rfl)
  have M1_need_place_below := He.meth_ok (c.fact 51 (f := .meth "SumRidge" "need_place_below") rfl)
  have E_need_place_below : He.ma K (He.ga K "SumRidge") "need_place_below" = He.ma K (He.ga K "Ridge") "need_place_below" := of_decide_eq_true (c.more 3 (e := fun K => decide (He.ma K (He.ga K "SumRidge") "need_place_below" = He.ma K (He.ga K "Ridge") "need_place_below")) rfl)
  have M0_need_entry := He.meth_ok (c.fact 52 (f := .meth "Ridge" "need_entry") rfl)
  have M1_need_entry := He.meth_ok (c.fact 53 (f := .meth "SumRidge" "need_entry") rfl)
  have E_need_entry : He.ma K (He.ga K "SumRidge") "need_entry" = He.ma K (He.ga K "Ridge") "need_entry" := of_decide_eq_true (c.more 4 (e := fun K => decide (He.ma K (He.ga K "SumRidge") "need_entry" = He.ma K (He.ga K "Ridge") "need_entry")) rfl)
  have M0_len := He.meth_ok (c.fact 54 (f := .meth "Ridge" "__len__") rfl)
  have M1_len := He.meth_ok (c.fact 55 (f := .meth "SumRidge" "__len__") rfl)
  have E_len : He.ma K (He.ga K "SumRidge") "__len__" = He.ma K (He.ga K "Ridge") "__len__" := of_decide_eq_true (c.more 5 (e := fun K => decide (He.ma K (He.ga K "SumRidge") "__len__" = He.ma K (He.ga K "Ridge") "__len__")) rfl)
  have M0_undo := He.meth_ok (c.fact 56 (f := .meth "Ridge" "undo") rfl)
  have M1_undo := He.meth_ok (c.fact 57 (f := .meth "SumRidge" "undo") rfl)
  have M0_put := He.meth_ok (c.fact 58 (f := .meth "Ridge" "put") rfl)
  have M1_put := He.meth_ok (c.fact 59 (f := .meth "SumRidge" "put") rfl)
  have E_put : He.ma K (He.ga K "SumRidge") "put" = He.ma K (He.ga K "Ridge") "put" := of_decide_eq_true (c.more 6 (e := fun K => decide (He.ma K (He.ga K "SumRidge") "put" = He.ma K (He.ga K "Ridge") "put")) rfl)
  have M0_change := He.meth_ok (c.fact 60 (f := .meth "Ridge" "change") rfl)
  have M1_change := He.meth_ok (c.fact 61 (f := .meth "SumRidge" "change") rfl)
  have E_change : He.ma K (He.ga K "SumRidge") "change" = He.ma K (He.ga K "Ridge") "change" := of_decide_eq_true (c.more 7 (e := fun K => decide (He.ma K (He.ga K "SumRidge") "change" = He.ma K (He.ga K "Ridge") "change")) rfl)
  have M0_peel := He.meth_ok (c.fact 62 (f := .meth "Ridge" "peel") rfl)
  have M1_peel := He.meth_ok (c.fact 63 (f := .meth "SumRidge" "peel") rfl)
  have E_peel : He.ma K (He.ga K "SumRidge") "peel" = He.ma K (He.ga K "Ridge") "peel" := of_decide_eq_true (c.more 8 (e := fun K => decide (He.ma K (He.ga K "SumRidge") "peel" = He.ma K (He.ga K "Ridge") "peel")) rfl)
  have M0_rows_so_far := He.meth_ok (c.fact 64 (f := .meth "Ridge" "rows_so_far") rfl)
  have M1_rows_so_far := He.meth_ok (c.fact 65 (f := .meth "SumRidge" "rows_so_far") rfl)
  have E_rows_so_far : He.ma K (He.ga K "SumRidge") "rows_so_far" = He.ma K (He.ga K "Ridge") "rows_so_far" := of_decide_eq_true (c.more 9 (e := fun K => decide (He.ma K (He.ga K "SumRidge") "rows_so_far" = He.ma K (He.ga K "Ridge") "rows_so_far")) rfl)
  obtain ⟨fs_init, cc_init, cd_init, S_init⟩ := c.sup (P := Pg) 0
  have U_init := supB_ok (c.more 0 (e := fun K => supB K (He.ga K "SumRidge") (He.ga K "SumRidge") "__init__" (He.ma K (He.ga K "Ridge") "__init__")) rfl)
  obtain ⟨fs_go_on, cc_go_on, cd_go_on, S_go_on⟩ := c.sup (P := Pg) 1
  have U_go_on := supB_ok (c.more 1 (e := fun K => supB K (He.ga K "SumRidge") (He.ga K "SumRidge") "go_on" (He.ma K (He.ga K "Ridge") "go_on")) rfl)
  obtain ⟨fs_undo, cc_undo, cd_undo, S_undo⟩ := c.sup (P := Pg) 2
  have U_undo := supB_ok (c.more 2 (e := fun K => supB K (He.ga K "SumRidge") (He.ga K "SumRidge") "undo" (He.ma K (He.ga K "Ridge") "undo")) rfl)
  have MkR := He.mkr_ok (c.fact 41 (f := .mkr "Ridge") rfl)
  have MkS := He.mkr_ok (c.fact 45 (f := .mkr "SumRidge") rfl)
  have gR := He.glo_ok X G (c.fact 17 (f := .glo "Ridge") rfl)
  have gS := He.glo_ok X G (c.fact 18 (f := .glo "SumRidge") rfl)
  have e_NothingToUndo : ErrC K mg "NothingToUndo" (He.ga K "NothingToUndo") := errB_ok (c.more 16 (e := errB (fun K => He.ga K "NothingToUndo")) rfl) (He.glo_ok X G (c.fact 66 (f := .glo "NothingToUndo") rfl))
  obtain ⟨fd_is_integer, D_is_integer⟩ := c.def_ 0
  have c_is_integer := ok_is_integer (P := Pg) (w := w) (K := K) (mg := mg) (base := base) (f := He.ga K "is_integer") D_is_integer (He.glo_ok X G (c.fact 0 (f := .glo "is_integer") rfl)) T 
  obtain ⟨fd_is_row, D_is_row⟩ := c.def_ 1
  have c_is_row := ok_is_row (P := Pg) (w := w) (K := K) (mg := mg) (base := base) (f := He.ga K "is_row") D_is_row (He.glo_ok X G (c.fact 1 (f := .glo "is_row") rfl)) T c_is_integer
  obtain ⟨fd_need_row, D_need_row⟩ := c.def_ 2
  have c_need_row := ok_need_row (P := Pg) (w := w) (K := K) (mg := mg) (base := base) (f := He.ga K "need_row") D_need_row (He.glo_ok X G (c.fact 2 (f := .glo "need_row") rfl)) T c_is_row
  obtain ⟨fd_need_rounds, D_need_rounds⟩ := c.def_ 3
  have c_need_rounds := ok_need_rounds (P := Pg) (w := w) (K := K) (mg := mg) (base := base) (f := He.ga K "need_rounds") D_need_rounds (He.glo_ok X G (c.fact 3 (f := .glo "need_rounds") rfl)) T c_is_integer
  obtain ⟨fd_peak_places, D_peak_places⟩ := c.def_ 4
  have c_peak_places := ok_peak_places (P := Pg) (w := w) (K := K) (mg := mg) (base := base) (f := He.ga K "peak_places") D_peak_places (He.glo_ok X G (c.fact 4 (f := .glo "peak_places") rfl)) T 
  obtain ⟨fd_peeled_once, D_peeled_once⟩ := c.def_ 5
  have c_peeled_once := ok_peeled_once (P := Pg) (w := w) (K := K) (mg := mg) (base := base) (f := He.ga K "peeled_once") D_peeled_once (He.glo_ok X G (c.fact 5 (f := .glo "peeled_once") rfl)) T c_peak_places
  obtain ⟨fd_peeled, D_peeled⟩ := c.def_ 6
  have c_peeled := ok_peeled (P := Pg) (w := w) (K := K) (mg := mg) (base := base) (f := He.ga K "peeled") D_peeled (He.glo_ok X G (c.fact 6 (f := .glo "peeled") rfl)) T c_need_row c_need_rounds c_peeled_once
  obtain ⟨fd_law_draw, D_law_draw⟩ := c.def_ 7
  have c_law_draw := ok_law_draw (P := Pg) (w := w) (K := K) (mg := mg) (base := base) (f := He.ga K "_law_draw") D_law_draw (He.glo_ok X G (c.fact 7 (f := .glo "_law_draw") rfl)) T 
  obtain ⟨fd_law_barrel, D_law_barrel⟩ := c.def_ 8
  have c_law_barrel := ok_law_barrel (P := Pg) (w := w) (K := K) (mg := mg) (base := base) (f := He.ga K "_law_barrel") D_law_barrel (He.glo_ok X G (c.fact 8 (f := .glo "_law_barrel") rfl)) T 
  obtain ⟨fd_law_entries, D_law_entries⟩ := c.def_ 9
  have c_law_entries := ok_law_entries (P := Pg) (w := w) (K := K) (mg := mg) (base := base) (f := He.ga K "_law_entries") D_law_entries (He.glo_ok X G (c.fact 9 (f := .glo "_law_entries") rfl)) T c_law_draw
  obtain ⟨fd_law_one_round, D_law_one_round⟩ := c.def_ 10
  have c_law_one_round := ok_law_one_round (P := Pg) (w := w) (K := K) (mg := mg) (base := base) (f := He.ga K "_law_one_round") D_law_one_round (He.glo_ok X G (c.fact 10 (f := .glo "_law_one_round") rfl)) T 
  obtain ⟨fd_law_after, D_law_after⟩ := c.def_ 11
  have c_law_after := ok_law_after (P := Pg) (w := w) (K := K) (mg := mg) (base := base) (f := He.ga K "_law_after") D_law_after (He.glo_ok X G (c.fact 11 (f := .glo "_law_after") rfl)) T c_law_one_round
  obtain ⟨fd_Ridge_go_on, D_Ridge_go_on⟩ := c.def_ 17
  have b_Ridge_go_on := ok_Ridge_go_on (P := Pg) (w := w) (K := K) (mg := mg) (base := base) (CC := CCK K) (f := He.ma K (He.ga K "Ridge") "go_on") D_Ridge_go_on T R 
  obtain ⟨fd_Ridge_need_place_below, D_Ridge_need_place_below⟩ := c.def_ 18
  have b_Ridge_need_place_below := ok_Ridge_need_place_below (P := Pg) (w := w) (K := K) (mg := mg) (base := base) (CC := CCK K) (f := He.ma K (He.ga K "Ridge") "need_place_below") D_Ridge_need_place_below T R c_is_integer
  have m_need_place_below : CalM Pg w K mg base 2 (CCK K) "need_place_below" [] (fun _ => spPlace) := calM_same M0_need_place_below M1_need_place_below E_need_place_below fun ad => (b_Ridge_need_place_below.fn (D_Ridge_need_place_below.bindsN fun _ _ _ _ _ _ us hl => match us, hl with | [_, _, _], _ => rfl))
  obtain ⟨fd_Ridge_need_entry, D_Ridge_need_entry⟩ := c.def_ 19
  have b_Ridge_need_entry := ok_Ridge_need_entry (P := Pg) (w := w) (K := K) (mg := mg) (base := base) (CC := CCK K) (f := He.ma K (He.ga K "Ridge") "need_entry") D_Ridge_need_entry T R c_is_integer
  have m_need_entry : CalM Pg w K mg base 2 (CCK K) "need_entry" [] (fun _ => spEntry) := calM_same M0_need_entry M1_need_entry E_need_entry fun ad => (b_Ridge_need_entry.fn (D_Ridge_need_entry.bindsN fun _ _ _ _ _ _ us hl => match us, hl with | [_, _], _ => rfl))
  have n_Ridge_go_on := b_Ridge_go_on.fn (D_Ridge_go_on.bindsN fun _ _ _ _ _ _ us hl => match us, hl with | [_, _, _], _ => rfl)
  obtain ⟨fd_Ridge_row_now, D_Ridge_row_now⟩ := c.def_ 20
  have b_Ridge_row_now := ok_Ridge_row_now (P := Pg) (w := w) (K := K) (mg := mg) (base := base) (CC := CCK K) (f := pga K (He.ga K "Ridge") "row_now") D_Ridge_row_now T R 
  have p_row_now : CalP Pg w K mg base 1 (CCK K) "row_now" (spRowNow (CCK K)) := calP_same (propB_ok (c.more 10 (e := fun K => propB K (He.ga K "Ridge") "row_now") rfl)) (propB_ok (c.more 11 (e := fun K => propB K (He.ga K "SumRidge") "row_now") rfl)) (of_decide_eq_true (c.more 12 (e := fun K => decide (pga K (He.ga K "SumRidge") "row_now" = pga K (He.ga K "Ridge") "row_now")) rfl)) fun ad => (b_Ridge_row_now.fn (D_Ridge_row_now.bindsN fun _ _ _ _ _ _ us hl => match us, hl with | [_], _ => rfl)).imp fun vs H Q E h => ⟨ad, h⟩
  obtain ⟨fd_Ridge__len, D_Ridge__len⟩ := c.def_ 21
  have b_Ridge__len := ok_Ridge__len (P := Pg) (w := w) (K := K) (mg := mg) (base := base) (CC := CCK K) (f := He.ma K (He.ga K "Ridge") "__len__") D_Ridge__len T R 
  have m_len : CalM Pg w K mg base 1 (CCK K) "__len__" [] (spLenR (CCK K)) := calM_same M0_len M1_len E_len fun ad => (b_Ridge__len.fn (D_Ridge__len.bindsN fun _ _ _ _ _ _ us hl => match us, hl with | [_], _ => rfl)).imp fun vs H Q E h => ⟨ad, h⟩
  obtain ⟨fd_SumRidge_sum_now, D_SumRidge_sum_now⟩ := c.def_ 22
  have b_SumRidge_sum_now := ok_SumRidge_sum_now (P := Pg) (w := w) (K := K) (mg := mg) (base := base) (CC := CCK K) (f := pga K (He.ga K "SumRidge") "sum_now") D_SumRidge_sum_now T R 
  have p_sum_now : CalP Pg w K mg base 1 (fun _ : Unit => CCK K true) "sum_now" (fun _ => spSumNow (CCK K)) := ⟨fun _ => He.ma K (He.ga K "SumRidge") "sum_now", fun _ => pga K (He.ga K "SumRidge") "sum_now", fun _ => propB_ok (c.more 13 (e := fun K => propB K (He.ga K "SumRidge") "sum_now") rfl), fun _ => b_SumRidge_sum_now.fn (D_SumRidge_sum_now.bindsN fun _ _ _ _ _ _ us hl => match us, hl with | [_], _ => rfl)⟩
  obtain ⟨fd_Ridge_undo, D_Ridge_undo⟩ := c.def_ 23
  have b_Ridge_undo := ok_Ridge_undo (P := Pg) (w := w) (K := K) (mg := mg) (base := base) (CC := CCK K) (f := He.ma K (He.ga K "Ridge") "undo") D_Ridge_undo T R e_NothingToUndo
  have n_Ridge_undo := b_Ridge_undo.fn (D_Ridge_undo.bindsN fun _ _ _ _ _ _ us hl => match us, hl with | [_], _ => rfl)
  obtain ⟨fd_Ridge__init, D_Ridge__init⟩ := c.def_ 27
  have b_Ridge__init := ok_Ridge__init (P := Pg) (w := w) (K := K) (mg := mg) (base := base) (CC := CCK K) (f := He.ma K (He.ga K "Ridge") "__init__") D_Ridge__init T R c_need_row
  have n_Ridge_init := b_Ridge__init.fn (b_init2 D_Ridge__init)
  have c_Ridge : CalC Pg w K mg base 5 "Ridge" (CCK K false) (spNew (CCK K) false) := ⟨gR, _, MkR, (n_Ridge_init.mono (by decide)).imp fun vs H Q E h => new_false h⟩
  have c_SumRidge : CalC Pg w K mg base 5 "SumRidge" (CCK K true) (spNew (CCK K) true) := ⟨gS, _, MkS, (ok_SumRidge_init (P := Pg) (w := w) (K := K) (mg := mg) (base := base) (CC := CCK K) S_init T R htop U_init n_Ridge_init).fn (bS_init2 (CC := CCK K) S_init)⟩
  have m_go_on : CalM Pg w K mg base 2 (CCK K) "go_on" [] (spGo (CCK K)) := calM_two M0_go_on M1_go_on ((n_Ridge_go_on.mono (by decide)).imp fun vs H Q E h => go_false h) ((ok_SumRidge_go_on (P := Pg) (w := w) (K := K) (mg := mg) (base := base) (CC := CCK K) S_go_on T R htop U_go_on n_Ridge_go_on).fn (funS_bindsN S_go_on fun _ _ _ _ _ us hl => match us, hl with | [_, _, _], _ => rfl))
  have m_undoX : CalM Pg w K mg base 2 (CCK K) "undo" [] (spUndoX (CCK K) (He.ga K "NothingToUndo")) := calM_two M0_undo M1_undo ((n_Ridge_undo.mono (by decide)).imp fun vs H Q E h => undo_false h) ((ok_SumRidge_undo (P := Pg) (w := w) (K := K) (mg := mg) (base := base) (CC := CCK K) S_undo T R htop U_undo n_Ridge_undo).fn (funS_bindsN S_undo fun _ _ _ _ _ us hl => match us, hl with | [_], _ => rfl))
  have m_undo : CalM Pg w K mg base 2 (CCK K) "undo" [] (spUndo (CCK K)) := CalM.imp m_undoX fun ad vs H Q E h => undo_ok h
  obtain ⟨fd_Ridge_rows_so_far, D_Ridge_rows_so_far⟩ := c.def_ 28
  have b_Ridge_rows_so_far := ok_Ridge_rows_so_far (P := Pg) (w := w) (K := K) (mg := mg) (base := base) (CC := CCK K) (f := He.ma K (He.ga K "Ridge") "rows_so_far") D_Ridge_rows_so_far T R 
  have m_rows_so_far : CalG Pg w K mg base 1 (CCK K) "rows_so_far" (spRowsG (CCK K)) := calG_same M0_rows_so_far M1_rows_so_far E_rows_so_far (fun ad => GFn.imp b_Ridge_rows_so_far fun vs H Q E h => ⟨ad, h⟩) (D_Ridge_rows_so_far.bindsN fun _ _ _ _ _ _ us hl => match us, hl with | [_], _ => rfl)
  obtain ⟨fd_law_made, D_law_made⟩ := c.def_ 12
  have c_law_made := ok_law_made (P := Pg) (w := w) (K := K) (mg := mg) (base := base) (f := He.ga K "_law_made") D_law_made (He.glo_ok X G (c.fact 12 (f := .glo "_law_made") rfl)) T c_law_draw c_law_entries R c_SumRidge c_Ridge
  obtain ⟨fd_law_nothing, D_law_nothing⟩ := c.def_ 13
  have c_law_nothing := ok_law_nothing (P := Pg) (w := w) (K := K) (mg := mg) (base := base) (f := He.ga K "_law_nothing") D_law_nothing (He.glo_ok X G (c.fact 13 (f := .glo "_law_nothing") rfl)) T R e_NothingToUndo m_undoX
  obtain ⟨fd_Ridge_put, D_Ridge_put⟩ := c.def_ 24
  have b_Ridge_put := ok_Ridge_put (P := Pg) (w := w) (K := K) (mg := mg) (base := base) (CC := CCK K) (f := He.ma K (He.ga K "Ridge") "put") D_Ridge_put T R m_need_place_below m_need_entry m_go_on m_len
  have m_put : CalM Pg w K mg base 4 (CCK K) "put" [] (spPut (CCK K)) := calM_same M0_put M1_put E_put fun ad => (b_Ridge_put.fn (D_Ridge_put.bindsN fun _ _ _ _ _ _ us hl => match us, hl with | [_, _, _], _ => rfl)).imp fun vs H Q E h => ⟨ad, h⟩
  obtain ⟨fd_Ridge_change, D_Ridge_change⟩ := c.def_ 25
  have b_Ridge_change := ok_Ridge_change (P := Pg) (w := w) (K := K) (mg := mg) (base := base) (CC := CCK K) (f := He.ma K (He.ga K "Ridge") "change") D_Ridge_change T R m_need_place_below m_need_entry m_go_on
  have m_change : CalM Pg w K mg base 4 (CCK K) "change" [] (spChange (CCK K)) := calM_same M0_change M1_change E_change fun ad => (b_Ridge_change.fn (D_Ridge_change.bindsN fun _ _ _ _ _ _ us hl => match us, hl with | [_, _, _], _ => rfl)).imp fun vs H Q E h => ⟨ad, h⟩
  obtain ⟨fd_Ridge_peel, D_Ridge_peel⟩ := c.def_ 26
  have b_Ridge_peel := ok_Ridge_peel (P := Pg) (w := w) (K := K) (mg := mg) (base := base) (CC := CCK K) (f := He.ma K (He.ga K "Ridge") "peel") D_Ridge_peel T R c_need_rounds c_peeled m_go_on
  obtain ⟨ds_peel, rv_peel, bd_peel⟩ := b_peel0 D_Ridge_peel
  obtain ⟨mv_peel, bk_peel⟩ := b_peel1 D_Ridge_peel
  have m_peel : CalM Pg w K mg base 5 (CCK K) "peel" [] (fun ad vs H Q E => spPeel (CCK K) ad (vs ++ [.int 1]) H Q E) := calM_same M0_peel M1_peel E_peel fun ad => (b_Ridge_peel.fnD bd_peel rv_peel).imp fun vs H Q E h => ⟨ad, h⟩
  have mk_peel : CalM Pg w K mg base 5 (CCK K) "peel" ["rounds"] (spPeel (CCK K)) := calM_same M0_peel M1_peel E_peel fun ad => (b_Ridge_peel.fnK bk_peel).imp fun vs H Q E h => (by have hl := spPeel_len h; exact ⟨by omega, hl, ad, by rw [List.take_append_drop]; exact h⟩)
  obtain ⟨fd_law_changed, D_law_changed⟩ := c.def_ 14
  have c_law_changed := ok_law_changed (P := Pg) (w := w) (K := K) (mg := mg) (base := base) (f := He.ga K "_law_changed") D_law_changed (He.glo_ok X G (c.fact 14 (f := .glo "_law_changed") rfl)) T c_law_draw c_law_after R m_put m_change m_peel mk_peel
  obtain ⟨fd_law_run, D_law_run⟩ := c.def_ 15
  have c_law_run := ok_law_run (P := Pg) (w := w) (K := K) (mg := mg) (base := base) (f := He.ga K "_law_run") D_law_run (He.glo_ok X G (c.fact 15 (f := .glo "_law_run") rfl)) T c_law_made c_law_changed c_law_nothing R m_undo p_row_now p_sum_now m_rows_so_far
  exact ok_law (P := Pg) (w := w) (K := K) (mg := mg) (base := base) D_law T c_law_barrel c_law_run
end Pk
open PySem PySem.W PySem.Calls PyProof.Rows
theorem PySem.Challenge.cw_peakpeel_k39_long_histories_holds : PySem.Challenge.rw_peakpeel_k39_long_histories.Holds := by
  w_on; o_law
  refine HandSHeadRun.head_any (r := OpenLaw.row PySem.Challenge.rw_peakpeel_k39_long_histories) (q := view (OpenLaw.row PySem.Challenge.rw_peakpeel_k39_long_histories).prog [39]) (H := Pk.hk) (ob := Pk.ob) (M := 9000) (loose := Pk.names) (d := HandSHeadRun.topDef (OpenLaw.row PySem.Challenge.rw_peakpeel_k39_long_histories).prog 39) (kwd := []) Pk.ob_eq
    (by kernel_rfl) (fun s => by kernel_rfl) Pk.run (by kernel_rfl) (by kernel_rfl) (by kernel_rfl) (by rfl) (by first | assumption | decide +kernel) (by decide +kernel) ⟨rfl, rfl, rfl, rfl, rfl, by decide +kernel⟩ ?hw ?hc
  case hw => w_witness2
  case hc =>
    refine Pk.walk_ofG (l := PySem.Challenge.rw_peakpeel_k39_long_histories) (n := 63) (k := 10) (x := "script") rfl (by decide) (by kernel_rfl) (Pk.roomG_caller.mono (by decide)) ?F
    intro w mg fa h Y G hmg0
    obtain ⟨K, KX, c⟩ := Y
    have hmg : mg ("law" : PySem.Str) = some (.ref fa) := by
      have e : (HandSHeadRun.topDef (OpenLaw.row PySem.Challenge.rw_peakpeel_k39_long_histories).prog 39).name = ("law" : PySem.Str) := by kernel_rfl
      rw [← e]
      exact hmg0
    obtain ⟨fd, hb, hF⟩ := Pk.facts (w := w) KX G hmg c
    exact ⟨K, fd, Pk.spLaw K, KX, hb, fun H a ns hl hbits hS => Pk.law_end H a ns hl hbits hS, hF⟩
end
