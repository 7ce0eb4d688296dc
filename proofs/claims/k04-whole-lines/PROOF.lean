import PyProof.Rows.All
import Wide.All
import OpenK.AllK
import Wide.FinOn
import HandS.ForMost
import HandS.StrMore
import HandS.Conv
import HandS.Wide
import HandS.TupAny
import HandS.Defaults
import HandS.ForExc
import HandS.ExcInit
import HandS.ExcSuper
import HandS.HotCalls
import KE.KExcSuper
import HandS.IsInst
import PyProof.StrBlock2
import HandS.ExcField
import KE.KExcIs
import PyProof.Rows.NestShow
import HandS.RevTup
import PyProof.ListNew
import PyProof.StrLawsLast
import PyProof.StrLawsIn
import HandS.Comp
import HandS.NoneIn
import PySem.Challenge.RW_trustnone_k04_whole_lines
set_option Elab.async false
set_option linter.all false
set_option maxRecDepth 100000
set_option maxHeartbeats 2000000
namespace TN
open PySem PySem.Spec PyProof.Rows L2
/-! ### room, and no repr under way -/
structure RoomG (k : Nat) (A : Around) : Prop where
  r : Room k A
  g : A.guards = some []
theorem RoomG.mono {j k : Nat} {A : Around} (h : RoomG k A) (l : j ≤ k) : RoomG j A := ⟨h.r.mono l, h.g⟩
theorem RoomG.deeper {k : Nat} {A : Around} (h : RoomG (k + 1) A) (env : Env) : RoomG k (A.deeper env) := ⟨h.r.deeper env, h.g⟩
/-! ### defs under their global names -/
structure FnG (P : Program) (w : World) (K : PySem.W.Frag) (mg : Str → Option Value) (base : Heap) (CX : CXT) (k : Nat) (f : Addr) (fd : FuncData) (ps : List Str) (sp : Sp) : Prop where
  len : ∀ vs H Q E, sp vs H Q E → vs.length = ps.length
  run : ∀ (A : Around) (outer : List Env) (s : Shared) (H : Hp) (args : Args) (us : List Value) (vs : List V) (Q : VK) (E : XK), RoomG k A → Env0 P w K mg base A outer s H → BindsTo s fd args (ps.zip us) → Vals vs us → sp vs H Q E →
    codeAny (model P w) A (.call (.ref f) args) (CR CX outer P w H s Q E) s
section
variable (P : Program) (w : World) (K : PySem.W.Frag) (mg : Str → Option Value) (base : Heap)
structure DefOk (CX : CXT) (x : Str) (st : Stmt) (k : Nat) (ps : List Str) (sp : Sp) : Prop where
  ex : ∃ f fd, mg x = some (.ref f) ∧ Fun K x x st f fd ∧ FnG P w K mg base CX k f fd ps sp ∧ L2.Binds K fd ps []
structure RawFn (x : Str) (st : Stmt) : Prop where
  ex : ∃ f fd, mg x = some (.ref f) ∧ Fun K x x st f fd
end
section
variable {P : Program} {w : World} {K : PySem.W.Frag} {mg : Str → Option Value} {base : Heap} {CX : CXT}
theorem fn_g {k : Nat} {f : Addr} {name qual : Str} {params : Arguments} {body : List Stmt} {scope : Scope} {dV kV doc pm cdv ct oc : Value} {an od : Option Addr}
    {osl : Array (Option Value)} {N ps : List Str} {sp : Sp} (lk : K.lookup f = some ⟨oc, od, .func (PySem.W.fnOf name qual params body scope dV kV doc pm an cdv ct), osl⟩) (hcd : PySem.W.codeIn K cdv qual = true) (S : FnScope N ps scope)
    (len : ∀ vs H Q E, sp vs H Q E → vs.length = ps.length)
    (hbody : ∀ (A : Around) (outer : List Env) (s : Shared) (H : Hp) (vs : List V) (Q : VK) (E : XK), RoomG k (A.deeper (envOfC qual scope s.heap.objs.size f cdv)) → sp vs H Q E →
      ∃ t, PSs (cxOf CX P w K mg base N qual scope f cdv A outer s H E) body t ∧ t ⟨fun _ H' => Q .non H', Q, fun _ _ => False, fun _ _ => False⟩ (L2.start N vs) H) :
    FnG P w K mg base CX (k + 1) f (PySem.W.fnOf name qual params body scope dV kV doc pm an cdv ct) ps sp := by
  refine ⟨len, fun A outer s H args us vs Q E hr e0 hb r hsp => ?_⟩
  have KX : K.In s.heap := e0.mod.kin.keeps fun b o e => (e0.bs b o e).1
  have lim : s.heap.NoLimit := e0.mod.nolimit.keeps fun b o e => (e0.bs b o e).1
  refine codeAny_call_function hr.r.depth (KX _ _ lk) rfl S.co S.gen rfl (PySem.W.codeRec_of KX hcd) (hb _ _ _ _ (wpAny_newFunctionEnv_cells S.kind (fun y hy => ?_) fun env he s1 x => ?_))
  · obtain ⟨n, v⟩ := y
    exact (S.par n (List.of_mem_zip hy).1).imp id fun q => ⟨q, PySem.W.cellsFrom_some _ _ _ (.inl q)⟩
  · subst he
    refine ⟨lim.keeps x.toInCall.keep, codeAny_func ?_⟩
    obtain ⟨t, ht, hq⟩ := hbody A outer s H vs Q E (hr.deeper _) hsp
    refine wpAny_mono (ht.run [] s1 (L2.start N vs) H _ (inv_start S hr.r.hd e0 (len _ _ _ _ hsp) r x) hq) (fun fl s' hs => ?_) fun e s' hs => hs
    cases fl with
    | ret u => obtain ⟨v, σ', H', J, rv, q⟩ := hs; exact ⟨v, H', J.os, J.bare, J.base, J.hok, rv, q⟩
    | next => obtain ⟨σ', H', J, q⟩ := hs; exact ⟨.non, H', J.os, J.bare, J.base, J.hok, rfl, q⟩
    | brk => exact hs.elim fun _ z => z.elim fun _ z => False.elim z.2
    | cont => exact hs.elim fun _ z => z.elim fun _ z => False.elim z.2
theorem RawFn.okX {x : Str} {st : Stmt} {N ps : List Str} {k : Nat} {sp : Sp} (R : RawFn K mg x st) (S : FnScope N ps (defScope st))
    (hb : ∀ (kV doc pm : Value) (an : Option Addr) (cdv ct : Value) (us : List Value), us.length = ps.length → bindArgs (PySem.W.fnOf x x (defArgs st) (defBody st) (defScope st) .none kV doc pm an cdv ct) ⟨us, []⟩ = pure (ps.zip us))
    (len : ∀ vs H Q E, sp vs H Q E → vs.length = ps.length)
    (hbody : ∀ (f : Addr) (cdv : Value) (A : Around) (outer : List Env) (s : Shared) (H : Hp) (vs : List V) (Q : VK) (E : XK), RoomG k (A.deeper (envOfC x (defScope st) s.heap.objs.size f cdv)) → sp vs H Q E →
      ∃ t, PSs (cxOf CX P w K mg base N x (defScope st) f cdv A outer s H E) (defBody st) t ∧ t ⟨fun _ H' => Q .non H', Q, fun _ _ => False, fun _ _ => False⟩ (L2.start N vs) H) : DefOk P w K mg base CX x st (k + 1) ps sp := by
  obtain ⟨f, fd, hm, F⟩ := R.ex
  refine ⟨f, fd, hm, F, ?_, F.binds hb⟩
  obtain ⟨oc, od, kV, doc, pm, an, cdv, ct, osl, rfl, lk, hcd⟩ := F.ex
  exact fn_g lk hcd S len fun A outer s H vs Q E => hbody f cdv A outer s H vs Q E
theorem RawFn.ok {x : Str} {st : Stmt} {N ps : List Str} {k : Nat} {sp : Sp} (R : RawFn K mg x st) (S : FnScope N ps (defScope st))
    (hb : ∀ (kV doc pm : Value) (an : Option Addr) (cdv ct : Value) (us : List Value), us.length = ps.length → bindArgs (PySem.W.fnOf x x (defArgs st) (defBody st) (defScope st) .none kV doc pm an cdv ct) ⟨us, []⟩ = pure (ps.zip us))
    (len : ∀ vs H Q E, sp vs H Q E → vs.length = ps.length)
    (hbody : ∀ (f : Addr) (cdv : Value) (A : Around) (outer : List Env) (s : Shared) (H : Hp) (vs : List V) (Q : VK) (E : XK), RoomG k (A.deeper (envOfC x (defScope st) s.heap.objs.size f cdv)) → sp vs H Q E →
      ∃ t, PSs (cxOf CX0 P w K mg base N x (defScope st) f cdv A outer s H E).nox (defBody st) t ∧ t ⟨fun _ H' => Q .non H', Q, fun _ _ => False, fun _ _ => False⟩ (L2.start N vs) H) : DefOk P w K mg base CX0 x st (k + 1) ps sp :=
  R.okX S hb len fun f cdv A outer s H vs Q E hr h => let ⟨t, h1, h2⟩ := hbody f cdv A outer s H vs Q E hr h; ⟨t, h1.nox, h2⟩
theorem DefOk.mono {x : Str} {st : Stmt} {j k : Nat} {ps : List Str} {sp : Sp} (D : DefOk P w K mg base CX x st j ps sp) (h : j ≤ k) : DefOk P w K mg base CX x st k ps sp := by
  obtain ⟨f, fd, hm, F, G, b⟩ := D.ex
  exact ⟨f, fd, hm, F, ⟨G.len, fun A outer s H args us vs Q E hr => G.run A outer s H args us vs Q E (hr.mono h)⟩, b⟩
end
/-! ### calls -/
def tCallD (sp : Sp) (E : XK) (t : TA) : TE := fun σ H Q => t σ H fun vs H1 => sp vs H1 Q E
section
variable {X : Cx} {CX : CXT} {k : Nat} {ps : List Str} {sp : Sp} {E : XK} {x : Str} {st : Stmt} {p pos : Pos} {e : Expr} {es : List Expr} {t : TA}
theorem run_g {f : Addr} {fd : FuncData} {pins : List (Addr × Obj)} {σ : L2.St} {H : Hp} {s : Shared} {Q : VK} {us : List Value} {vs : List V} {args : Args} (F : FnG X.prog X.w X.K X.mg X.base CX k f fd ps sp) (hr : RoomG k X.A) (hx : ∀ (e : Value) (s' : Shared), CX X.stack H s E e s' → X.xe e s')
    (I : Inv X pins σ H s) (hb : BindsTo s fd args (ps.zip us)) (r : Vals vs us) (h : sp vs H Q E) : wpAny (model X.prog X.w) X.A (call (.ref f) args.pos args.kw) (EP X pins σ Q) X.xe s := by
  refine wpAny_call (codeAny_mono (F.run X.A X.stack s H args us vs Q E hr I.env0 hb r h) fun r s' hq => ?_)
  cases r with
  | error e => exact hx e s' hq
  | ok fl =>
    cases fl with
    | ret u => exact I.after hq
    | next => exact False.elim hq
    | brk => exact False.elim hq
    | cont => exact False.elim hq
theorem pe_callD (D : DefOk X.prog X.w X.K X.mg X.base CX x st k ps sp) (hr : RoomG k X.A) (hx : Passes CX X E) (ha : PA X (e :: es) t) (hg : Gl X x := by rfl) (hdb : (x == ("__debug__" : Str)) = false := by decide)
    (he : starEach (e :: es) X.env = (false, eval e X.env) :: starEach es X.env := by rfl) (hpl : (backTo pos (starEach es X.env)).any (·.1) = false := by rfl) :
    PE X (.Call (.Name x p) (e :: es) [] pos) (tCallD sp E t) := by
  obtain ⟨f, fd, hm, F, G, b⟩ := D.ex
  refine ⟨fun pins s σ H Q I h => ?_⟩
  refine wpAny_Call_Name_kw (ld_glob I hg hm (PySem.W.callWith_K (h₀ := X.base) I.ok.mod.kin F.kp (thn (ha.run pos pins s σ H _ I h) fun us s1 ⟨vs, H1, I1, r, q⟩ => ⟨I1.kIn, ?_⟩) he hpl) hdb)
  have hl2 : us.length = ps.length := by rw [← r.length]; exact G.len _ _ _ _ q
  have b1 := b s1 us I1.kIn (by rw [List.append_nil]; exact hl2)
  rw [List.append_nil] at b1
  exact run_g (args := ⟨us, []⟩) G hr (fun e s' c => hx pins σ H1 s1 e s' I1 c) I1 b1 r q
theorem pe_callD0 (D : DefOk X.prog X.w X.K X.mg X.base CX x st k [] sp) (hr : RoomG k X.A) (hx : Passes CX X E) (hg : Gl X x := by rfl) (hdb : (x == ("__debug__" : Str)) = false := by decide) :
    PE X (.Call (.Name x p) [] [] pos) (tCallD sp E tNil) := by
  obtain ⟨f, fd, hm, F, G, b⟩ := D.ex
  refine ⟨fun pins s σ H Q I h => ?_⟩
  have b1 := b s [] I.kIn rfl
  refine wpAny_Call_Name_kw (ld_glob I hg hm (PySem.W.callWith_K0 I.kIn F.kp ?_) hdb)
  exact run_g (args := ⟨[], []⟩) G hr (fun e s' c => hx pins σ H s e s' I c) I b1 .nil h
/-- x(k = e, ..): keywords alone; g puts their values in the parameters' order -/
def tCallKw (n : Nat) (sp : Sp) (E : XK) (g : List V → List V) (t : TA) : TE := fun σ H Q => t σ H fun vs H1 => vs.length = n ∧ sp (g vs) H1 Q E
theorem pe_callKw {kws : List Keyword} {ks : List Str} {g : List V → List V} {gu : List Value → List Value} (D : DefOk X.prog X.w X.K X.mg X.base CX x st k ps sp) (hr : RoomG k X.A) (hx : Passes CX X E) (hkw : PK X kws t)
    (hrel : ∀ {zs : List V} {ws : List Value}, Vals zs ws → zs.length = ks.length → Vals (g zs) (gu ws))
    (hb : ∀ (kV doc pm : Value) (an : Option Addr) (cdv ct : Value) (ws : List Value), ws.length = ks.length → bindArgs (PySem.W.fnOf x x (defArgs st) (defBody st) (defScope st) .none kV doc pm an cdv ct) ⟨[], ks.zip ws⟩ = pure (ps.zip (gu ws)))
    (hall : (backToKw pos (keywordEach kws X.env)).all (·.1.isSome) = true := by rfl) (hks : (backToKw pos (keywordEach kws X.env)).filterMap (·.1) = ks := by rfl)
    (hg : Gl X x := by rfl) (hdb : (x == ("__debug__" : Str)) = false := by decide)
    (hpl : ((backTo pos (starEach [] X.env)).any (·.1) || (backToKw pos (keywordEach kws X.env)).any (·.1.isNone)) = false := by rfl) :
    PE X (.Call (.Name x p) [] kws pos) (tCallKw ks.length sp E g t) := by
  obtain ⟨f, fd, hm, F, G, b⟩ := D.ex
  obtain ⟨oc, od, kV, doc, pm, an, cdv, ct, osl, rfl, lk, hcd⟩ := F.ex
  refine ⟨fun pins s σ H Q I h => ?_⟩
  refine wpAny_Call_Name_kw (ld_glob I hg hm (PySem.W.callWith_KW0 (h₀ := X.base) I.ok.mod.kin F.kp hall (thn (hkw.run pos pins s σ H _ I h) fun ws s1 ⟨zs, H1, I1, r, l3, q⟩ => ⟨I1.kIn, ?_⟩) hpl) hdb)
  rw [hks]
  exact run_g (args := ⟨[], ks.zip ws⟩) G hr (fun e s' c => hx pins σ H1 s1 e s' I1 c) I1 (.of_eq (hb kV doc pm an cdv ct ws (by rw [← r.length]; exact l3))) (hrel r l3) q
end
/-! ### values of any form -/
section
variable {X : Cx}
def rAddA (K : PySem.W.Frag) : R2 := fun x y H Q => (∃ i j, x = .int i ∧ y = .int j ∧ Q (.int (i + j)) H) ∨ (∃ i j, x = .str i ∧ y = .str j ∧ i.length + j.length ≤ sizeLine ∧ Q (.str (i ++ j)) H) ∨ rCatA K x y H Q ∨ rCat x y H Q
theorem op_addA : OpR X (binaryOp .Add) (rAddA X.K) := OpR.or op_add (OpR.or op_add_str (OpR.or op_catA op_cat))
def rEqA (K : PySem.W.Frag) : R2 := fun x y H Q => rEq x y H Q ∨ rEqD K x y H Q
def rNeA (K : PySem.W.Frag) : R2 := fun x y H Q => rNe x y H Q ∨ rNeD K x y H Q
theorem op_eqA (hu : X.A.units + 64 < cLine) : OpR X (compareOp .Eq) (rEqA X.K) := OpR.or op_eq (op_eqD hu)
theorem op_neA (hu : X.A.units + 64 < cLine) : OpR X (compareOp .NotEq) (rNeA X.K) := OpR.or op_ne (op_neD hu)
def rInS : R2 := fun x y H Q => ∃ (c : Nat) (z : Str), x = .str ⟨#[c]⟩ ∧ y = .str z ∧ Q (.bl (decide (c ∈ z.cps.toList))) H
def rInA (K : PySem.W.Frag) : R2 := fun x y H Q => rInS x y H Q ∨ rIn K false x y H Q
theorem op_inA : OpR X (compareOp .In) (rInA X.K) := OpR.or op_in_sign op_in_seq
def rLenA (K : PySem.W.Frag) : List V → Hp → VK → Prop := fun xs H Q => (∃ p ys, xs = [.ref p] ∧ (SqL K H p ys ∨ SqT K H p ys) ∧ Q (.int ys.length) H) ∨ ∃ z, xs = [.str z] ∧ z.length ≤ sizeLine ∧ Q (.int z.length) H
theorem call_lenA : CallR X (.builtin "len") (rLenA X.K) := CallR.or call_len_seq call_len_str
def rSlA (K : PySem.W.Frag) : V → Option Int → Option Int → Hp → VK → Prop := fun x lo hi H Q => rSlL K x lo hi H Q ∨ L2.rSlA K x lo hi H Q ∨ rSlS x lo hi H Q
theorem sl_A : SlR X (rSlA X.K) := SlR.or sl_list (SlR.or sl_tupA sl_str)
end

/-! ### the steps of a reading -/
section
variable {K : PySem.W.Frag} {σ : L2.St} {H : Hp} {Q : VK} {R : Bool → Hp → Prop} {RA : List V → Hp → Prop} {nx bk ct : L2.St → Hp → Prop} {rt : VK} {i : Nat} {v x y : V} {ta tb te : TE} {t u : TS} {tt tu : TT} {r : R2} {g : TG} {tl : TA}
theorem s_seq (h : t ⟨u ⟨nx, rt, bk, ct⟩, rt, bk, ct⟩ σ H) : tSeq t u ⟨nx, rt, bk, ct⟩ σ H := h
theorem s_next (h : nx σ H) : tNext ⟨nx, rt, bk, ct⟩ σ H := h
theorem s_asg (h : te σ H fun x H1 => g x σ H1 nx) : tAsg te g ⟨nx, rt, bk, ct⟩ σ H := h
theorem s_gname {q : L2.St → Hp → Prop} (h : q (σ.set i (some v)) H) : gName i v σ H q := h
theorem s_ret (h : te σ H rt) : tRet te ⟨nx, rt, bk, ct⟩ σ H := h
theorem s_retn (h : rt .non H) : tRetN ⟨nx, rt, bk, ct⟩ σ H := h
theorem s_drop (h : te σ H fun _ H1 => nx σ H1) : tDrop te ⟨nx, rt, bk, ct⟩ σ H := h
theorem s_ifs (h : tt σ H fun b H1 => if b = true then t ⟨nx, rt, bk, ct⟩ σ H1 else u ⟨nx, rt, bk, ct⟩ σ H1) : tIfS tt t u ⟨nx, rt, bk, ct⟩ σ H := h
theorem s_par {j : Nat} (h : tl σ H fun vs H1 => ∃ v w, vs = [v, w] ∧ nx ((σ.set i (some v)).set j (some w)) H1) : tPar i j tl ⟨nx, rt, bk, ct⟩ σ H := h
theorem s_two {v w : V} {p : V → V → Prop} (h : p v w) : ∃ a b, [v, w] = [a, b] ∧ p a b := ⟨v, w, rfl, h⟩
theorem s_var (e : σ[i]? = some (some v)) (h : Q v H) : tVar i σ H Q := ⟨v, e, h⟩
theorem s_c (h : Q v H) : tC v σ H Q := h
theorem s_op (h : ta σ H fun x H1 => tb σ H1 fun y H2 => r x y H2 Q) : tOp r ta tb σ H Q := h
theorem s_un {r : V → Hp → VK → Prop} (h : ta σ H fun x H1 => r x H1 Q) : tUn r ta σ H Q := h
theorem s_test (h : te σ H fun x H1 => ∃ k, x = .bl k ∧ R k H1) : tTest te σ H R := h
theorem s_tb (h : te σ H fun x H1 => ∃ k, x = .bl k ∧ R k H1) : tB te σ H R := h
theorem s_bl {b : Bool} {p : Bool → Prop} (h : p b) : ∃ k, V.bl b = V.bl k ∧ p k := ⟨b, rfl, h⟩
theorem s_and (h : tt σ H fun c H1 => if c = true then tu σ H1 R else R false H1) : tAnd tt tu σ H R := h
theorem s_or (h : tt σ H fun c H1 => if c = true then R true H1 else tu σ H1 R) : tOr tt tu σ H R := h
theorem s_not (h : tt σ H fun c H1 => R (!c) H1) : tNot tt σ H R := h
theorem s_andv (h : ta σ H fun x H1 => ∃ c, x = .bl c ∧ if c = true then tb σ H1 Q else Q (.bl false) H1) : tAndV ta tb σ H Q := h
theorem s_orv (h : ta σ H fun x H1 => ∃ c, x = .bl c ∧ if c = true then Q (.bl true) H1 else tb σ H1 Q) : tOrV ta tb σ H Q := h
theorem s_notv (h : ta σ H fun x H1 => ∃ c, x = .bl c ∧ Q (.bl (!c)) H1) : tNotV ta σ H Q := h
theorem s_if (h : tt σ H fun c H1 => if c = true then ta σ H1 Q else tb σ H1 Q) : tIf tt ta tb σ H Q := h
theorem s_nil (h : RA [] H) : tNil σ H RA := h
theorem s_cons (h : te σ H fun x H1 => tl σ H1 fun xs H2 => RA (x :: xs) H2) : tCons te tl σ H RA := h
theorem s_tup (h : tl σ H fun xs H1 => xs.length ≤ sizeLine ∧ ∀ p, H1 p = none → Q (.ref p) (upd H1 p (.tup xs))) : tTup tl σ H Q := h
theorem s_lst (h : tl σ H fun xs H1 => xs.length ≤ sizeLine ∧ ∀ p, H1 p = none → Q (.ref p) (upd H1 p (.lst xs))) : tLst tl σ H Q := h
theorem s_few {xs : List V} {q : Prop} (hl : decide (xs.length ≤ 1000) = true) (h : q) : xs.length ≤ sizeLine ∧ q := ⟨Nat.le_trans (of_decide_eq_true hl) (by decide), h⟩
theorem s_m0 {r : V → List V → Hp → VK → Prop} (h : te σ H fun x H1 => (∃ a, x = .str a) ∧ r x [] H1 Q) : tM0 r te σ H Q := h
theorem s_m1 {r : V → List V → Hp → VK → Prop} (h : ta σ H fun x H1 => (∃ a, x = .str a) ∧ tb σ H1 fun y H2 => r x [y] H2 Q) : tM1 r ta tb σ H Q := h
theorem s_str {z : Str} {q : Prop} (h : q) : (∃ a, V.str z = V.str a) ∧ q := ⟨⟨z, rfl⟩, h⟩
theorem s_cb {r : List V → Hp → VK → Prop} (h : tl σ H fun vs H1 => r vs H1 Q) : tCB r tl σ H Q := h
theorem s_calld {sp : Sp} {E : XK} (h : tl σ H fun vs H1 => sp vs H1 Q E) : tCallD sp E tl σ H Q := h
theorem s_sl {r : V → Option Int → Option Int → Hp → VK → Prop} {tlo thi : TO} (h : te σ H fun x H1 => tlo σ H1 fun l H2 => thi σ H2 fun u H3 => r x l u H3 Q) : tSl r te tlo thi σ H Q := h
theorem s_part {q : Option Int → Hp → Prop} (h : te σ H fun x H1 => ∃ i, x = .int i ∧ q (some i) H1) : tPart te σ H q := h
theorem s_nopart {q : Option Int → Hp → Prop} (h : q none H) : tNoPart σ H q := h
theorem s_int {j : Int} {p : Int → Prop} (h : p j) : ∃ i, V.int j = V.int i ∧ p i := ⟨j, rfl, h⟩
theorem s_i2 {g : Int → Int → V} {i j : Int} (h : Q (g i j) H) : rI0 g (.int i) (.int j) H Q := ⟨i, j, rfl, rfl, h⟩
theorem s_addi {i j : Int} (h : Q (.int (i + j)) H) : rAddA K (.int i) (.int j) H Q := .inl ⟨i, j, rfl, rfl, h⟩
theorem s_adds {i j : Str} (hl : i.length + j.length ≤ sizeLine) (h : Q (.str (i ++ j)) H) : rAddA K (.str i) (.str j) H Q := .inr (.inl ⟨i, j, rfl, rfl, hl, h⟩)
theorem s_addt {a b : Addr} {xs ys : List V} (h1 : H a = some (.tup xs)) (h2 : H b = some (.tup ys)) (n1 : xs ≠ []) (n2 : ys ≠ []) (hl : xs.length + ys.length ≤ sizeLine) (h : ∀ p, H p = none → Q (.ref p) (upd H p (.tup (xs ++ ys)))) :
    rAddA K (.ref a) (.ref b) H Q := .inr (.inr (.inl ⟨a, b, xs, ys, rfl, rfl, .inl (.inl h1), .inl (.inl h2), hl, fun e => absurd e n1, fun _ e => absurd e n2, fun _ _ => h⟩))
theorem s_addl {a b : Addr} {xs ys : List V} (h1 : H a = some (.lst xs)) (h2 : H b = some (.lst ys)) (hl : xs.length + ys.length ≤ sizeLine) (h : ∀ p, H p = none → Q (.ref p) (upd H p (.lst (xs ++ ys)))) :
    rAddA K (.ref a) (.ref b) H Q := .inr (.inr (.inr ⟨a, b, xs, ys, rfl, rfl, h1, h2, hl, h⟩))
theorem s_eqs (hs : scal x y = true) (h : Q (.bl (decide (x = y))) H) : rEqA K x y H Q := .inl ⟨hs, h⟩
theorem s_nes (hs : scal x y = true) (h : Q (.bl (!decide (x = y))) H) : rNeA K x y H Q := .inl ⟨hs, h⟩
theorem s_ins {c : Nat} {z : Str} (h : Q (.bl (decide (c ∈ z.cps.toList))) H) : rInA K (.str ⟨#[c]⟩) (.str z) H Q := .inl ⟨c, z, rfl, rfl, h⟩
theorem s_inq {p : Addr} {xs : List V} (hq : SqL K H p xs ∨ SqT K H p xs) (hx : flatV x = true) (ha : xs.all flatV = true) (h : Q (.bl (inV x xs)) H) : rInA K x (.ref p) H Q := .inr ⟨p, xs, rfl, hq, hx, ha, h⟩
theorem s_lenl {p : Addr} {ys : List V} (hq : H p = some (.lst ys)) (h : Q (.int ys.length) H) : rLenA K [.ref p] H Q := .inl ⟨p, ys, rfl, .inl (.inl (.inl hq)), h⟩
theorem s_lent {p : Addr} {ys : List V} (hq : H p = some (.tup ys)) (h : Q (.int ys.length) H) : rLenA K [.ref p] H Q := .inl ⟨p, ys, rfl, .inr (.inl (.inl hq)), h⟩
theorem s_lens {z : Str} (hl : z.length ≤ sizeLine) (h : Q (.int z.length) H) : rLenA K [.str z] H Q := .inr ⟨z, rfl, hl, h⟩
theorem s_ixl {p : Addr} {xs : List V} {j : Int} (hq : H p = some (.lst xs)) (ha : atI xs j = some v) (h : Q v H) : rIx K (.ref p) (.int j) H Q := .inl ⟨p, xs, j, v, rfl, rfl, .inl (.inl hq), ha, h⟩
theorem s_ixt {p : Addr} {xs : List V} {j : Int} (hq : H p = some (.tup xs)) (ha : atI xs j = some v) (h : Q v H) : rIx K (.ref p) (.int j) H Q := .inr (.inl ⟨p, xs, j, v, rfl, rfl, .inl (.inl hq), ha, h⟩)
theorem s_ixs {z : Str} {j : Int} {c : Nat} (hl : z.length ≤ sizeLine) (ha : atI z.cps.toList j = some c) (h : Q (.str ⟨#[c]⟩) H) : rIx K (.str z) (.int j) H Q := .inr (.inr ⟨z, j, c, rfl, rfl, hl, ha, h⟩)
theorem s_sll {p : Addr} {xs : List V} {lo hi : Option Int} (hq : H p = some (.lst xs)) (h : ∀ q, H q = none → Q (.ref q) (upd H q (.lst (cutV xs lo hi)))) : rSlA K (.ref p) lo hi H Q := .inl ⟨p, xs, rfl, .inl (.inl hq), h⟩
theorem s_sls {z : Str} {lo hi : Option Int} (hl : z.length ≤ sizeLine) (h : Q (.str (cutS z lo hi)) H) : rSlA K (.str z) lo hi H Q := .inr (.inr ⟨z, rfl, hl, h⟩)
/-! ways -/
theorem w_if {p : Prop} [Decidable p] {A B : Prop} (h1 : p → A) (h2 : ¬ p → B) : if decide p = true then A else B := by
  by_cases h : p
  · rw [if_pos (decide_eq_true h)]; exact h1 h
  · rw [if_neg (by simpa using h)]; exact h2 h
theorem w_ifn {p : Prop} [Decidable p] {A B : Prop} (h1 : ¬ p → A) (h2 : p → B) : if (!decide p) = true then A else B := by
  by_cases h : p
  · rw [if_neg (by simp [h])]; exact h2 h
  · rw [if_pos (by simp [h])]; exact h1 h
theorem w_t {b : Bool} {A B : Prop} (e : b = true) (h : A) : if b = true then A else B := by rw [if_pos e]; exact h
theorem w_f {b : Bool} {A B : Prop} (e : b = false) (h : B) : if b = true then A else B := by rw [if_neg (by rw [e]; exact Bool.false_ne_true)]; exact h
theorem up_next {H : Hp} {a b : Addr} {o o' : HO} (n : b ≠ a) (h : H b = some o) : upd H a o' b = some o := by rw [upd_ne n]; exact h
end
end TN

set_option Elab.async false
set_option linter.all false
set_option maxRecDepth 100000
set_option maxHeartbeats 4000000
namespace TN
open PySem PySem.Spec PyProof.Rows L2
section
variable {prog : Program} {w : World} {A : Around} {E : Value → Shared → Prop} {h : Heap} {g : Array GenState} {d : Drawn} {t : Nat} {os : OsState}
/-- the wrapper super().__init__ gives, called -/
theorem mw_call {C x t0 u N : Addr} {nm q : Str} {bs bm : List Value} {sn : List Str} {sub : List Value} {ab : Bool} {col : Option Bool} {dd : Option Addr} {k0 k1 k2 k3 k5 : Option Value} {rest : List Value} {Q : Value → Shared → Prop}
    (hC : h.get? C = some (excClassObj nm q C N bs bm true sn sub ab col dd k0 k1 k2 k3 k5 "ValueError.__new__"))
    (hx : h.get? x = some (HandSPX.excO C t0)) (hu : h.get? u = some (W.kxs_mw "ValueError.__init__" x)) (hz : rest.length ≤ sizeLine)
    (hq : ∀ h' t1, (∀ b o, b ≠ x → h.get? b = some o → h'.get? b = some o) → h'.get? x = some (HandSPX.excO C t1) → Q .none ⟨h', g, d, t, os⟩) :
    wpAny (model prog w) A (call (.ref u) rest) Q E ⟨h, g, d, t, os⟩ := by
  have FB := F.excBase_ValueError
  refine wpAny_call (codeAny_of_tree (show wpAny _ A.in1 (callAny (.ref u) ⟨rest, []⟩) _ _ _ from ?_))
  simp only [callAny]
  refine wpAny_bind (wpAny_load hu ?_)
  simp only [W.kxs_mw, show (Value.type "method-wrapper" == Value.type "method" || Value.type "method-wrapper" == Value.type "builtin_function_or_method" || Value.type "method-wrapper" == Value.type "method-wrapper") = true by decide, if_true]
  refine W.KFB.if_so (by decide) (wpAny_bind (W.check_bound_init FB.toExcCallFacts hC hx rfl (wpAny_bind (wpAny_pure (wpAny_pure ⟨plainId_quiet FB.init.plain _, codeAny_builtin FB.initEntry ?_⟩)))))
  exact W.exc_init_tree (cls := .ref C) (t0 := t0) (dv := none) (c2 := .none) (c3 := .none) (b4 := .bool false) hx hz fun h' a b _ => hq h' _ a b
end
/-! ### an own exception over an own one over ValueError, with super().__init__(..) -/
/-- what the top has left of the class x at C, its __init__ at fI -/
structure SupC (P : Program) (K : PySem.W.Frag) (C fI : Addr) (fd : FuncData) (body : List Stmt) (scope : Scope) (cc cda : Addr) : Prop where
  ox : OexC K C
  iC : PySem.W.findIn K (.ref C) "__init__" = some (some (.ref fI))
  tI : PySem.W.typeIn K (.ref fI) = some (.type "function")
  lk : ∃ oc od osl, K.lookup fI = some ⟨oc, od, .func fd, osl⟩
  fn : ∃ name qual params dV kV doc pm an ct, fd = PySem.W.fnX name qual params body scope [("__class__", cc)] dV kV doc pm an (.ref cda) ct ∧ (params.posonlyargs ++ params.args).head?.map (·.arg) = some ("self" : Str) ∧ PySem.W.codeIn K (.ref cda) qual = true
  code : ∃ ccl cdd vs ccs file tf, K.lookup cda = some ⟨ccl, cdd, .fields vs, ccs⟩ ∧ vs[2]? = some (.str file tf) ∧ ((P.main.file : Str) == file) = true
  cell : ∃ cl cld csl, K.lookup cc = some ⟨cl, cld, .cell (some (.ref C)), csl⟩
  cls : (PySem.W.clsIn K C).isSome = true
  mro : PySem.W.mroIn K C (.ref C) = some true
  sup : PySem.W.nsIn K mainGlobals "super" = some none
  opq : PySem.W.nsIn K cStatics "thirdparty.any" = some none
  sin : PySem.W.ks_superIn K C C "__init__" = some (some (.builtin "ValueError.__init__"))
  sve : PySem.W.subIn K (.ref C) (.type "ValueError") = some true
  top : (P.main.scope.names.lookup ("super" : Str)).isSome = false
structure InitScope (fld : Str) (sc : Scope) : Prop where
  kind : sc.kind = .function
  co : sc.isCoroutine = false
  gen : sc.isGenerator = false
  self : sc.names.lookup ("self" : Str) = some .local
  loc : sc.names.lookup fld = some .local
  cls : sc.names.lookup ("__class__" : Str) = some .free
  sup : sc.names.lookup ("super" : Str) = some .globalImplicit
  nocell : ∀ x ∈ sc.names, x.2 ≠ .cell
  ne : fld ≠ "self"
  dbg : (fld == ("__debug__" : Str)) = false
def initBody (fld : Str) (p0 p1 p2 p3 p4 p5 q1 q2 q3 q4 : Pos) : List Stmt :=
  [.Expr (.Call (.Attribute (.Call (.Name "super" p0) [] [] p1) "__init__" p2) [.Name fld p3] [] p4) p5, .Assign [.Attribute (.Name "self" q1) fld q2] (.Name fld q3) q4]
/-- how the text's super().__init__(fld) is gone through: (by rfl for written places) -/
def InitCall (fld : Str) (p0 p1 p2 p3 p4 : Pos) (pl : Env → Sem Bool) : Prop := ∀ env : Env, eval (.Call (.Attribute (.Call (.Name "super" p0) [] [] p1) "__init__" p2) [.Name fld p3] [] p4) env = (do
      let ov ← attributeBase (.Call (.Name "super" p0) [] [] p1) "__init__" env (eval (.Call (.Name "super" p0) [] [] p1) env)
      standAt p2.atName
      let (f, first) ← holding [ov] (getMethod ov "__init__" (pl env))
      callWith p4 f first (backTo p4 (starEach [.Name fld p3] env)) [])
/-- what __init__(self, fld) leaves -/
def spSup (K : PySem.W.Frag) (C : Addr) (fld : Str) : Sp := fun vs H Q _ => ∃ (a : Addr) (v : V), vs = [.ref a, v] ∧ H a = some (exo a C none) ∧
  ∀ d, H d = none → d ≠ a → Q .non (upd (upd H d (exd d [(fld, v)])) a (exo a C (some d)))
section
variable {P : Program} {w : World} {K : PySem.W.Frag} {mg : Str → Option Value} {base : Heap} {CX : CXT} {C fI cc cda : Addr} {fd : FuncData} {scope : Scope} {fld : Str} {p0 p1 p2 p3 p4 p5 q1 q2 q3 q4 : Pos} {pl : Env → Sem Bool}
theorem sup_init (hev : InitCall fld p0 p1 p2 p3 p4 pl) (T : SupC P K C fI fd (initBody fld p0 p1 p2 p3 p4 p5 q1 q2 q3 q4) scope cc cda) (S : InitScope fld scope) (noF : PySem.W.findIn K (.ref C) fld = some none) : FnOk P w K mg base CX 1 fI fd ["self", fld] (spSup K C fld) := by
  refine ⟨fun vs H Q E ⟨a, v, e, _⟩ => by rw [e]; rfl, fun A outer s H args us vs Q E hr e0 hb r hsp => ?_⟩
  obtain ⟨a, v, rfl, ha, q⟩ := hsp
  cases r with
  | cons ra r1 =>
  cases r1 with
  | cons rv r2 =>
  cases r2
  cases ra
  rename_i u
  obtain ⟨oc, od, osl, lk⟩ := T.lk
  obtain ⟨name, qual, params, dV, kV, doc, pm, an, ct, rfl, hself, hcd⟩ := T.fn
  obtain ⟨ccl, cdd, vs, ccs, file, tf, hcode, hvs, hfile⟩ := T.code
  obtain ⟨cl, cld, csl, hcell⟩ := T.cell
  obtain ⟨nm, qn, N, bs, bm, sn, sub, ab, col, dd, k0, k1, k2, k3, k5, hC, hbm⟩ := T.ox.cls
  obtain ⟨cdD, hD⟩ := Option.isSome_iff_exists.mp T.cls
  have KX : K.In s.heap := e0.mod.kin.keeps fun b o e => (e0.bs b o e).1
  have lim : s.heap.NoLimit := e0.mod.nolimit.keeps fun b o e => (e0.bs b o e).1
  obtain ⟨t1, hx⟩ := exo_at e0.hok ha
  obtain ⟨hp, g, dr, tk, os⟩ := s
  have hself2 : ∃ ar : Arg, (params.posonlyargs ++ params.args).head? = some ar ∧ ar.arg = ("self" : Str) := by
    cases e : (params.posonlyargs ++ params.args).head? with
    | none => rw [e] at hself; cases hself
    | some ar => rw [e] at hself; exact ⟨ar, rfl, Option.some.inj hself⟩
  obtain ⟨ar, har, hnm⟩ := hself2
  obtain ⟨mb, hb1, hb2⟩ := e0.mod.blt
  have hne : ("self" : Str) ≠ fld := Ne.symm S.ne
  refine ks_codeAny_call_defAt hr.depth (KX _ _ lk) rfl lim (PySem.W.codeRec_of KX hcd) rfl hb S.nocell ?_ (fun h₁ hns hk => ?_) S.co S.gen S.kind
  · intro y hy
    have hy' : y ∈ [(("self" : Str), Value.ref a), (fld, u)] := hy
    rcases List.mem_cons.mp hy' with e | hy'
    · rw [e]; exact S.self
    · rcases List.mem_cons.mp hy' with e | hy'
      · rw [e]; exact S.loc
      · cases hy'
  · have kb : ∀ b o, base.get? b = some o → h₁.get? b = some o := fun b o e => hk b o (e0.bs b o e).1
    have K1 : K.In h₁ := e0.mod.kin.keeps kb
    have hb1e : (("self" : Str) == fld) = false := beq_eq_false_iff_ne.mpr hne
    have hv1 : List.lookup ("self" : Str) (([("self" : Str), fld].zip [Value.ref a, u]).reverse) = some (Value.ref a) := by
      show (match ("self" : Str) == fld with | true => some u | false => List.lookup ("self" : Str) [(("self" : Str), Value.ref a)]) = some (Value.ref a)
      rw [hb1e]
      rfl
    have hx1 := hk _ _ hx
    obtain ⟨oD, hD1, hD2⟩ : ∃ oD, h₁.get? C = some oD ∧ oD.data = .cls cdD := by
      unfold PySem.W.clsIn at hD
      split at hD
      · rename_i c d cd' sl ho
        cases hD
        exact ⟨_, K1 _ _ ho, rfl⟩
      · cases hD
    refine ks_wpAt_execs_cons (ks_wpAt_Expr_any (ks_wpAt_MethodCall (pl := pl _) ?_ (hev _)) (by show (scope.kind == .module && _) = false; rw [S.kind]; rfl) rfl)
    refine ks_wpAt_super_base (env := callEnv _ _ fI) S.sup S.cls (by decide) rfl (K1 _ _ lk) rfl har rfl (K1 _ _ hcode) rfl hvs hfile T.top ?_
    refine PySem.W.ks_loadName_global S.kind S.sup (Calls.loadGlobal_builtin (env := callEnv _ _ fI) (e0.mod.glob.keeps kb) (PySem.W.mg_none_of e0.mod.kin e0.mod.glob T.sup) (hb1.keeps kb) ((hb2 _ (by decide)).trans (by rfl)) ⟨rfl, ?_⟩)
    refine wpAny_loadName_free S.kind S.cls rfl ⟨_, K1 _ _ hcell, rfl⟩ ?_
    rw [hnm]
    refine wpAny_loadName_local S.kind S.self hns (v := .ref a) hv1 ?_
    refine ks_wpAny_isType_cls hD1 hD2 ⟨rfl, ?_⟩
    refine ks_wpAny_call_super hD1 hD2 hx1 rfl (fun c e => by cases e) (PySem.W.looks_mroIn K1 T.mro) (fun h2 e2 k2 => ?_)
    have K2 : K.In h2 := K1.keeps k2
    have hsin := T.sin
    unfold PySem.W.ks_superIn at hsin
    rw [hD] at hsin
    have nca : a ≠ C := fun z => by
      rw [z] at hx1
      rw [hx1] at hD1
      cases Option.some.inj hD1
      cases hD2
    have hI : PySem.W.Looks (model P w) h2 (isInstance (.ref a) (.type "ValueError")) true :=
      (show PySem.W.InstAt h2 a (PySem.HandSPX.excO C t1) C none from ⟨k2 _ _ hx1, rfl, rfl, trivial⟩).type.andThen (PySem.W.looks_subIn K2 T.sve)
    refine PySem.W.kxs_getMethod PySem.W.kxs_ValueError e2 (PySem.W.looks_opaque K2 T.opq) (l₀ := cdD.mro) (fun A Q E s k q => wpAny_bind ((PySem.W.looks_clsIn K2 hD) A _ E s k (wpAny_pure q))) rfl K2 hsin hI nca (by decide) ?_
    refine PySem.W.kxs_callWith (i := "ValueError.__init__") (u := h2.objs.size) (x := a) (by rfl) ?_
    refine Calls.evalArgs_plain (Calls.spliced_cons ?_)
    have k3 : ∀ b o, h2.get? b = some o → (h2.push (PySem.W.kxs_mw "ValueError.__init__" a)).get? b = some o := fun b o e => Heap.get?_push_of_some _ e
    have hns3 := hns.keeps fun b o e => k3 b o (k2 b o e)
    have hv2 : List.lookup fld (([("self" : Str), fld].zip [Value.ref a, u]).reverse) = some u := by
      show (match fld == fld with | true => some u | false => List.lookup fld [(("self" : Str), Value.ref a)]) = some u
      rw [beq_self_eq_true]
    refine wpAny_Name (wpAny_loadName_local S.kind S.loc hns3 (v := u) hv2 ?_) S.dbg
    refine Calls.spliced_nil ⟨Heap.get?_push_at rfl rfl, ?_⟩
    refine mw_call (C := C) (x := a) (t0 := t1) (u := h2.objs.size) (k3 _ _ (K2 _ _ hC)) (k3 _ _ (k2 _ _ hx1)) (Heap.get?_push_at rfl rfl) (by show 1 ≤ sizeLine; rw [sizeLine_eq]; decide) (fun h4 t4 k4 hx4 => ?_)
    have hal : a < hp.objs.size := Heap.lt_size hx
    have hns4 : h4.Ns hp.objs.size fun x => List.lookup x (([("self" : Str), fld].zip [Value.ref a, u]).reverse) := by
      obtain ⟨oL, es, ep, hL, r⟩ := hns3
      exact ⟨oL, es, ep, k4 _ _ (Nat.ne_of_gt hal) hL, r⟩
    have kx : ∀ b o, b ≠ a → hp.get? b = some o → h4.get? b = some o := fun b o n e => k4 b o n (k3 b o (k2 b o (hk b o e)))
    have K4 : K.In h4 := fun b o e => kx b o (fun z => by
      rw [z] at e
      have y := e0.mod.kin b o (by rw [z]; exact e)
      rw [z] at y
      have y2 := (e0.bs a o y).2
      rw [ha] at y2
      cases y2) (KX b o e)
    refine wpAt_of_wpAny (wpAny_execs_cons (plainObj_wpAny_Assign_Attribute ?_))
    refine wpAny_Name (wpAny_loadName_local S.kind S.loc hns4 (v := u) hv2 ?_) S.dbg
    refine wpAny_Name (wpAny_loadName_local S.kind S.self hns4 (v := .ref a) hv1 ?_)
    have hcl : PySem.W.clsIn K C = some { name := nm, bases := bs, mro := .ref C :: bm, ns := N, qualname := qn, hasDict := true, slotNames := sn, subclasses := sub, abstract := ab, collection := col, hasDel := false } := by
      unfold PySem.W.clsIn
      rw [hC]
    refine PySem.W.set_plain K4 (ox := PySem.HandSPX.excO C t4) (od := none) ⟨hx4, rfl, rfl, trivial⟩ T.ox.sa ?_
    refine PySem.HandSPX.exc_osa K4 hx4 hcl (show PySem.HandSPX.refsVE (.ref C :: bm) = true from hbm) rfl noF (fun h5 tk5 dx k5 dn dne hx5 hn5 => ?_)
    have sz : hp.objs.size ≤ h4.objs.size := by
      obtain ⟨oL, es, ep, hL, r⟩ := hns4
      exact Nat.le_of_lt (Heap.lt_size hL)
    have dnew : hp.objs.size ≤ dx := Nat.le_trans sz dn
    have hnd : H dx = none := e0.hok.fresh dnew
    have nd : ∀ {b : Addr} {o : Obj}, hp.get? b = some o → b ≠ dx := fun {b o} q => Nat.ne_of_lt (Nat.lt_of_lt_of_le (Heap.lt_size q) dnew)
    have na : ∀ {b : Addr}, H b = none → b ≠ a := fun {b} n z => by rw [z, ha] at n; cases n
    have ky : ∀ b o, b ≠ a → hp.get? b = some o → h5.get? b = some o := fun b o n e => k5 b o n (kx b o n e)
    refine wpAny_execs_nil ⟨.non, upd (upd H dx (exd dx [(fld, v)])) a (exo a C (some dx)), rfl, e0.bare, ?_, ?_, rfl, q dx hnd dne⟩
    · exact {
        keep := fun b o z n _ _ => ky b o (na n) z
        slot := fun b o z n _ _ => ⟨o.slots, ky b o (na n) z⟩
        free := fun b o z n _ => by rw [upd_ne (na n), upd_ne (nd z)]; exact n
        there := fun b o z _ => by
          by_cases hb : b = a
          · exact ⟨_, by rw [hb]; exact hx5⟩
          · exact ⟨o, ky b o hb z⟩
        tups := fun b xs z => by rw [upd_ne (at_ne ha z exo_tup), upd_ne (ne_of_none z hnd)]; exact z
        frzs := fun b o v z => by rw [upd_ne (at_ne ha z exo_frz), upd_ne (ne_of_none z hnd)]; exact z
        tbls := fun b ps z => ⟨#[], by rw [upd_ne (at_ne ha z exo_tbl), upd_ne (ne_of_none z hnd), z]; simp⟩ }
    · intro b o z
      by_cases hb : b = a
      · subst hb
        rw [upd_same] at z
        cases z
        exact exo_ok hx5
      · rw [upd_ne hb] at z
        by_cases hd : b = dx
        · subst hd
          rw [upd_same] at z
          cases z
          exact exd_ok hn5 (relO_put (fs := []) rv fun g => True.intro)
        · rw [upd_ne hd] at z
          refine (e0.hok b o z).stay (fun c v hc y => ky c v ?_ y) (fun c hc => ?_) (fun c xs hc => ?_)
          · rcases hc with hc | hc
            · rw [hc]; exact hb
            · exact at_ne ha hc exo_own
          · rw [upd_ne (at_ne ha hc exo_own), upd_ne (ne_of_none hc hnd)]; exact hc
          · rw [upd_ne (at_ne ha hc exo_tup), upd_ne (ne_of_none hc hnd)]; exact hc
end
end TN

set_option Elab.async false
set_option linter.all false
set_option maxRecDepth 100000
set_option maxHeartbeats 4000000
set_option autoImplicit false
namespace TN
open PySem PySem.Spec PyProof.Rows L2
theorem units64 {k : Nat} {A : Around} (h : RoomG k A) : A.units + 64 < cLine := by have := h.r.un; omega
theorem units1 {k : Nat} {A : Around} (h : RoomG k A) : A.units + 1 < cLine := by have := h.r.un; omega
/-! ### a global constant -/
def GlobV (mg : Str → Option Value) (x : Str) (v : V) : Prop := ∃ u, mg x = some u ∧ RelV v u
theorem pe_gv {X : Cx} {x : Str} {v : V} {pos : Pos} (h : GlobV X.mg x v) (hg : Gl X x := by rfl) (hd : (x == ("__debug__" : Str)) = false := by decide) : PE X (.Name x pos) (tC v) :=
  let ⟨_, hm, r⟩ := h; pe_glob hg hm r hd
/-! ### a call that may raise, anywhere -/
def tCallW (sp : Sp) (W : WX) (t : TA) : TE := fun σ H Q => t σ H fun vs H1 => sp vs H1 Q (fun cls d H' => W cls d σ H')
section
variable {X : Cx} {k : Nat} {ps : List Str} {sp : Sp} {x : Str} {st : Stmt} {p pos : Pos} {e : Expr} {es : List Expr} {t : TA} {W : WX}
theorem pe_callW (tk : Takes X W) (D : DefOk X.prog X.w X.K X.mg X.base (L2.CX X.prog X.w) x st k ps sp) (hr : RoomG k X.A) (ha : PA X (e :: es) t) (hg : Gl X x := by rfl) (hdb : (x == ("__debug__" : Str)) = false := by decide)
    (he : starEach (e :: es) X.env = (false, eval e X.env) :: starEach es X.env := by rfl) (hpl : (backTo pos (starEach es X.env)).any (·.1) = false := by rfl) :
    PE X (.Call (.Name x p) (e :: es) [] pos) (tCallW sp W t) := by
  obtain ⟨f, fd, hm, F, G, b⟩ := D.ex
  refine ⟨fun pins s σ H Q I h => ?_⟩
  refine wpAny_Call_Name_kw (ld_glob I hg hm (PySem.W.callWith_K (h₀ := X.base) I.ok.mod.kin F.kp (thn (ha.run pos pins s σ H _ I h) fun us s1 ⟨vs, H1, I1, r, q⟩ => ⟨I1.kIn, ?_⟩) he hpl) hdb)
  have hl2 : us.length = ps.length := by rw [← r.length]; exact G.len _ _ _ _ q
  have b1 := b s1 us I1.kIn (by rw [List.append_nil]; exact hl2)
  rw [List.append_nil] at b1
  exact run_g (args := ⟨us, []⟩) G hr (fun e s' c => passAt tk σ pins H1 s1 e s' I1 c) I1 b1 r q
def tCallKwW (n : Nat) (sp : Sp) (W : WX) (g : List V → List V) (t : TA) : TE := fun σ H Q => t σ H fun vs H1 => vs.length = n ∧ sp (g vs) H1 Q (fun cls d H' => W cls d σ H')
theorem pe_callKwW {kws : List Keyword} {ks : List Str} {g : List V → List V} {gu : List Value → List Value} (tk : Takes X W) (D : DefOk X.prog X.w X.K X.mg X.base (L2.CX X.prog X.w) x st k ps sp) (hr : RoomG k X.A) (hkw : PK X kws t)
    (hrel : ∀ {zs : List V} {ws : List Value}, Vals zs ws → zs.length = ks.length → Vals (g zs) (gu ws))
    (hb : ∀ (kV doc pm : Value) (an : Option Addr) (cdv ct : Value) (ws : List Value), ws.length = ks.length → bindArgs (PySem.W.fnOf x x (defArgs st) (defBody st) (defScope st) .none kV doc pm an cdv ct) ⟨[], ks.zip ws⟩ = pure (ps.zip (gu ws)))
    (hall : (backToKw pos (keywordEach kws X.env)).all (·.1.isSome) = true := by rfl) (hks : (backToKw pos (keywordEach kws X.env)).filterMap (·.1) = ks := by rfl)
    (hg : Gl X x := by rfl) (hdb : (x == ("__debug__" : Str)) = false := by decide)
    (hpl : ((backTo pos (starEach [] X.env)).any (·.1) || (backToKw pos (keywordEach kws X.env)).any (·.1.isNone)) = false := by rfl) :
    PE X (.Call (.Name x p) [] kws pos) (tCallKwW ks.length sp W g t) := by
  obtain ⟨f, fd, hm, F, G, b⟩ := D.ex
  obtain ⟨oc, od, kV, doc, pm, an, cdv, ct, osl, rfl, lk, hcd⟩ := F.ex
  refine ⟨fun pins s σ H Q I h => ?_⟩
  refine wpAny_Call_Name_kw (ld_glob I hg hm (PySem.W.callWith_KW0 (h₀ := X.base) I.ok.mod.kin F.kp hall (thn (hkw.run pos pins s σ H _ I h) fun ws s1 ⟨zs, H1, I1, r, l3, q⟩ => ⟨I1.kIn, ?_⟩) hpl) hdb)
  rw [hks]
  exact run_g (args := ⟨[], ks.zip ws⟩) G hr (fun e s' c => passAt tk σ pins H1 s1 e s' I1 c) I1 (.of_eq (hb kV doc pm an cdv ct ws (by rw [← r.length]; exact l3))) (hrel r l3) q
/-! ### raise x(e), x an own class with super().__init__(e) and one field -/
structure RaiseC (P : Program) (K : PySem.W.Frag) (mg : Str → Option Value) (x fld : Str) (C : Addr) : Prop where
  gC : mg x = some (.ref C)
  no : PySem.W.findIn K (.ref C) fld = some none
  oc : OexC K C
  ini : ∃ (fI : Addr) (fd : FuncData), PySem.W.findIn K (.ref C) "__init__" = some (some (.ref fI)) ∧ PySem.W.typeIn K (.ref fI) = some (.type "function") ∧ L2.Binds K fd ["self", fld] [] ∧
    ∀ (w : World) (base : Heap) (mg : Str → Option Value) (CX : CXT), FnOk P w K mg base CX 1 fI fd ["self", fld] (spSup K C fld)
theorem pmk_one {C : Addr} {fld : Str} {ta : TA} (T : RaiseC X.prog X.K X.mg x fld C) {j : Nat} (hr : RoomG (j + 2) X.A) (ha : PA X [e] ta) (hg : Gl X x := by rfl) (hdb : (x == ("__debug__" : Str)) = false := by decide)
    (he : starEach [e] X.env = (false, eval e X.env) :: starEach [] X.env := by rfl) (hpl : (backTo pos (starEach [] X.env)).any (·.1) = false := by rfl) :
    PMk X (.Call (.Name x p) [e] [] pos) (tMkO C (spSup X.K C fld) [] ta) := by
  obtain ⟨fI, fd, iC, tI, b, F⟩ := T.ini
  exact pmk_oex (X := X) (p := p) (pos := pos) (CX := CX0) (dvs := []) T.oc iC tI (F X.w X.base X.mg CX0) (hr.r.mono (by omega)) b .nil pass0 hg T.gC ha hdb he hpl
def tRaise1 (K : PySem.W.Frag) (C : Addr) (fld : Str) (W : WX) (ta : TA) : TS := fun _ σ H => tMkO C (spSup K C fld) [] ta σ H fun cls d H' => W cls d σ H'
theorem ps_raise1 {C : Addr} {fld : Str} {ta : TA} {pos2 : Pos} (hc : X.calm = true) (tk : Takes X W) (T : RaiseC X.prog X.K X.mg x fld C) {j : Nat} (hr : RoomG (j + 2) X.A) (ha : PA X [e] ta) (hg : Gl X x := by rfl) (hdb : (x == ("__debug__" : Str)) = false := by decide)
    (he : starEach [e] X.env = (false, eval e X.env) :: starEach [] X.env := by rfl) (hpl : (backTo pos (starEach [] X.env)).any (·.1) = false := by rfl) :
    PS X (.Raise (some (.Call (.Name x p) [e] [] pos)) none pos2) (tRaise1 X.K C fld W ta) := ps_raise hc tk (pmk_one T hr ha hg hdb he hpl)
end
theorem s_raise1 {K : PySem.W.Frag} {C : Addr} {fld : Str} {W : WX} {ta : TA} {D : Ends} {σ : L2.St} {H : Hp}
    (h : ta σ H fun vs H1 => ∃ v, vs = [v] ∧ ∀ d, H1 d = none → W (.ref C) (some d) σ (upd H1 d (.xd [(fld, v)])))
    (mono : ∀ (S S' : List V → Hp → Prop), (∀ vs H, S vs H → S' vs H) → ta σ H S → ta σ H S') : tRaise1 K C fld W ta D σ H := by
  refine mono _ _ (fun vs H1 q => ?_) h
  obtain ⟨v, rfl, q⟩ := q
  refine ⟨(by show 1 ≤ 1000; decide), fun a ha => ⟨a, v, rfl, upd_same, fun d hd hda => ⟨rfl, d, [(fld, v)], upd_same, ?_, ?_, ?_⟩⟩⟩
  · rw [upd_ne hda, upd_same]
  · rw [upd_ne hda] at hd; exact hd
  · have hd' : H1 d = none := by rw [upd_ne hda] at hd; exact hd
    have e : upd (L2.del (upd (upd (upd H1 a (exo a C none)) d (exd d [(fld, v)])) a (exo a C (some d))) a) d (.xd [(fld, v)]) = upd H1 d (.xd [(fld, v)]) := by
      funext b
      by_cases hb : b = d
      · rw [hb, upd_same, upd_same]
      · rw [upd_ne hb, upd_ne hb]
        by_cases hba : b = a
        · rw [hba, del_same, ha]
        · rw [del_ne hba, upd_ne hba, upd_ne hb, upd_ne hba]
    rw [e]
    exact q d hd'
theorem m_one {te : TE} {σ : L2.St} {H : Hp} (h : ∀ (Q Q' : VK), (∀ v H, Q v H → Q' v H) → te σ H Q → te σ H Q') (S S' : List V → Hp → Prop) (k : ∀ vs H, S vs H → S' vs H) (q : tCons te tNil σ H S) : tCons te tNil σ H S' :=
  h _ _ (fun v H z => k [v] H z) q
theorem m_var {i : Nat} {σ : L2.St} {H : Hp} (Q Q' : VK) (k : ∀ v H, Q v H → Q' v H) (q : tVar i σ H Q) : tVar i σ H Q' := let ⟨v, e, z⟩ := q; ⟨v, e, k v H z⟩
theorem m_c {x : V} {σ : L2.St} {H : Hp} (Q Q' : VK) (k : ∀ v H, Q v H → Q' v H) (q : tC x σ H Q) : tC x σ H Q' := k x H q
/-! ### a list or a tuple walked -/
theorem pi_seq {X : Cx} {tg l : Expr} {tl : TE} (hl : PE X l tl) : PI X tg l (fun σ H R => iList X.K tl σ H R ∨ iTup X.K tl σ H R) :=
  ⟨fun pins s σ H R I h => h.elim (fun h => (pi_list hl).run pins s σ H R I h) (fun h => (pi_tup hl).run pins s σ H R I h)⟩
/-! ### text * int -/
def rMulS : R2 := fun x y H Q => ∃ (z : Str) (n : Int), x = .str z ∧ y = .int n ∧ z.length = 1 ∧ n ≤ 1000000 ∧ -1000000 ≤ n ∧ Q (.str (Txt.mul z n)) H
theorem op_mulS {X : Cx} : OpR X (binaryOp .Mult) rMulS := by
  intro pins s σ H x y v u Q I rx ry h
  obtain ⟨z, n, rfl, rfl, hz, h1, h2, q⟩ := h
  obtain ⟨t, rfl⟩ := rx
  obtain ⟨t', rfl⟩ := ry
  refine SB.mul ⟨?_, fun h3 _ => ?_, fun h3 _ => ?_⟩ fun t' k => ⟨.str _, H, I.tok k, ⟨_, rfl⟩, q⟩
  · rw [Bool.or_eq_false_iff]
    exact ⟨decide_eq_false (by omega), decide_eq_false (by omega)⟩
  · rw [hz]
    intro z
    have h4 : 1 ≤ (2 ^ 63 - 1 : Int) / n := Int.le_ediv_of_mul_le (by omega) (by omega)
    omega
  · rw [hz]
    unfold Builtin.Str.tooLong
    refine decide_eq_false ?_
    rw [sizeLine_eq]
    omega
def rMulA : R2 := fun x y H Q => (∃ i j, x = .int i ∧ y = .int j ∧ CMul i j ∧ Q (.int (i * j)) H) ∨ rMulS x y H Q
theorem op_mulA {X : Cx} : OpR X (binaryOp .Mult) rMulA := OpR.or op_mul op_mulS
/-! ### isinstance(x, str) -/
theorem s_isStr {K : PySem.W.Frag} {H : Hp} {Q : VK} {z : Str} (h : Q (.bl true) H) : rIsi K [.str z, .ty "str"] H Q := ⟨.str z, .ty "str", _, _, true, rfl, .ty "str", .base (.str z), kit_ty (by decide +kernel), h⟩
theorem s_isTup {K : PySem.W.Frag} {H : Hp} {Q : VK} {p : Addr} {xs : List V} (hp : H p = some (.tup xs)) (h : Q (.bl true) H) : rIsi K [.ref p, .ty "tuple"] H Q := ⟨.ref p, .ty "tuple", _, _, true, rfl, .ty "tuple", .base (.tup hp), kit_ty (by decide +kernel), h⟩
/-! ### further steps -/
section
variable {K : PySem.W.Frag} {σ : L2.St} {H : Hp} {Q : VK} {nx bk ct : L2.St → Hp → Prop} {rt : VK} {i : Nat} {v x y : V} {te ti : TE} {tc : TT} {tb : TS} {tl : TA} {T : String}
theorem s_callw {sp : Sp} {W : WX} (h : tl σ H fun vs H1 => sp vs H1 Q (fun cls d H' => W cls d σ H')) : tCallW sp W tl σ H Q := h
theorem s_callk {n : Nat} {sp : Sp} {E : XK} {g : List V → List V} (h : tl σ H fun vs H1 => vs.length = n ∧ sp (g vs) H1 Q E) : tCallKw n sp E g tl σ H Q := h
theorem s_callkw {n : Nat} {sp : Sp} {W : WX} {g : List V → List V} (h : tl σ H fun vs H1 => vs.length = n ∧ sp (g vs) H1 Q (fun cls d H' => W cls d σ H')) : tCallKwW n sp W g tl σ H Q := h
theorem w_tt {A B : Prop} (h : A) : if true = true then A else B := by rw [if_pos rfl]; exact h
theorem w_ff {A B : Prop} (h : B) : if false = true then A else B := by rw [if_neg Bool.false_ne_true]; exact h
theorem s_ex2 {z s : Str} {p : Str → Str → Prop} (h : p z s) : ∃ a b, V.str z = V.str a ∧ [V.str s] = [V.str b] ∧ p a b := ⟨z, s, rfl, rfl, h⟩
theorem s_bm {r : V → List V → Hp → VK → Prop} (h : te σ H fun x H1 => tyV K T x H1 ∧ tl σ H1 fun xs H2 => r x xs H2 Q) : tBM K T r te tl σ H Q := h
theorem s_bm0 {r : V → List V → Hp → VK → Prop} (h : te σ H fun x H1 => tyV K T x H1 ∧ r x [] H1 Q) : tBM0 K T r te σ H Q := h
theorem s_tys {z : Str} {q : Prop} (h : q) : tyV K "str" (.str z) H ∧ q := ⟨rfl, h⟩
theorem s_tyl {p : Addr} {xs : List V} {q : Prop} (hp : H p = some (.lst xs)) (h : q) : tyV K "list" (.ref p) H ∧ q := ⟨.inl ⟨rfl, xs, .inl (.inl hp)⟩, h⟩
theorem s_app {p : Addr} {xs : List V} (hp : H p = some (.lst xs)) (hl : xs.length < sizeLine) (h : Q .non (upd H p (.lst (xs ++ [v])))) : rAppend (.ref p) [v] H Q := ⟨p, xs, v, rfl, rfl, hp, hl, h⟩
theorem s_pop {p : Addr} {xs : List V} (hp : H p = some (.lst (xs ++ [v]))) (h : Q v (upd H p (.lst xs))) : rPop (.ref p) [] H Q :=
  ⟨p, xs ++ [v], v, rfl, rfl, hp, by simp, by rw [List.dropLast_concat]; exact h⟩
theorem s_gsub {q : L2.St → Hp → Prop} {t : TSet} (h : te σ H fun o H1 => ti σ H1 fun i H2 => t o i v H2 fun H3 => q σ H3) : gSub te ti t v σ H q := h
theorem s_setl {p : Addr} {xs : List V} {k : Int} {j : Nat} {q : Hp → Prop} (hp : H p = some (.lst xs)) (hj : ixN xs.length k = some j) (h : q (upd H p (.lst (xs.set j v)))) : rSetL (.ref p) (.int k) v H q := ⟨p, xs, k, j, rfl, rfl, hp, hj, h⟩
theorem s_isN (h : Q (.bl (decide (x = .non))) H) : (fun x y H Q => y = V.non ∧ Q (.bl (decide (x = .non))) H : R2) x .non H Q := ⟨rfl, h⟩
theorem s_notN (h : Q (.bl (!decide (x = .non))) H) : (fun x y H Q => y = V.non ∧ Q (.bl (!decide (x = .non))) H : R2) x .non H Q := ⟨rfl, h⟩
theorem s_extl {l b : Addr} {xs zs : List V} (h1 : H l = some (.lst xs)) (h2 : H b = some (.lst zs)) (hl : xs.length + zs.length ≤ sizeLine) (h : Q .non (upd H l (.lst (xs ++ zs)))) : rExtend (.ref l) [.ref b] H Q := ⟨l, b, xs, zs, rfl, rfl, h1, h2, hl, h⟩
/-! loops -/
theorem s_turn {bb : L2.St → Hp → Prop} {W : Nat → L2.St → Hp → Prop} {m : Nat} (h : tb ⟨fun σ' H' => ∃ m', m' < m ∧ W m' σ' H', rt, bb, fun σ' H' => ∃ m', m' < m ∧ W m' σ' H'⟩ σ H) :
    ∃ N : L2.St → Hp → Prop, (∀ σ' H', N σ' H' → ∃ m', m' < m ∧ W m' σ' H') ∧ tb ⟨N, rt, bb, N⟩ σ H := ⟨_, fun _ _ z => z, h⟩
theorem s_pnx (h : nx σ H) : (⟨nx, rt, bk, ct⟩ : Ends).nx σ H := h
theorem s_prt (h : rt v H) : (⟨nx, rt, bk, ct⟩ : Ends).rt v H := h
theorem s_for {wi : TI} {g : TG} (h : wi σ H fun J H1 => ∃ W : Nat → Nat → L2.St → Hp → Prop, (∃ m, W 0 m σ H1) ∧ ∀ i m σ H, W i m σ H →
    (J.stop i H ∧ nx σ H) ∨ (J.go i H ∧ ∃ N : L2.St → Hp → Prop, (∀ σ' H', N σ' H' → ∃ m', m' < m ∧ W (i + 1) m' σ' H') ∧ ∀ x H', J.yld i H x H' → g x σ H' fun σ2 H2 => tb { (⟨nx, rt, bk, ct⟩ : Ends) with nx := N, ct := N, bk := nx } σ2 H2)) : tFor wi g tb ⟨nx, rt, bk, ct⟩ σ H := h
theorem s_ilist {R : It → Hp → Prop} (h : te σ H fun x H1 => ∃ a, x = .ref a ∧ (∃ xs, SqL K H1 a xs) ∧ R (Itl K a) H1) : iList K te σ H R := h
theorem s_itup {R : It → Hp → Prop} (h : te σ H fun x H1 => ∃ a, x = .ref a ∧ (∃ xs, SqT K H1 a xs) ∧ R (Itt K a) H1) : iTup K te σ H R := h
theorem s_rng1 {R : It → Hp → Prop} (h : tl σ H fun vs H1 => ∃ j : Int, vs = [.int j] ∧ -(2 ^ 62) ≤ j ∧ j < 2 ^ 62 ∧ R (Itr 0 j.toNat) H1) : iRng1 tl σ H R := h
theorem s_rng2 {R : It → Hp → Prop} (h : tl σ H fun vs H1 => ∃ i j : Int, vs = [.int i, .int j] ∧ (-(2 ^ 62) ≤ i ∧ i < 2 ^ 62 ∧ -(2 ^ 62) ≤ j ∧ j < 2 ^ 62) ∧ R (Itr i (j - i).toNat) H1) : iRng2 tl σ H R := h
theorem atI_nat' {α : Type} {xs : List α} {k : Nat} {v : α} (h : xs[k]? = some v) : atI xs (k : Int) = some v := by
  obtain ⟨hk, _⟩ := List.getElem?_eq_some_iff.mp h
  unfold atI ixN
  rw [if_pos (by omega), if_pos (by omega)]
  simpa using h
theorem ixN_nat {n k : Nat} (h : k < n) : ixN n (k : Int) = some k := by
  unfold ixN
  rw [if_pos (by omega), if_pos (by omega)]
  simp
theorem sq_l {p : Addr} {xs : List V} (h : H p = some (.lst xs)) : SqL K H p xs := .inl (.inl h)
theorem sq_t {p : Addr} {xs : List V} (h : H p = some (.tup xs)) : SqT K H p xs := .inl (.inl h)
end
end TN

set_option Elab.async false
set_option linter.all false
set_option maxRecDepth 100000
set_option maxHeartbeats 4000000
set_option autoImplicit false
namespace TN
open PySem PySem.Spec PyProof.Rows L2
open L2H (RoomH PinOk cxH inv_startH)
/-! ### a def that is handed the exception which the suite holds -/
abbrev SpX := Addr → Value → Option Addr → Sp
structure FnX (P : Program) (w : World) (K : PySem.W.Frag) (mg : Str → Option Value) (base : Heap) (k : Nat) (f : Addr) (fd : FuncData) (ps : List Str) (sp : SpX) : Prop where
  run : ∀ (A : Around) (outer : List Env) (s : Shared) (H : Hp) (args : Args) (us : List Value) (vs : List V) (Q : VK) (p : Addr × Obj) (cls : Value) (d : Option Addr), RoomH k A → PinOk outer H s p → Zc cls d p.2 → (∃ fv, p.2.data = .fields fv) →
    Env0 P w K mg base A outer s H → vs.length = ps.length → BindsTo s fd args (ps.zip us) → Vals vs us → sp p.1 cls d vs H Q E0 → codeAny (model P w) A (.call (.ref f) args) (CR CX0 outer P w H s Q E0) s
theorem fnx_of {P : Program} {w : World} {K : PySem.W.Frag} {mg : Str → Option Value} {base : Heap} {k : Nat} {f : Addr} {name qual : Str} {params : Arguments} {body : List Stmt} {scope : Scope} {dV kV doc pm cdv ct oc : Value} {an od : Option Addr}
    {osl : Array (Option Value)} {N ps : List Str} {sp : SpX} (lk : K.lookup f = some ⟨oc, od, .func (PySem.W.fnOf name qual params body scope dV kV doc pm an cdv ct), osl⟩) (hcd : PySem.W.codeIn K cdv qual = true) (S : FnScope N ps scope)
    (hbody : ∀ (A : Around) (outer : List Env) (s : Shared) (H : Hp) (vs : List V) (Q : VK) (p : Addr × Obj) (cls : Value) (d : Option Addr), Zc cls d p.2 → (∃ fv, p.2.data = .fields fv) → RoomH k (A.deeper (envOfC qual scope s.heap.objs.size f cdv)) → sp p.1 cls d vs H Q E0 →
      ∃ t, PSs (cxH CX0 P w K mg base N qual scope f cdv A outer s H E0 p) body t ∧ t ⟨fun _ H' => Q .non H', Q, fun _ _ => False, fun _ _ => False⟩ (L2.start N vs) H) :
    FnX P w K mg base (k + 1) f (PySem.W.fnOf name qual params body scope dV kV doc pm an cdv ct) ps sp := by
  refine ⟨fun A outer s H args us vs Q p cls d hr hpin hz hf e0 hl hb r hsp => ?_⟩
  have KX : K.In s.heap := e0.mod.kin.keeps fun b o e => (e0.bs b o e).1
  have lim : s.heap.NoLimit := e0.mod.nolimit.keeps fun b o e => (e0.bs b o e).1
  refine codeAny_call_function hr.depth (KX _ _ lk) rfl S.co S.gen rfl (PySem.W.codeRec_of KX hcd) (hb _ _ _ _ (wpAny_newFunctionEnv_cells S.kind (fun y hy => ?_) fun env he s1 x => ?_))
  · obtain ⟨n, v⟩ := y
    exact (S.par n (List.of_mem_zip hy).1).imp id fun q => ⟨q, PySem.W.cellsFrom_some _ _ _ (.inl q)⟩
  · subst he
    refine ⟨lim.keeps x.toInCall.keep, codeAny_func ?_⟩
    obtain ⟨t, ht, hq⟩ := hbody A outer s H vs Q p cls d hz hf (hr.deeper _) hsp
    refine wpAny_mono (ht.run [] s1 (L2.start N vs) H _ (inv_startH S hpin e0 hl r x) hq) (fun fl s' hs => ?_) fun e s' hs => hs
    cases fl with
    | ret u => obtain ⟨v, σ', H', J, rv, q⟩ := hs; exact ⟨v, H', J.os, J.bare, J.base, J.hok, rv, q⟩
    | next => obtain ⟨σ', H', J, q⟩ := hs; exact ⟨.non, H', J.os, J.bare, J.base, J.hok, rfl, q⟩
    | brk => exact hs.elim fun _ z => z.elim fun _ z => False.elim z.2
    | cont => exact hs.elim fun _ z => z.elim fun _ z => False.elim z.2
structure DefX (P : Program) (w : World) (K : PySem.W.Frag) (mg : Str → Option Value) (base : Heap) (x : Str) (st : Stmt) (k : Nat) (ps : List Str) (sp : SpX) : Prop where
  ex : ∃ f fd, mg x = some (.ref f) ∧ Fun K x x st f fd ∧ FnX P w K mg base k f fd ps sp ∧ L2.Binds K fd ps []
theorem RawFn.okH {P : Program} {w : World} {K : PySem.W.Frag} {mg : Str → Option Value} {base : Heap} {x : Str} {st : Stmt} {N ps : List Str} {k : Nat} {sp : SpX} (R : RawFn K mg x st) (S : FnScope N ps (defScope st))
    (hb : ∀ (kV doc pm : Value) (an : Option Addr) (cdv ct : Value) (us : List Value), us.length = ps.length → bindArgs (PySem.W.fnOf x x (defArgs st) (defBody st) (defScope st) .none kV doc pm an cdv ct) ⟨us, []⟩ = pure (ps.zip us))
    (hbody : ∀ (f : Addr) (cdv : Value) (A : Around) (outer : List Env) (s : Shared) (H : Hp) (vs : List V) (Q : VK) (p : Addr × Obj) (cls : Value) (d : Option Addr), Zc cls d p.2 → (∃ fv, p.2.data = .fields fv) → RoomH k (A.deeper (envOfC x (defScope st) s.heap.objs.size f cdv)) → sp p.1 cls d vs H Q E0 →
      ∃ t, PSs (cxH CX0 P w K mg base N x (defScope st) f cdv A outer s H E0 p) (defBody st) t ∧ t ⟨fun _ H' => Q .non H', Q, fun _ _ => False, fun _ _ => False⟩ (L2.start N vs) H) : DefX P w K mg base x st (k + 1) ps sp := by
  obtain ⟨f, fd, hm, F⟩ := R.ex
  refine ⟨f, fd, hm, F, ?_, F.binds hb⟩
  obtain ⟨oc, od, kV, doc, pm, an, cdv, ct, osl, rfl, lk, hcd⟩ := F.ex
  exact fnx_of lk hcd S fun A outer s H vs Q p cls d => hbody f cdv A outer s H vs Q p cls d
/-! ### the call in the suite -/
def tCallX (sp : SpX) (n : Nat) (a : Addr) (cls : Value) (d : Option Addr) (t : TA) : TE := fun σ H Q => t σ H fun vs H1 => vs.length = n ∧ sp a cls d vs H1 Q E0
section
variable {X : Cx} {k : Nat} {ps : List Str} {sp : SpX} {x : Str} {st : Stmt} {p pos : Pos} {e : Expr} {es : List Expr} {t : TA} {a : Addr} {oe : Obj} {cls : Value} {d : Option Addr}
theorem pe_callX (hp : (a, oe) ∈ X.pn) (hz : Zc cls d oe) (hf : ∃ fv, oe.data = .fields fv) (D : DefX X.prog X.w X.K X.mg X.base x st k ps sp) (hr : RoomH k X.A) (ha : PA X (e :: es) t) (hg : Gl X x := by rfl) (hdb : (x == ("__debug__" : Str)) = false := by decide)
    (he : starEach (e :: es) X.env = (false, eval e X.env) :: starEach es X.env := by rfl) (hpl : (backTo pos (starEach es X.env)).any (·.1) = false := by rfl) :
    PE X (.Call (.Name x p) (e :: es) [] pos) (tCallX sp ps.length a cls d t) := by
  obtain ⟨f, fd, hm, F, G, b⟩ := D.ex
  refine ⟨fun pins s σ H Q I h => ?_⟩
  refine wpAny_Call_Name_kw (ld_glob I hg hm (PySem.W.callWith_K (h₀ := X.base) I.ok.mod.kin F.kp (thn (ha.run pos pins s σ H _ I h) fun us s1 ⟨vs, H1, I1, r, hl, q⟩ => ⟨I1.kIn, ?_⟩) he hpl) hdb)
  have P1 := I1.pin (a, oe) (List.mem_append_left _ hp)
  have hl2 : us.length = ps.length := by rw [← r.length]; exact hl
  have b1 := b s1 us I1.kIn (by rw [List.append_nil]; exact hl2)
  rw [List.append_nil] at b1
  have hpin : PinOk X.stack H1 s1 (a, oe) := ⟨P1.1, P1.2.1, fun hm => (List.mem_cons.mp (I1.stkSub a hm)).elim P1.2.2.1 P1.2.2.2.1, P1.2.2.2.2⟩
  refine wpAny_call (codeAny_mono (G.run X.A X.stack s1 H1 ⟨us, []⟩ us vs Q (a, oe) cls d hr hpin hz hf I1.env0 hl b1 r q) fun r s' hq => ?_)
  cases r with
  | error e => exact False.elim hq
  | ok fl =>
    cases fl with
    | ret u => exact I1.after hq
    | next => exact False.elim hq
    | brk => exact False.elim hq
    | cont => exact False.elim hq
end
/-! ### what is asked of it -/
structure ExcCls (K : PySem.W.Frag) (C : Addr) : Prop where
  hga : PySem.W.findIn K (.ref C) "__getattribute__" = some (some (.builtin "BaseException.__getattribute__"))
  hgt : PySem.W.findIn K (.ref C) "__getattr__" = some none
  hsub : PySem.W.subIn K (.ref C) (.type "BaseException") = some true
  hdC : PySem.W.hasDictIn K C = true
  ha : PySem.W.findIn K (.ref C) "__class__" = some (some (.builtin "object.__class__"))
  hn : PySem.W.specialIn K (.builtin "object.__class__") "__get__" = some (some (.builtin "getset_descriptor.__get__"))
  htk : PySem.W.takesIn K (.builtin "object.__class__") = some true
  hm : PySem.W.mroIn K C (.type "object") = some true
/-- the exception's own dict is there, if it has one -/
def DictAt (H : Hp) (d : Option Addr) : Prop := ∀ dd, d = some dd → ∃ fs, H dd = some (.xd fs)
def rIsX (K : PySem.W.Frag) (a C : Addr) (d : Option Addr) : List V → Hp → VK → Prop := fun xs H Q => DictAt H d ∧
  ((∃ (D : Addr) (b : Bool), xs = [.ref a, .ref D] ∧ PySem.W.kitOne K (.ref C) (.ref D) = some b ∧ Q (.bl b) H) ∨
   (∃ (tp : Addr) (cs : List Addr) (b : Bool), xs = [.ref a, .ref tp] ∧ H tp = some (.tup (cs.map V.ref)) ∧ PySem.W.kitAny K (.ref C) (cs.map Value.ref) = some b ∧ Q (.bl b) H))
section
variable {X : Cx} {a C : Addr} {oe : Obj} {d : Option Addr}
theorem inst_at {pins : List (Addr × Obj)} {σ : L2.St} {H : Hp} {s : Shared} (hp : (a, oe) ∈ X.pn) (hz : Zc (.ref C) d oe) (hf : ∃ fv, oe.data = .fields fv) (I : Inv X pins σ H s) (hd : DictAt H d) : ∃ od, PySem.W.InstAt s.heap a oe C od := by
  obtain ⟨g1, _⟩ := I.pin (a, oe) (List.mem_append_left _ hp)
  obtain ⟨fv, hv⟩ := hf
  cases hh : d with
  | none => exact ⟨none, g1, hz.1, by unfold PySem.W.notCls; rw [hv] <;> rfl, by rw [hz.2, hh]; trivial⟩
  | some dd =>
    obtain ⟨fs, e⟩ := hd dd hh
    obtain ⟨mA, hns, hr⟩ := (show ObjOk X.prog X.w H s.heap dd (.xd fs) from I.hok dd _ e)
    obtain ⟨od, ho, _⟩ := lookIn_ns hns
    exact ⟨some od, g1, hz.1, by unfold PySem.W.notCls; rw [hv] <;> rfl, by rw [hz.2, hh]; exact ho⟩
theorem refs_vals : ∀ {cs : List Addr} {us : List Value}, Vals (cs.map V.ref) us → us = cs.map Value.ref
  | [], _, .nil => rfl
  | c :: cs, _, .cons r t => by rw [refs_vals t]; rw [show _ = Value.ref c from r]; rfl
theorem call_isX (T : ExcCls X.K C) (hp : (a, oe) ∈ X.pn) (hz : Zc (.ref C) d oe) (hf : ∃ fv, oe.data = .fields fv) : CallR X (.builtin "isinstance") (rIsX X.K a C d) := by
  intro pins s σ H xs us Q I r ⟨hd, h⟩
  obtain ⟨od, J⟩ := inst_at hp hz hf I hd
  have hcl : (PySem.W.clsIn X.K C).isSome = true := by
    obtain ⟨cd, hc, _⟩ := PySem.W.any_some T.hdC
    rw [hc]; rfl
  have Z := PySem.W.kitx_exc (K := X.K) (x := a) (C := C) (ox := oe) (od := od) hcl T.hga T.hgt T.hsub T.ha T.hn T.htk T.hm
  rcases h with ⟨D, b, rfl, e, q⟩ | ⟨tp, cs, b, rfl, ht, e, q⟩
  · obtain ⟨u1, u2, rfl, r1, r2⟩ := vals2 r
    cases r1
    cases r2
    exact PySem.W.kia_one Z I.kIn J e (fun z => nomatch z) fun tk => ⟨.bl b, H, I.tok tk, rfl, q⟩
  · obtain ⟨u1, u2, rfl, r1, r2⟩ := vals2 r
    cases r1
    cases r2
    obtain ⟨_, its, rv, o, h1, h2, n, h3⟩ := (show ObjOk X.prog X.w H s.heap tp (.tup (cs.map V.ref)) from I.hok tp _ ht)
    have e3 := refs_vals rv
    subst e3
    obtain ⟨oc, odd, dt, sl⟩ := o
    simp only at h2 h3
    subst h2 h3
    exact PySem.W.kia_tup Z I.kIn J h1 e (fun z => nomatch z) fun tk => ⟨.bl b, H, I.tok tk, rfl, q⟩
/-- err.n -/
def tXn (a : Addr) (d : Option Addr) (n : Str) (te : TE) : TE := fun σ H Q => te σ H fun x H1 => x = .ref a ∧ ∃ (dd : Addr) (fs : List (Str × V)) (v : V), d = some dd ∧ H1 dd = some (.xd fs) ∧ fs.lookup n = some v ∧ Q v H1
theorem pe_xn {e : Expr} {te : TE} {pos : Pos} {n : Str} (T : ExcCls X.K C) (hp : (a, oe) ∈ X.pn) (hz : Zc (.ref C) d oe) (hf : ∃ fv, oe.data = .fields fv) (hno : PySem.W.findIn X.K (.ref C) n = some none) (he : PE X e te)
    (hb : attributeBase e n X.env (eval e X.env) = eval e X.env := by rfl) : PE X (.Attribute e n pos) (tXn a d n te) := by
  refine ⟨fun pins s σ H Q I h => attr_of hb (thn (he.run pins s σ H _ I h) fun u s1 hh => ?_)⟩
  obtain ⟨x, H1, I1, rx, rfl, dd, fs, v, rfl, ea, l, q⟩ := hh
  cases rx
  obtain ⟨g1, _⟩ := I1.pin (a, oe) (List.mem_append_left _ hp)
  obtain ⟨fv, hv⟩ := hf
  obtain ⟨mA, hns, hr⟩ := (show ObjOk X.prog X.w H1 s1.heap dd (.xd fs) from I1.hok dd _ ea)
  obtain ⟨od, ho, hl⟩ := lookIn_ns hns
  obtain ⟨u, hu, ru⟩ := RelO.some_of (v := v) (o := mA n) (by rw [← l]; exact hr n)
  have J : PySem.W.InstAt s1.heap a oe C (some od) := ⟨g1, hz.1, by unfold PySem.W.notCls; rw [hv] <;> rfl, by rw [hz.2]; exact ho⟩
  exact HandSPX.exc_get I1.kIn J T.hga T.hgt T.hsub (PySem.W.findObj_own T.hdC hno rfl (by rw [hl, hu])) (handed_of ru) ⟨v, H1, I1.tok _, ru, q⟩
end
end TN

set_option Elab.async false
set_option linter.all false
set_option maxRecDepth 100000
set_option maxHeartbeats 4000000
set_option autoImplicit false
namespace TN
open PySem PySem.Spec PyProof.Rows L2
/-! ### the end of a law whose defs know that no repr is under way -/
/-- the script as the law meets it: one frozen list, or a list of the module's own -/
structure Meet (K : PySem.W.Frag) (h : Heap) (H : Hp) (a : Addr) (xs : List V) : Prop where
  only : Only H
  seq : SqL K H a xs
  one : ∀ b u, H b = some u → b = a
  out : ∀ u, H a = some u → K.lookup a = none
theorem meet_of {P : Program} {w : World} {K : PySem.W.Frag} {h : Heap} {a : Addr} {vs : List Value} {ns : List Int} (KX : K.In h) (ha : h.get? a = some { cls := .type "list", data := .seq vs.toArray }) (hi : IntsAre vs ns) (hl : ns.length ≤ sizeLine) :
    ∃ H : Hp, Meet K h H a (ns.map V.int) ∧ HOk P w H h := by
  have rv := vals_ints hi
  have lv := hi.length
  cases hk : K.lookup a with
  | some o =>
    have e := (KX a o hk).symm.trans ha
    have e2 : o = { cls := .type "list", data := .seq vs.toArray } := Option.some.inj e
    subst e2
    exact ⟨fun _ => none, ⟨fun _ => .inl rfl, .inr ⟨_, vs.toArray, _, hk, rfl, rfl, rfl, by rw [List.size_toArray, lv]; exact hl, by simpa using rv⟩, (fun b u z => by cases z), (fun u z => by cases z)⟩, (fun b u z => by cases z)⟩
  | none =>
    obtain ⟨oa, hoa⟩ : ∃ oa : Obj, oa = { cls := .type "list", data := .seq vs.toArray } := ⟨_, rfl⟩
    obtain ⟨H, hH⟩ : ∃ H : Hp, H = fun b => if b = a then some (.frz oa (.lst (ns.map V.int))) else none := ⟨_, rfl⟩
    have at_a : H a = some (.frz oa (.lst (ns.map V.int))) := by rw [hH]; exact if_pos rfl
    have off_a : ∀ b, b ≠ a → H b = none := fun b n => by rw [hH]; exact if_neg n
    have one : ∀ b u, H b = some u → b = a := fun b u z => Classical.byContradiction fun n => by rw [off_a b n] at z; cases z
    refine ⟨H, ⟨fun b => ?_, .inl (.inr ⟨oa, at_a⟩), one, fun _ _ => hk⟩, fun b u z => ?_⟩
    · by_cases n : b = a
      · rw [n]; exact .inr ⟨_, _, at_a⟩
      · exact .inl (off_a b n)
    · have e := one b u z
      subst e
      rw [at_a] at z
      cases z
      subst hoa
      exact ⟨ha, by rw [List.length_map]; exact hl, vs, _, rv, ha⟩
theorem law_callG {P : Program} {w : World} {K : PySem.W.Frag} {mg mb : Str → Option Value} {CX : CXT} {k : Nat} {fa a : Addr} {fd : FuncData} {x : Str} {sp : Sp} {s₁ : Shared} {vs : List Value} {ns : List Int}
    (KX : K.In s₁.heap) (hns : s₁.heap.Ns mainGlobals mg) (hb : s₁.heap.Ns builtinsNs mb) (hbb : ∀ x : Str, x ≠ "__name__" → mb x = bootBuiltins x) (hlim : s₁.heap.NoLimit) (hg : s₁.gens = #[])
    (ha : s₁.heap.get? a = some { cls := .type "list", data := .seq vs.toArray }) (hi : IntsAre vs ns) (hl : ns.length ≤ sizeLine) (hr : RoomG k callerA)
    (F : ∀ base : Heap, K.In base → base.Ns mainGlobals mg → FnG P w K mg base CX k fa fd [x] sp) (hbind : ∀ (s : Shared) (u : Value), BindsTo s fd ⟨[u], []⟩ [(x, u)])
    (hsp : ∀ H : Hp, SqL K H a (ns.map V.int) → sp [.ref a] H (fun v _ => v = .bl true) fun _ _ _ => False)
    (hCX : ∀ H e s', CX [] H s₁ (fun _ _ _ => False) e s' → False) :
    codeAny (model P w) callerA (.call (.ref fa) ⟨[.ref a], []⟩) (fun r s' => r = .ok (.ret (.bool true)) ∧ OldK s₁.heap s'.heap ∧ s'.os = s₁.os ∧ AllBare s'.gens) s₁ := by
  obtain ⟨H, M, hok⟩ := meet_of (P := P) (w := w) KX ha hi hl
  have lay : ∀ {b : Addr} {o : Obj}, s₁.heap.get? b = some o → (b = a → False) → (hidT s₁.heap H).get? b = some o := fun {b o} e n => hidT_get e (by
    cases q : H b with
    | none => rfl
    | some u => exact (n (M.one b u q)).elim)
  have nd : ∀ {b : Addr} {m : Str → Option Value}, s₁.heap.Ns b m → (hidT s₁.heap H).Ns b m := fun {b m} ⟨o, es, ep, e, d, r⟩ => ⟨o, es, ep, lay e (fun z => by
    subst z
    have y := Option.some.inj (e.symm.trans ha)
    rw [y] at d
    cases d), d, r⟩
  have hKb : K.In (hidT s₁.heap H) := fun b o e => hidT_get (KX b o e) (by
    cases q : H b with
    | none => rfl
    | some u =>
      have z := M.one b u q
      subst z
      have y := M.out u q
      rw [y] at e
      cases e)
  have e0 : Env0 P w K mg (hidT s₁.heap H) callerA [] s₁ H := {
    frames := rfl
    mod := ⟨hKb, nd hns, ⟨mb, nd hb, hbb⟩, let ⟨mc, h1, h2⟩ := hlim; ⟨mc, nd h1, h2⟩⟩
    bs := fun b o e => of_hidT e
    bsz := Nat.le_of_eq (hidT_size _ _)
    funs := trivial
    frf := fun b z => absurd (show b ∈ ([] : List Addr) from z) List.not_mem_nil
    hok := hok
    bare := .of_eq hg }
  refine codeAny_mono ((F _ hKb (nd hns)).run callerA [] s₁ H ⟨[.ref a], []⟩ [.ref a] [.ref a] _ _ hr e0 (hbind s₁ (.ref a)) (.cons rfl .nil) (hsp H M.seq)) fun r s' h => ?_
  match r, h with
  | .error e, h => exact (hCX H e s' h).elim
  | .ok (.ret u), h =>
    obtain ⟨v, H', os, bare, un, hok', r', q⟩ := h
    cases (show v = .bl true from q)
    cases (show u = Value.bool true from r')
    refine ⟨rfl, OldK.of_keep fun b o e => ?_, os, bare⟩
    cases q : H b with
    | none => exact un.keep b o e q List.not_mem_nil (by simp)
    | some u =>
      rcases M.only b with z | ⟨ob, xs, z⟩
      · rw [q] at z; cases z
      · have e1 := (hok b _ z).1
        have e2 := (hok' b _ (un.frzs b ob _ z)).1
        rw [← Option.some.inj (e1.symm.trans e)]
        exact e2
theorem walk_g {l : PySem.W.OpenLaw} {n k : Nat} {q : Program} {loose : List Str} {XP : (Str → Option Value) → Heap → Prop} {YP : World → Heap → Prop} {d : DefRec} {K : Params → PySem.W.Frag} {sp : World → Sp} {x : Str}
    (hn : l.most = some n) (hn2 : n ≤ sizeLine) (hdf : d.params.defaults = []) (hr : RoomG k callerA)
    (hY : ∀ (w : World) (h : Heap), YP w h → (K w.params).In h)
    (F : ∀ (w : World) (mg : Str → Option Value) (fa : Addr) (h : Heap), (K w.params).In h → h.Ns mainGlobals mg → mg d.name = some (.ref fa) →
      ∃ fd : FuncData, (∀ (s : Shared) (u : Value), BindsTo s fd ⟨[u], []⟩ [(x, u)]) ∧
        ∀ base : Heap, (K w.params).In base → base.Ns mainGlobals mg → FnG l.prog w (K w.params) mg base CX0 k fa fd [x] (sp w))
    (hsp : ∀ (w : World) (H : Hp) (a : Addr) (ns : List Int), ns.length ≤ n → SqL (K w.params) H a (ns.map V.int) → sp w [.ref a] H (fun v _ => v = .bl true) fun _ _ _ => False) :
    PySem.W.WalkO q loose XP YP l.row.toRowW d [] (fun f vs => PySem.call f vs) := by
  refine Att.attach_call hn hdf fun w s₀ s₁ mg mb fa o pm cd doc a vs ns G Y ho hd hcd hmg hobj hints hlen hg => ?_
  obtain ⟨fd, hb, hF⟩ := F w mg fa _ (hY w _ Y) G.T.g hmg
  exact law_callG (hY w _ Y) G.T.g G.T.b G.T.builtins G.T.nolimit hg hobj hints (Nat.le_trans hlen hn2) hr hF hb (fun H hS => hsp w H a ns hlen hS) fun _ _ _ z => z
/-! ### repr of data -/
def rRepr (K : PySem.W.Frag) : List V → Hp → VK → Prop := fun xs H Q => ∃ (p : Addr) (d : PyData), xs = [.ref p] ∧ Dp K H (.ref p) d ∧ d.showable = true ∧ d.hasDict = false ∧ d.depth ≤ 40 ∧ d.shown.length ≤ sizeLine ∧ Q (.str d.shown) H
theorem call_reprD {X : Cx} (hg : X.A.guards = some []) (hu : X.A.units + 64 < cLine) : CallR X (.builtin "repr") (rRepr X.K) := by
  intro pins s σ H xs us Q I r ⟨p, d, e, hd, hs, hn, hdp, hz, q⟩
  subst e
  cases r with
  | cons r1 r2 =>
  cases r2
  cases r1
  obtain ⟨as, rd⟩ := Dp.reads I d _ _ hd rfl
  exact repr_of_reads' rd hs (PyData.noDict_hsm hn) hg (by omega) (fun _ _ e => e) (fun h' u tk hk => ⟨.str d.shown, H, I.kept hk, ⟨_, rfl⟩, q⟩) hz
end TN

set_option Elab.async false
set_option linter.all false
set_option maxRecDepth 100000
set_option maxHeartbeats 4000000
set_option autoImplicit false
namespace TN
open PySem PySem.Spec PyProof.Rows L2
/-! ### list(reversed(l)), l a list -/
section
variable {prog : Program} {w : World} {A : Around} {E : Value → Shared → Prop} {s : Shared}
theorem extend_rev {R : Result → Shared → Prop} {it l S : Addr} {items : Array Value} {c₀ : Nat} (hh : A.handled = none) (hit : s.heap.IsRevIter it l ((items.size : Int) - 1)) (hl : s.heap.IsList l items) (hne : l ≠ it) (hSi : S ≠ it) (hSl : S ≠ l) (hn : items.size ≤ sizeLine)
    (hS : s.heap.get? S = some { cls := .type "list", data := .seq #[] c₀ })
    (hR : ∀ s' acc' c', Moved (S :: [it]) (fun g g' => g' = g) s s' → s'.heap.get? S = some { cls := .type "list", dict := none, data := .seq acc' c', slots := #[] } → ItemsOf (fun i v => items[items.size - 1 - i]? = some v) acc' items.size → R (.ok (.ret .none)) s') :
    wpAny (model prog w) A.in1 (Builtin.List.listExtendWith (.ref S) (.ref it) .none)
      (fun fin s' => match fin with | .done f => R (.ok f) s' | .again c' => c'.quiet = true ∧ codeAny (model prog w) A c' R s') (fun e s' => R (.error e) s') s := by
  have W := (Walks.listRev (prog := prog) (w := w) (A := A.in1) hh it l hne items).toS
  have hSf : S ∉ [it, l] := by simp only [List.mem_cons, List.not_mem_nil, or_false, not_or]; exact ⟨hSi, hSl⟩
  have hT : s.TypeIs (.ref it) "list_reverseiterator" := hit.typeIs
  have h1 : Builtin.List.listSameRef (.ref S) (.ref it) = false := by simp [Builtin.List.listSameRef, hSi]
  unfold Builtin.List.listExtendWith
  refine wpAny_bind (wpAny_typeOf hT ?_)
  rw [if_neg (by rw [h1]; decide)]
  refine wpAny_bind (wpAny_pyIter_revIter hit (wpAny_bind (wpAny_holding ?_)))
  unfold Builtin.List.listLengthHint
  refine wpAny_bind (wpAny_specialOf hT RT.nolen_lri ?_)
  refine (show wpAny _ A.in1 (specialOf (Value.ref it) (Str.ofString "__length_hint__") >>= _) _ _ _ from wpAny_bind (wpAny_specialOf hT RT.hint_lri ?_))
  generalize hid : ("list_reverseiterator.__length_hint__" : String) = id0
  wp_delta
  rw [show splitId id0 = some ("list_reverseiterator", "__length_hint__") from by subst hid; decide +kernel]
  subst hid
  refine wpAny_bind (wpAny_isInstance (b := true) hT (by rw [isSubtype_type]; kernel_rfl) (wpAny_pure ?_))
  rw [if_neg (by decide)]
  have e0 : ((items.size : Nat) : Int) - 1 - ((0 : Nat) : Int) = (items.size : Int) - 1 := by omega
  exact wpAny_pure ⟨plainId_quiet F.plain_extend_loop _, codeAny_extend_loopS W hn _ hSf _ items.size 0 _ _ _ rfl (Nat.zero_le _) ⟨Nat.zero_le _, by rw [e0]; exact hit, hl⟩ hS (ItemsOf.nil _) fun s' acc' c' hm hS' hacc => hR s' acc' c' hm hS' hacc⟩
theorem init_rev {R : Result → Shared → Prop} {it l S : Addr} {items : Array Value} (hh : A.handled = none) (hit : s.heap.IsRevIter it l ((items.size : Int) - 1)) (hl : s.heap.IsList l items) (hne : l ≠ it) (hSi : S ≠ it) (hSl : S ≠ l) (hn : items.size ≤ sizeLine)
    (hS : s.heap.get? S = some { cls := .type "list", data := .seq #[] })
    (hR : ∀ h' tk acc' c', (∀ b o, b ≠ S → b ≠ it → s.heap.get? b = some o → h'.get? b = some o) → h'.get? S = some { cls := .type "list", dict := none, data := .seq acc' c', slots := #[] } → ItemsOf (fun i v => items[items.size - 1 - i]? = some v) acc' items.size → R (.ok (.ret .none)) { s with heap := h', toks := tk }) :
    wpAny (model prog w) A.in1 (Builtin.«list.__init__» ⟨[.ref S, .ref it], []⟩)
      (fun fin s' => match fin with | .done f => R (.ok f) s' | .again c' => c'.quiet = true ∧ codeAny (model prog w) A c' R s') (fun e s' => R (.error e) s') s := by
  refine (show wpAny _ A.in1 (do let old ← Builtin.List.listItems (.ref S); Builtin.List.listUpdate (.ref S) (fun _ => #[]); letGo old.toList.reverse; Builtin.List.listExtendWith (.ref S) (.ref it) .none) _ _ s from wpAny_bind ?_)
  unfold Builtin.List.listItems
  refine wpAny_bind (wpAny_seqItems hS rfl (wpAny_pure ?_))
  refine (show wpAny _ A.in1 (updateSeq S (fun _ => #[]) >>= fun _ => letGo (#[] : Array Value).toList.reverse >>= fun _ => Builtin.List.listExtendWith (.ref S) (.ref it) .none) _ _ s from wpAny_bind (wpAny_updateSeq hS rfl ?_))
  have hS₂ := Heap.get?_update_self (Obj.mapSeq (fun _ => (#[] : Array Value))) hS rfl
  have oth : ∀ b o, b ≠ S → s.heap.get? b = some o → (s.heap.update S (Obj.mapSeq (fun _ => (#[] : Array Value)))).get? b = some o := fun b o hb e => (Heap.get?_update_other _ _ (Ne.symm hb)).trans e
  have hl₂ : (s.heap.update S (Obj.mapSeq (fun _ => (#[] : Array Value)))).IsList l items := hl.at fun o e => oth l o (Ne.symm hSl) e
  refine wpAny_bind (wpAny_letGo ?_)
  refine extend_rev (s := { s with heap := s.heap.update S (Obj.mapSeq (fun _ => (#[] : Array Value))) }) hh (hit.at fun o e => oth it o (Ne.symm hSi) e) hl₂ hne hSi hSl hn hS₂ fun s' acc' c' hm hS' hacc => ?_
  rw [Moved.eq_with hm] at hS' ⊢
  exact hR s'.heap s'.toks acc' c' (fun b o h1 h2 e => hm.heap b o (fun z => by
    rcases List.mem_cons.mp z with z | z
    · exact h1 z
    · exact h2 (List.mem_singleton.mp z)) (oth b o h1 e)) hS' hacc
theorem call_list_rev {it l : Addr} {items : Array Value} {Q : Value → Shared → Prop} (hh : A.handled = none) (hit : s.heap.IsRevIter it l ((items.size : Int) - 1)) (hl : s.heap.IsList l items) (hne : l ≠ it) (hn : items.size ≤ sizeLine)
    (hQ : ∀ h' tk acc' c', (∀ b o, b ≠ it → s.heap.get? b = some o → h'.get? b = some o) → h'.get? s.heap.objs.size = some { cls := .type "list", dict := none, data := .seq acc' c', slots := #[] } → ItemsOf (fun i v => items[items.size - 1 - i]? = some v) acc' items.size → Q (.ref s.heap.objs.size) { s with heap := h', toks := tk }) :
    wpAny (model prog w) A (call (.type "list") [.ref it]) Q E s := by
  obtain ⟨oi, hoi, _⟩ := id hit
  obtain ⟨ol, hol, _⟩ := id hl
  refine callType_codes (Q₁ := fun obj s₁ => obj = .ref s.heap.objs.size ∧ s₁ = { s with heap := s.heap.push { cls := .type "list", data := .seq #[] } }) F.called_list (F.typeCall_list_1 _) F.entry_list_init (code_list_new _ ⟨rfl, rfl⟩) fun obj s₁ h₁ => ?_
  obtain ⟨rfl, rfl⟩ := h₁
  have hS : (s.heap.push { cls := .type "list", data := .seq #[] }).get? s.heap.objs.size = some { cls := .type "list", data := .seq #[] } := Heap.get?_push_size _ rfl
  refine ⟨⟨_, hS, rfl⟩, F.args_list_init_2 _ _, init_rev (A := A.in1) (s := { s with heap := s.heap.push { cls := .type "list", data := .seq #[] } }) hh (hit.at fun o e => Heap.get?_push_of_some _ e) (hl.push _) hne (Nat.ne_of_gt (Heap.lt_size hoi)) (Nat.ne_of_gt (Heap.lt_size hol)) hn hS fun h' tk acc' c' k hS' hacc => ?_⟩
  exact ⟨rfl, hQ h' tk acc' c' (fun b o hb e => k b o (Nat.ne_of_lt (Heap.lt_size e)) hb (Heap.get?_push_of_some _ e)) hS' hacc⟩
end
theorem items_rev {items acc : Array Value} (h : ItemsOf (fun i v => items[items.size - 1 - i]? = some v) acc items.size) : acc.toList = items.toList.reverse := by
  obtain ⟨hz, hi⟩ := h
  apply List.ext_getElem?
  intro i
  by_cases hlt : i < acc.size
  · have e := hi i acc[i] (Array.getElem?_eq_getElem hlt)
    rw [List.getElem?_reverse (by rw [Array.length_toList]; omega), Array.getElem?_toList, Array.getElem?_toList, Array.length_toList, e]
    exact Array.getElem?_eq_getElem hlt
  · rw [List.getElem?_eq_none (by rw [Array.length_toList]; omega), List.getElem?_eq_none (by rw [List.length_reverse, Array.length_toList]; omega)]
section
variable {X : Cx} {e : Expr} {te : TE} {p p2 pos pos2 : Pos}
def tListRev (te : TE) : TE := fun σ H Q => te σ H fun x H1 => ∃ l xs, x = .ref l ∧ H1 l = some (.lst xs) ∧ ∀ q, H1 q = none → Q (.ref q) (upd H1 q (.lst xs.reverse))
theorem pe_listRev (hc : X.calm = true) (hm1 : X.mg "list" = none) (hm2 : X.mg "reversed" = none) (he : PE X e te) (hg1 : Gl X "list" := by rfl) (hg2 : Gl X "reversed" := by rfl)
    (hs : starEach [e] X.env = (false, eval e X.env) :: starEach [] X.env := by rfl)
    (hs2 : starEach [.Call (.Name "reversed" p2) [e] [] pos2] X.env = (false, eval (.Call (.Name "reversed" p2) [e] [] pos2) X.env) :: starEach [] X.env := by rfl) :
    PE X (.Call (.Name "list" p) [.Call (.Name "reversed" p2) [e] [] pos2] [] pos) (tListRev te) := by
  refine ⟨fun pins s σ H Q I h => ?_⟩
  refine Call_ (ld_blt I hg1 hm1 PyProof.Rows.boot_list (PyProof.Rows.callWith_type1 (args_cons ?_ hs2) hs2 rfl))
  refine Call_ (ld_blt I hg2 hm2 PyProof.Rows.boot_reversed (PyProof.Rows.callWith_type1 (args_cons (thn (he.run pins s σ H _ I h) fun u s1 ⟨v, H1, I1, r1, l, xs, ev, hl, q⟩ => args_nil ?_) hs) hs rfl))
  subst ev
  cases r1
  obtain ⟨z, its, n, rv, hlen, e1⟩ := I1.lstM hl
  have hL : s1.heap.IsList l its.toArray := PySem.IsL.isList e1
  refine call_reversed_list hL ?_
  refine args_nil ?_
  have hlt : l < s1.heap.objs.size := Heap.lt_size e1
  have rr : Vals xs.reverse its.reverse := by
    have key : ∀ {ys : List V} {us : List Value}, Vals ys us → Vals ys.reverse us.reverse := by
      intro ys us r
      induction r with
      | nil => exact .nil
      | cons a b ih => rw [List.reverse_cons, List.reverse_cons]; exact ih.append (.cons a .nil)
    exact key rv
  refine call_list_rev (l := l) (items := its.toArray) (I1.ok.hd hc) ⟨_, Heap.get?_push_size _ rfl, rfl, rfl⟩ (hL.push _) (Nat.ne_of_lt hlt) (by rw [List.size_toArray, ← hlen]; exact z) fun h' tk acc c' k hS ha => ?_
  have hk : ∀ b o, s1.heap.get? b = some o → h'.get? b = some o := fun b o e => k b o (Nat.ne_of_lt (Heap.lt_size e)) (Heap.get?_push_of_some _ e)
  have ea := items_rev ha
  have hsz : s1.heap.objs.size ≤ (s1.heap.push (revObj l ((its.toArray.size : Int) - 1))).objs.size := by rw [Heap.size_push]; exact Nat.le_succ _
  refine ⟨.ref (s1.heap.push (revObj l ((its.toArray.size : Int) - 1))).objs.size, _, I1.laid (a := (s1.heap.push (revObj l ((its.toArray.size : Int) - 1))).objs.size) (o := .lst xs.reverse) (t' := tk) hk hsz ?_, rfl, q _ (I1.hok.fresh hsz)⟩
  refine ⟨by rw [List.length_reverse]; exact z, its.reverse, c', rr, ?_⟩
  rw [hS]
  have e3 : acc = its.reverse.toArray := Array.toList_inj.mp (by rw [ea])
  rw [e3]
end
end TN

set_option Elab.async false
set_option linter.all false
set_option maxRecDepth 100000
set_option maxHeartbeats 1000000
set_option autoImplicit false
namespace TN
open PySem PySem.Builtin PySem.Builtin.Str PySem.StrLaws
abbrev tl (x : Str) : List Nat := x.cps.toList
abbrev one (c : Nat) : Str := ⟨#[c]⟩
theorem len_tl (x : Str) : x.length = (tl x).length := by simp [tl, Str.length]
theorem ext_tl {x y : Str} (h : tl x = tl y) : x = y := TL.ext_tl h
theorem tl_app (x y : Str) : tl (x ++ y) = tl x ++ tl y := TL.tl_append x y
def mk (l : List Nat) : Str := ⟨l.toArray⟩
theorem tl_mk (l : List Nat) : tl (mk l) = l := rfl
theorem mk_tl (x : Str) : mk (tl x) = x := ext_tl rfl
theorem tl_one (c : Nat) : tl (one c) = [c] := rfl
theorem subAt_one (s : Str) (c i : Nat) : subAt s (one c) i = decide ((tl s)[i]? = some c) := by
  unfold subAt
  rw [Bool.eq_iff_iff, decide_eq_true_eq, beq_iff_eq]
  have e : ∀ a b : Array Nat, a = b ↔ a.toList = b.toList := fun a b => ⟨fun h => by rw [h], fun h => Array.toList_inj.mp h⟩
  rw [e, Array.toList_extract]
  show List.extract (tl s) i (i + 1) = [c] ↔ _
  rw [List.extract_eq_take_drop]
  have : i + 1 - i = 1 := by omega
  rw [this]
  cases h : (tl s)[i]? with
  | none =>
    have h2 := List.getElem?_eq_none_iff.mp h
    rw [List.drop_eq_nil_of_le h2]
    simp
  | some d =>
    obtain ⟨h2, h3⟩ := List.getElem?_eq_some_iff.mp h
    rw [List.drop_eq_getElem_cons h2, h3]
    simp
/-- the places of c from a on -/
def occs (l : List Nat) (c a n : Nat) : List Nat := (List.range' a n).filter fun i => decide (l[i]? = some c)
theorem occ_run (s : Str) (c limit : Nat) : ∀ (n a : Nat) (found : Array Nat) (free : Nat), free ≤ a → a + n ≤ s.length + 1 →
    (forIn (List.range' a n) (found, free) (occBody s (one c) s.length limit)).run.fst.toList = found.toList ++ (occs (tl s) c a n).take (limit - found.size)
  | 0, a, found, free, h, _ => by simp [occs]
  | n + 1, a, found, free, h, hn => by
    rw [List.range'_succ, List.forIn_cons]
    unfold occBody occs
    rw [List.range'_succ, List.filter_cons, subAt_one]
    by_cases hc : (tl s)[a]? = some c
    · have hlt : a < (tl s).length := (List.getElem?_eq_some_iff.mp hc).1
      rw [← len_tl] at hlt
      by_cases hl : found.size < limit
      · have h1 : (((found, free).fst.size < limit ∧ (found, free).snd ≤ a) ∧ a + (one c).length ≤ s.length) ∧ decide ((tl s)[a]? = some c) = true := ⟨⟨⟨hl, h⟩, hlt⟩, by simp [hc]⟩
        rw [if_pos h1]
        have ih := occ_run s c limit n (a + 1) (found.push a) (a + 1) (Nat.le_refl _) (by omega)
        simp only [hc, decide_true, if_true]
        refine Eq.trans ih ?_
        rw [Array.toList_push, Array.size_push, show limit - found.size = (limit - (found.size + 1)) + 1 from by omega, List.take_succ_cons, List.append_assoc]
        rfl
      · have h1 : ¬ ((((found, free).fst.size < limit ∧ (found, free).snd ≤ a) ∧ a + (one c).length ≤ s.length) ∧ decide ((tl s)[a]? = some c) = true) := fun z => hl z.1.1.1
        rw [if_neg h1]
        have ih := occ_run s c limit n (a + 1) found free (by omega) (by omega)
        refine Eq.trans ih ?_
        rw [show limit - found.size = 0 from by omega, List.take_zero, List.take_zero]
    · have h1 : ¬ ((((found, free).fst.size < limit ∧ (found, free).snd ≤ a) ∧ a + (one c).length ≤ s.length) ∧ decide ((tl s)[a]? = some c) = true) := fun z => hc (of_decide_eq_true z.2)
      rw [if_neg h1]
      have ih := occ_run s c limit n (a + 1) found free (by omega) (by omega)
      simp only [hc, decide_false, Bool.false_eq_true, if_false]
      exact ih
theorem occ_one (s : Str) (c lo limit : Nat) (h : lo ≤ s.length) : occurrences s (one c) lo s.length limit = (occs (tl s) c lo (s.length + 1 - lo)).take limit := by
  rw [occ_eq]
  have := occ_run s c limit (s.length + 1 - lo) lo #[] lo (Nat.le_refl _) (by omega)
  rw [this]
  simp
theorem occs_end (l : List Nat) (c : Nat) : ∀ (n a : Nat), l.length ≤ a → occs l c a n = []
  | 0, a, h => rfl
  | n + 1, a, h => by
    unfold occs
    rw [List.range'_succ, List.filter_cons, List.getElem?_eq_none h]
    have := occs_end l c n (a + 1) (by omega)
    unfold occs at this
    simpa using this
theorem occs_step (l : List Nat) (c n a : Nat) : occs l c a (n + 1) = if l[a]? = some c then a :: occs l c (a + 1) n else occs l c (a + 1) n := by
  unfold occs
  rw [List.range'_succ, List.filter_cons]
  by_cases h : l[a]? = some c <;> simp [h]
theorem occs_count (l : List Nat) (c : Nat) : ∀ (n a : Nat), l.length ≤ a + n → (occs l c a n).length = (l.drop a).count c
  | 0, a, h => by rw [List.drop_eq_nil_of_le (by omega)]; rfl
  | n + 1, a, h => by
    rw [occs_step]
    by_cases hlt : a < l.length
    · rw [List.drop_eq_getElem_cons hlt, List.count_cons, List.getElem?_eq_getElem hlt]
      have ih := occs_count l c n (a + 1) (by omega)
      by_cases hc : l[a] = c
      · simp [hc, ih]
      · have : (l[a] == c) = false := by simpa using hc
        simp [hc, ih, this]
    · rw [List.getElem?_eq_none (by omega), List.drop_eq_nil_of_le (by omega), if_neg (by simp), occs_end _ _ _ _ (by omega)]
      rfl
theorem count_one (z : Str) (c : Nat) : Txt.count z (one c) = ((tl z).count c : Int) := by
  unfold Txt.count
  rw [occ_one z c 0 (z.length + 1) (Nat.zero_le _), List.length_take]
  have h := occs_count (tl z) c (z.length + 1 - 0) 0 (by rw [← len_tl]; omega)
  rw [h, List.drop_zero]
  have := List.count_le_length (a := c) (l := tl z)
  rw [len_tl]
  congr 1
  omega
/-- the first place of c at or behind a -/
theorem occs_head (l : List Nat) (c : Nat) : ∀ (n a : Nat), l.length ≤ a + n → (occs l c a n).head? = ((l.drop a).idxOf? c).map (· + a)
  | 0, a, h => by rw [List.drop_eq_nil_of_le (by omega)]; rfl
  | n + 1, a, h => by
    rw [occs_step]
    by_cases hlt : a < l.length
    · rw [List.drop_eq_getElem_cons hlt, List.idxOf?_cons, List.getElem?_eq_getElem hlt]
      have ih := occs_head l c n (a + 1) (by omega)
      by_cases hc : l[a] = c
      · simp [hc]
      · have : (l[a] == c) = false := by simpa using hc
        simp only [Option.some.injEq, hc, if_false, ih, this, Bool.false_eq_true]
        cases (List.drop (a + 1) l).idxOf? c with
        | none => rfl
        | some k => simp; omega
    · rw [List.getElem?_eq_none (by omega), List.drop_eq_nil_of_le (by omega), if_neg (by simp), occs_end _ _ _ _ (by omega)]
      rfl
def findFrom (l : List Nat) (c a : Nat) : Int := match (l.drop a).idxOf? c with | some k => ((k + a : Nat) : Int) | none => -1
theorem find_one (z : Str) (c : Nat) : Txt.find z (one c) = findFrom (tl z) c 0 := by
  unfold Txt.find findFrom
  rw [occ_one z c 0 1 (Nat.zero_le _)]
  have h := occs_head (tl z) c (z.length + 1 - 0) 0 (by rw [← len_tl]; omega)
  revert h
  cases occs (tl z) c 0 (z.length + 1 - 0) with
  | nil => intro h; cases e : (List.drop 0 (tl z)).idxOf? c with
    | none => rfl
    | some k => rw [e] at h; cases h
  | cons i r => intro h; cases e : (List.drop 0 (tl z)).idxOf? c with
    | none => rw [e] at h; cases h
    | some k => rw [e] at h; have := Option.some.inj h; rw [this]; rfl
theorem find3_one (z : Str) (c a : Nat) (ha : a ≤ z.length) : Txt.find3 z (one c) (a : Int) = findFrom (tl z) c a := by
  unfold Txt.find3 findFrom
  have e0 : fromIndex z.length (a : Int) = a := by unfold fromIndex; rw [if_neg (by omega)]; omega
  rw [e0, occ_one z c a 1 ha]
  have h := occs_head (tl z) c (z.length + 1 - a) a (by rw [← len_tl]; omega)
  revert h
  cases occs (tl z) c a (z.length + 1 - a) with
  | nil => intro h; cases e : (List.drop a (tl z)).idxOf? c with
    | none => rfl
    | some k => rw [e] at h; cases h
  | cons i r => intro h; cases e : (List.drop a (tl z)).idxOf? c with
    | none => rw [e] at h; cases h
    | some k => rw [e] at h; have := Option.some.inj h; rw [this]; rfl
theorem at_one (z : Str) (c i : Nat) : At z (one c) z.length i ↔ (tl z)[i]? = some c := by
  unfold At
  rw [subAt_one, decide_eq_true_eq]
  constructor
  · exact fun h => h.2
  · intro h
    have hlt : i < (tl z).length := (List.getElem?_eq_some_iff.mp h).1
    rw [← len_tl] at hlt
    exact ⟨hlt, h⟩
/-- the last c stands behind a, or there is none -/
theorem rfind_none (z : Str) (c : Nat) (h : c ∉ tl z) : Txt.rfind z (one c) = -1 := by
  unfold Txt.rfind
  rcases last_spec z (one c) with ⟨e, _⟩ | ⟨i, e, h1, _⟩
  · rw [e]
  · exact absurd (List.mem_of_getElem? ((at_one z c i).mp h1)) h
theorem rfind_some (z : Str) (c : Nat) (a b : List Nat) (e : tl z = a ++ c :: b) (h : c ∉ b) : Txt.rfind z (one c) = (a.length : Int) := by
  have hc : (tl z)[a.length]? = some c := by rw [e]; simp
  unfold Txt.rfind
  rcases last_spec z (one c) with ⟨q, hn⟩ | ⟨i, q, h1, h2⟩
  · exact absurd ((at_one z c a.length).mpr hc) (hn a.length)
  · rw [q]
    have hi := (at_one z c i).mp h1
    have : i = a.length := by
      rcases Nat.lt_trichotomy i a.length with hlt | he | hgt
      · exact absurd ((at_one z c a.length).mpr hc) (h2 _ hlt)
      · exact he
      · rw [e, List.getElem?_append_right (by omega)] at hi
        obtain ⟨k, hk⟩ : ∃ k, i - a.length = k + 1 := ⟨i - a.length - 1, by omega⟩
        rw [hk, List.getElem?_cons_succ] at hi
        exact absurd (List.mem_of_getElem? hi) h
    rw [this]
/-- parted at c -/
def parted (c : Nat) : List Nat → List (List Nat)
  | [] => [[]]
  | x :: r => if x = c then [] :: parted c r else match parted c r with | h :: t => (x :: h) :: t | [] => [[x]]
theorem parted_ne (c : Nat) : ∀ l, parted c l ≠ []
  | [] => by simp [parted]
  | x :: r => by
    unfold parted
    split
    · simp
    · split <;> simp
theorem spl_parted (c : Nat) : ∀ (l acc : List Nat), TL.spl [c] 0 acc l = match parted c l with | h :: t => (acc ++ h) :: t | [] => []
  | [], acc => by simp [TL.spl, parted]
  | x :: r, acc => by
    unfold TL.spl parted
    have e : TL.pre [c] (x :: r) = decide (x = c) := by
      unfold TL.pre
      rw [Bool.eq_iff_iff]
      simp
    rw [e]
    by_cases h : x = c
    · have ih := spl_parted c r []
      simp only [h, decide_true, if_true, List.length_singleton, Nat.sub_self, ih, List.append_nil]
      cases hp : parted c r with
      | nil => exact absurd hp (parted_ne c r)
      | cons a b => rfl
    · have ih := spl_parted c r (acc ++ [x])
      simp only [h, decide_false, if_false, ih, Bool.false_eq_true]
      cases hp : parted c r with
      | nil => exact absurd hp (parted_ne c r)
      | cons a b => simp
theorem kind_one (x : Str) (c : Nat) (h : c < 256) : ¬ Builtin.Str.strKind x < Builtin.Str.strKind (one c) := TL.kind_ok (by simp [h])
theorem split_one (z : Str) (c : Nat) (h : c < 256) : (Txt.split z (one c)).map tl = parted c (tl z) := by
  have e := TL.split_spl z (one c) (by simp) (kind_one z c h)
  refine Eq.trans e ?_
  rw [show TL.tl (one c) = [c] from rfl, spl_parted]
  cases hp : parted c (tl z) with
  | nil => exact absurd hp (parted_ne c _)
  | cons a b => rfl
theorem lstrip_len (x y : Str) : (Txt.lstripChars x y).length = x.length - ((tl x).takeWhile fun c => y.cps.contains c).length := by
  unfold Txt.lstripChars
  rw [PyProof.Rows.stripBy_eq]
  unfold stripLo stripHi
  simp only [if_true, Bool.false_eq_true, if_false]
  rw [len_tl, show tl (strSub x ((x.cps.toList.takeWhile y.cps.contains).length) x.length) = _ from TL.tl_strSub_end x _, List.length_drop, ← len_tl]
theorem tl_cut (z : Str) (a b : Nat) : tl (L2.cutS z (some (a : Int)) (some (b : Int))) = ((tl z).take b).drop a := by
  show ((tl z).drop (HT.sIx z.length 0 (some (a : Int)))).take (HT.sIx z.length z.length (some (b : Int)) - HT.sIx z.length 0 (some (a : Int))) = _
  rw [HT.sIx_nat, HT.sIx_nat, List.drop_take, len_tl]
  by_cases ha : a ≤ (tl z).length
  · rw [Nat.min_eq_left ha]
    by_cases hb : b ≤ (tl z).length
    · rw [Nat.min_eq_left hb]
    · rw [Nat.min_eq_right (by omega), List.take_of_length_le (by rw [List.length_drop]; omega), List.take_of_length_le (by rw [List.length_drop]; omega)]
  · have e1 : Min.min a (tl z).length = (tl z).length := Nat.min_eq_right (by omega)
    rw [e1, List.drop_eq_nil_of_le (Nat.le_refl _), List.drop_eq_nil_of_le (show (tl z).length ≤ a by omega), List.take_nil, List.take_nil]
theorem tl_cut_from (z : Str) (a : Nat) : tl (L2.cutS z (some (a : Int)) none) = (tl z).drop a := by
  show ((tl z).drop (HT.sIx z.length 0 (some (a : Int)))).take (HT.sIx z.length z.length none - HT.sIx z.length 0 (some (a : Int))) = _
  rw [HT.sIx_nat, HT.sIx_none, len_tl]
  by_cases ha : a ≤ (tl z).length
  · rw [Nat.min_eq_left ha, List.take_of_length_le (by rw [List.length_drop]; omega)]
  · rw [Nat.min_eq_right (by omega), List.drop_eq_nil_of_le (Nat.le_refl _), List.drop_eq_nil_of_le (show (tl z).length ≤ a by omega)]
    simp
theorem tl_cut_to (z : Str) (b : Nat) : tl (L2.cutS z none (some (b : Int))) = (tl z).take b := by
  show ((tl z).drop (HT.sIx z.length 0 none)).take (HT.sIx z.length z.length (some (b : Int)) - HT.sIx z.length 0 none) = _
  rw [HT.sIx_nat, HT.sIx_none, List.drop_zero, Nat.sub_zero, len_tl]
  by_cases hb : b ≤ (tl z).length
  · rw [Nat.min_eq_left hb]
  · rw [Nat.min_eq_right (by omega), List.take_of_length_le (Nat.le_refl _), List.take_of_length_le (by omega)]
/-! ### lines: parted at 10 -/
/-- where the i-th part begins -/
def begins (L : List (List Nat)) (i : Nat) : Nat := ((L.take i).map fun h => h.length + 1).sum
theorem begins_zero (L : List (List Nat)) : begins L 0 = 0 := by simp [begins]
theorem begins_cons (h : List Nat) (t : List (List Nat)) (i : Nat) : begins (h :: t) (i + 1) = h.length + 1 + begins t i := by simp [begins]
theorem begins_succ (L : List (List Nat)) (i : Nat) (hi : i < L.length) : begins L (i + 1) = begins L i + L[i].length + 1 := by
  unfold begins
  rw [List.take_add_one, List.getElem?_eq_getElem hi]
  simp only [Option.toList_some, List.map_append, List.map_cons, List.map_nil, List.sum_append, List.sum_cons, List.sum_nil]
  omega
theorem begins_mono (L : List (List Nat)) {i j : Nat} (h : i ≤ j) : begins L i ≤ begins L j := by
  induction j with
  | zero => have : i = 0 := by omega
            rw [this]; exact Nat.le_refl _
  | succ j ih =>
    by_cases e : i = j + 1
    · rw [e]; exact Nat.le_refl _
    · refine Nat.le_trans (ih (by omega)) ?_
      by_cases hj : j < L.length
      · rw [begins_succ L j hj]; omega
      · unfold begins
        rw [List.take_of_length_le (by omega), List.take_of_length_le (by omega)]
        exact Nat.le_refl _
theorem begins_lt (L : List (List Nat)) {i j : Nat} (h : i < j) (hj : j ≤ L.length) : begins L i < begins L j := by
  have h1 : begins L i < begins L (i + 1) := by rw [begins_succ L i (by omega)]; omega
  exact Nat.lt_of_lt_of_le h1 (begins_mono L h)
/-- what a place's line is -/
structure Spot (c : Nat) (l : List Nat) (p i : Nat) : Prop where
  lt : i < (parted c l).length
  lo : begins (parted c l) i ≤ p
  hi : p < begins (parted c l) (i + 1)
  cnt : (l.take p).count c = i
  last : ∀ z : Str, tl z = l.take p → Txt.rfind z (one c) = (begins (parted c l) i : Int) - 1
theorem parted_nil (c : Nat) : parted c [] = [[]] := rfl
theorem parted_hit (c : Nat) (r : List Nat) : parted c (c :: r) = [] :: parted c r := by simp [parted]
theorem parted_miss {c x : Nat} (h : x ≠ c) (r : List Nat) : ∃ a t, parted c r = a :: t ∧ parted c (x :: r) = (x :: a) :: t := by
  cases hp : parted c r with
  | nil => exact absurd hp (parted_ne c r)
  | cons a t => exact ⟨a, t, rfl, by simp [parted, h, hp]⟩
theorem parted_length (c : Nat) : ∀ l, (parted c l).length = l.count c + 1
  | [] => rfl
  | x :: r => by
    by_cases h : x = c
    · subst h
      rw [parted_hit, List.length_cons, parted_length, List.count_cons_self]
    · obtain ⟨a, t, e1, e2⟩ := parted_miss h r
      have ih := parted_length c r
      rw [e1] at ih
      have hb : (x == c) = false := by simpa using h
      rw [e2, List.count_cons, hb]
      simpa using ih
theorem parted_total (c : Nat) : ∀ l, begins (parted c l) (parted c l).length = l.length + 1
  | [] => rfl
  | x :: r => by
    by_cases h : x = c
    · subst h
      rw [parted_hit, List.length_cons, begins_cons, parted_total, List.length_cons]
      simp; omega
    · obtain ⟨a, t, e1, e2⟩ := parted_miss h r
      have ih := parted_total c r
      rw [e1, List.length_cons, begins_cons] at ih
      rw [e2, List.length_cons, begins_cons, List.length_cons, List.length_cons]
      omega
/-- the list is its parts -/
theorem parted_join (c : Nat) : ∀ l, l = ((parted c l).map (· ++ [c])).flatten.dropLast
  | [] => rfl
  | x :: r => by
    have key : ∀ {L : List (List Nat)}, L ≠ [] → (L.map (· ++ [c])).flatten ≠ [] := by
      intro L h
      cases L with
      | nil => exact absurd rfl h
      | cons a t => simp
    have ih := parted_join c r
    by_cases h : x = c
    · subst h
      rw [parted_hit, List.map_cons, List.flatten_cons, List.nil_append, List.singleton_append, List.dropLast_cons_of_ne_nil (key (parted_ne x r)), ← ih]
    · obtain ⟨a, t, e1, e2⟩ := parted_miss h r
      rw [e1] at ih
      rw [e2]
      simp only [List.map_cons, List.flatten_cons, List.cons_append] at ih ⊢
      rw [List.dropLast_cons_of_ne_nil (by simp), ← ih]
theorem part_at (c : Nat) : ∀ (l : List Nat) (i : Nat), (hi : i < (parted c l).length) → (l.take (begins (parted c l) (i + 1) - 1)).drop (begins (parted c l) i) = (parted c l)[i]
  | [], i, hi => by
    have : i = 0 := by simp [parted] at hi; omega
    subst this
    rfl
  | x :: r, i, hi => by
    by_cases h : x = c
    · subst h
      cases i with
      | zero => simp [parted_hit, begins]
      | succ i =>
        have hi' : i < (parted x r).length := by rw [parted_hit, List.length_cons] at hi; omega
        have ih := part_at x r i hi'
        simp only [parted_hit, begins_cons, List.getElem_cons_succ, List.length_nil]
        have e : 0 + 1 + begins (parted x r) (i + 1) - 1 = begins (parted x r) (i + 1) - 1 + 1 := by
          have := begins_succ (parted x r) i hi'
          omega
        rw [e, List.take_succ_cons, show 0 + 1 + begins (parted x r) i = begins (parted x r) i + 1 from by omega, List.drop_succ_cons]
        exact ih
    · obtain ⟨a, t, e1, e2⟩ := parted_miss h r
      cases i with
      | zero =>
        have ih := part_at c r 0 (by rw [e1]; simp)
        simp only [e1, e2, begins_cons, begins_zero, List.getElem_cons_zero, List.drop_zero, List.length_cons, Nat.add_zero] at ih ⊢
        rw [show a.length + 1 + 1 - 1 = a.length + 1 - 1 + 1 from by omega, List.take_succ_cons, ih]
      | succ i =>
        have hi' : i + 1 < (parted c r).length := by rw [e2] at hi; rw [e1]; simpa using hi
        have ih := part_at c r (i + 1) hi'
        simp only [e1, e2, begins_cons, List.getElem_cons_succ, List.length_cons] at ih ⊢
        rw [show a.length + 1 + 1 + begins t (i + 1) - 1 = a.length + 1 + begins t (i + 1) - 1 + 1 from by omega, List.take_succ_cons, show a.length + 1 + 1 + begins t i = a.length + 1 + begins t i + 1 from by omega, List.drop_succ_cons]
        exact ih
theorem last_of {c : Nat} : ∀ {w : List Nat}, c ∈ w → ∃ a b, w = a ++ c :: b ∧ c ∉ b
  | x :: r, h => by
    by_cases hr : c ∈ r
    · obtain ⟨a, b, e, n⟩ := last_of hr
      exact ⟨x :: a, b, by rw [e]; rfl, n⟩
    · rcases List.mem_cons.mp h with e | h
      · exact ⟨[], r, by rw [e]; rfl, hr⟩
      · exact absurd h hr
theorem rfind_in {z z' : Str} {c x : Nat} {w : List Nat} (e : tl z = x :: w) (e' : tl z' = w) (h : c ∈ w) : Txt.rfind z (one c) = Txt.rfind z' (one c) + 1 := by
  obtain ⟨a, b, q, n⟩ := last_of h
  rw [rfind_some z c (x :: a) b (by rw [e, q]; rfl) n, rfind_some z' c a b (by rw [e', q]) n]
  simp
theorem spot (c : Nat) : ∀ (l : List Nat) (p : Nat), p ≤ l.length → Spot c l p ((l.take p).count c)
  | [], p, h => by
    have e : p = 0 := by simpa using h
    subst e
    exact ⟨by simp [parted], by simp [begins], by simp [parted, begins], rfl, fun z q => by rw [rfind_none z c (by rw [q]; simp)]; simp [begins]⟩
  | x :: r, 0, h => by
    refine ⟨?_, ?_, ?_, by simp, fun z q => ?_⟩
    · rw [List.take_zero, List.count_nil, parted_length]; omega
    · rw [List.take_zero, List.count_nil, begins_zero]; exact Nat.le_refl _
    · rw [List.take_zero, List.count_nil]
      have := begins_lt (parted c (x :: r)) (i := 0) (j := 1) (by omega) (by rw [parted_length]; omega)
      rw [begins_zero] at this
      exact this
    · rw [List.take_zero, List.count_nil, begins_zero, rfind_none z c (by rw [q]; simp)]; rfl
  | x :: r, p + 1, h => by
    have ih := spot c r p (by simpa using h)
    rw [List.take_succ_cons]
    by_cases hx : x = c
    · subst hx
      rw [List.count_cons_self]
      refine ⟨?_, ?_, ?_, ?_, fun z q => ?_⟩
      · rw [parted_hit, List.length_cons]; have := ih.lt; omega
      · rw [parted_hit, begins_cons]; have := ih.lo; simp; omega
      · rw [parted_hit, begins_cons]; have := ih.hi; simp; omega
      · rw [List.take_succ_cons, List.count_cons_self]
      · rw [parted_hit, begins_cons]
        rw [List.take_succ_cons] at q
        by_cases hm : x ∈ r.take p
        · have := ih.last (mk (r.take p)) rfl
          rw [rfind_in q (z' := mk (r.take p)) rfl hm, this]
          simp; omega
        · rw [rfind_some z x [] (r.take p) q hm]
          have : (r.take p).count x = 0 := List.count_eq_zero.mpr hm
          rw [this, begins_zero]
          simp
    · have hb : (x == c) = false := by simpa using hx
      obtain ⟨a, t, e1, e2⟩ := parted_miss hx r
      have hcnt : (x :: r.take p).count c = (r.take p).count c := by rw [List.count_cons, hb]; simp
      rw [hcnt]
      have hl := ih.lt
      have hlo := ih.lo
      have hhi := ih.hi
      have hlast := ih.last
      rw [e1] at hl hlo hhi hlast
      refine ⟨?_, ?_, ?_, ?_, fun z q => ?_⟩
      · rw [e2]; simpa using hl
      · rw [e2]
        cases hk : (r.take p).count c with
        | zero => rw [begins_zero]; exact Nat.zero_le _
        | succ k => rw [hk, begins_cons] at hlo; rw [begins_cons, List.length_cons]; omega
      · rw [e2, begins_cons, List.length_cons]; rw [begins_cons] at hhi; omega
      · rw [List.take_succ_cons]; exact hcnt
      · rw [e2]
        rw [List.take_succ_cons] at q
        by_cases hm : c ∈ r.take p
        · have h2 := hlast (mk (r.take p)) rfl
          rw [rfind_in q (z' := mk (r.take p)) rfl hm, h2]
          have hpos : 0 < (r.take p).count c := List.count_pos_iff.mpr hm
          obtain ⟨k, hk⟩ : ∃ k, (r.take p).count c = k + 1 := ⟨_, (Nat.succ_pred_eq_of_pos hpos).symm⟩
          rw [hk, begins_cons, begins_cons, List.length_cons]
          omega
        · have h0 : (r.take p).count c = 0 := List.count_eq_zero.mpr hm
          rw [h0, begins_zero, rfind_none z c (by rw [q]; intro z; rcases List.mem_cons.mp z with z | z; exact hx z.symm; exact hm z)]
          rfl
/-- a place's line is one -/
theorem spot_of {c p i : Nat} {l : List Nat} (hp : p ≤ l.length) (hi : i < (parted c l).length) (h1 : begins (parted c l) i ≤ p) (h2 : p < begins (parted c l) (i + 1)) : i = (l.take p).count c := by
  have S := spot c l p hp
  rcases Nat.lt_trichotomy i ((l.take p).count c) with h | h | h
  · have := begins_mono (parted c l) (show i + 1 ≤ (l.take p).count c by omega)
    have := S.lo
    omega
  · exact h
  · have := begins_mono (parted c l) (show (l.take p).count c + 1 ≤ i by omega)
    have := S.hi
    omega
theorem tw_go {f : Nat → Bool} : ∀ {r : List Nat} {k c : Nat}, k ≤ (r.takeWhile f).length → r[k]? = some c → (f c = true ↔ k < (r.takeWhile f).length)
  | [], k, c, _, h => by simp at h
  | x :: r, k, c, hk, h => by
    cases hx : f x with
    | true =>
      rw [List.takeWhile_cons_of_pos hx] at hk ⊢
      cases k with
      | zero => simp at h; subst h; simp [hx]
      | succ k =>
        have := tw_go (f := f) (r := r) (k := k) (c := c) (by simpa using hk) (by simpa using h)
        rw [this]; simp
    | false =>
      rw [List.takeWhile_cons_of_neg (by simp [hx])] at hk ⊢
      have : k = 0 := by simpa using hk
      subst this
      simp at h; subst h
      simp [hx]
theorem tw_end {f : Nat → Bool} {r : List Nat} {k : Nat} (hk : k ≤ (r.takeWhile f).length) (h : r.length ≤ k) : k = (r.takeWhile f).length := by
  have := (List.takeWhile_prefix (l := r) f).length_le
  omega
theorem tw_take (f : Nat → Bool) : ∀ r : List Nat, r.take (r.takeWhile f).length = r.takeWhile f
  | [] => rfl
  | x :: r => by
    cases hx : f x with
    | true => rw [List.takeWhile_cons_of_pos hx, List.length_cons, List.take_succ_cons, tw_take f r]
    | false => rw [List.takeWhile_cons_of_neg (by simp [hx])]; rfl
def fshift (f : Int) : Int := if f < 0 then -1 else f + 1
theorem findFrom_cons (x c b : Nat) (r : List Nat) : findFrom (x :: r) c (b + 1) = fshift (findFrom r c b) := by
  unfold findFrom fshift
  rw [List.drop_succ_cons]
  cases (r.drop b).idxOf? c with
  | none => simp
  | some k => simp only; rw [if_neg (by omega)]; omega
theorem findFrom_zero {x c : Nat} (h : x ≠ c) (r : List Nat) : findFrom (x :: r) c 0 = fshift (findFrom r c 0) := by
  unfold findFrom fshift
  rw [List.drop_zero, List.drop_zero, List.idxOf?_cons, if_neg (by simpa using h)]
  cases r.idxOf? c with
  | none => simp
  | some k => simp only [Option.map_some]; rw [if_neg (by omega)]; omega
theorem findFrom_hit (c : Nat) (r : List Nat) : findFrom (c :: r) c 0 = 0 := by
  unfold findFrom
  rw [List.drop_zero, List.idxOf?_cons, if_pos (by simp)]
  rfl
theorem find_line (c : Nat) : ∀ (l : List Nat) (i : Nat), i < (parted c l).length → findFrom l c (begins (parted c l) i) = if i + 1 < (parted c l).length then (begins (parted c l) (i + 1) : Int) - 1 else -1
  | [], i, h => by
    rw [parted_nil] at h ⊢
    have : i = 0 := by simpa using h
    subst this
    rfl
  | x :: r, i, h => by
    by_cases hx : x = c
    · subst hx
      rw [parted_hit] at h ⊢
      have hn : 0 < (parted x r).length := List.length_pos_iff.mpr (parted_ne x r)
      cases i with
      | zero =>
        rw [begins_zero, findFrom_hit, if_pos (by simpa using hn), begins_cons, begins_zero]
        rfl
      | succ i =>
        have hi : i < (parted x r).length := by simpa using h
        have ih := find_line x r i hi
        rw [begins_cons, begins_cons, List.length_nil, show 0 + 1 + begins (parted x r) i = begins (parted x r) i + 1 from by omega, findFrom_cons, ih, List.length_cons]
        by_cases h2 : i + 1 < (parted x r).length
        · have h3 : begins (parted x r) 0 < begins (parted x r) (i + 1) := begins_lt (parted x r) (Nat.zero_lt_succ i) (Nat.le_of_lt h2)
          rw [begins_zero] at h3
          rw [if_pos h2, if_pos (by omega)]
          unfold fshift
          rw [if_neg (by omega)]
          omega
        · rw [if_neg h2, if_neg (by omega)]; rfl
    · obtain ⟨a, t, e1, e2⟩ := parted_miss hx r
      have ih := fun i h => find_line c r i h
      rw [e1] at ih
      rw [e2] at h ⊢
      have hb : ∀ j, begins ((x :: a) :: t) (j + 1) = begins (a :: t) (j + 1) + 1 := fun j => by rw [begins_cons, begins_cons, List.length_cons]; omega
      have hl : ((x :: a) :: t).length = (a :: t).length := rfl
      have fin : ∀ j, j < (a :: t).length → fshift (findFrom r c (begins (a :: t) j)) = if j + 1 < ((x :: a) :: t).length then (begins ((x :: a) :: t) (j + 1) : Int) - 1 else -1 := fun j hj => by
        rw [ih j hj, hl]
        by_cases h2 : j + 1 < (a :: t).length
        · have h3 : begins (a :: t) 0 < begins (a :: t) (j + 1) := begins_lt (a :: t) (Nat.zero_lt_succ j) (Nat.le_of_lt h2)
          rw [begins_zero] at h3
          rw [if_pos h2, if_pos h2, hb]
          unfold fshift
          rw [if_neg (by omega)]
          omega
        · rw [if_neg h2, if_neg h2]; rfl
      cases i with
      | zero =>
        have f0 := fin 0 h
        rw [begins_zero] at f0 ⊢
        rw [findFrom_zero hx, f0]
      | succ i =>
        rw [hb, findFrom_cons, fin (i + 1) h]
end TN

set_option Elab.async false
set_option linter.all false
set_option maxRecDepth 100000
set_option maxHeartbeats 4000000
set_option autoImplicit false
namespace TN
open PySem PySem.Spec PyProof.Rows L2
/-! ### heaps that only grow -/
def Ext (H H' : Hp) : Prop := ∀ a o, H a = some o → H' a = some o
namespace Ext
variable {H H' H'' : Hp} {p : Addr} {o : HO}
theorem rfl' : Ext H H := fun _ _ h => h
theorem trans (h : Ext H H') (k : Ext H' H'') : Ext H H'' := fun a o e => k a o (h a o e)
theorem none (h : Ext H H') (k : H' p = .none) : H p = .none := by
  cases e : H p with
  | none => rfl
  | some o => rw [h p o e] at k; cases k
theorem up (h : Ext H H') (k : H' p = .none) (o : HO) : Ext H (upd H' p o) := fun a o' e => by
  have : a ≠ p := fun z => by rw [z] at e; rw [h.none k] at e; cases e
  rw [upd_ne this]; exact h a o' e
theorem up0 (h : Ext H H') (k : H p = .none) (o : HO) : Ext H (upd H' p o) := fun a o' e => by
  have : a ≠ p := fun z => by rw [z] at e; rw [k] at e; cases e
  rw [upd_ne this]; exact h a o' e
theorem new (k : H p = .none) (o : HO) : Ext H (upd H p o) := rfl'.up k o
end Ext
/-! ### two lists, place by place -/
inductive All2 {α β : Type} (R : α → β → Prop) : List α → List β → Prop
  | nil : All2 R [] []
  | cons {x : α} {y : β} {xs : List α} {ys : List β} : R x y → All2 R xs ys → All2 R (x :: xs) (y :: ys)
namespace All2
variable {α β : Type} {R S : α → β → Prop} {xs xs' : List α} {ys ys' : List β}
theorem length (h : All2 R xs ys) : xs.length = ys.length := by induction h with | nil => rfl | cons _ _ ih => simp [ih]
theorem mono (h : All2 R xs ys) (k : ∀ x y, R x y → S x y) : All2 S xs ys := by induction h with | nil => exact .nil | cons r _ ih => exact .cons (k _ _ r) ih
theorem append (h : All2 R xs ys) (k : All2 R xs' ys') : All2 R (xs ++ xs') (ys ++ ys') := by induction h with | nil => exact k | cons r _ ih => exact .cons r ih
theorem snoc {x : α} {y : β} (h : All2 R xs ys) (k : R x y) : All2 R (xs ++ [x]) (ys ++ [y]) := h.append (.cons k .nil)
theorem get (h : All2 R xs ys) : ∀ {i : Nat} {x : α}, xs[i]? = some x → ∃ y, ys[i]? = some y ∧ R x y := by
  induction h with
  | nil => intro i x e; simp at e
  | cons r _ ih =>
    intro i x e
    cases i with
    | zero => simp at e; subst e; exact ⟨_, rfl, r⟩
    | succ i => simp at e; obtain ⟨y, e', r'⟩ := ih e; exact ⟨y, by simpa using e', r'⟩
theorem dropLast (h : All2 R xs ys) : All2 R xs.dropLast ys.dropLast := by
  induction h with
  | nil => exact .nil
  | cons r h ih =>
    cases h with
    | nil => exact .nil
    | cons r' h' => exact .cons r ih
theorem take (h : All2 R xs ys) : ∀ (n : Nat), All2 R (xs.take n) (ys.take n) := by
  induction h with
  | nil => intro n; simp; exact .nil
  | cons r h ih =>
    intro n
    cases n with
    | zero => exact .nil
    | succ n => exact .cons r (ih n)
theorem map_eq {f : β → α} (h : All2 (fun x y => x = f y) xs ys) : xs = ys.map f := by induction h with | nil => rfl | cons r _ ih => simp [r, ih]
end All2
theorem dp_all {K : PySem.W.Frag} {H : Hp} {vs : List V} {ds : List PyData} (h : All2 (Dp K H) vs ds) : DpAll K H vs ds := by
  induction h with
  | nil => exact .nil
  | cons r _ ih => exact .cons r ih
theorem all_dp {K : PySem.W.Frag} {H : Hp} : ∀ {vs : List V} {ds : List PyData}, DpAll K H vs ds → All2 (Dp K H) vs ds
  | _, _, .nil => .nil
  | _, _, .cons r h => .cons r (all_dp h)
theorem inV_strs (z : Str) : ∀ ws : List Str, inV (.str z) (ws.map V.str) = decide (z ∈ ws)
  | [] => rfl
  | x :: ws => by
    have ih := inV_strs z ws
    unfold inV at ih ⊢
    rw [List.map_cons, List.any_cons, ih]
    by_cases h : z = x
    · subst h; simp [eqV]
    · have : (x == z) = false := by simpa using fun e => h e.symm
      simp [eqV, h, this]
theorem flat_strs : ∀ ws : List Str, (ws.map V.str).all flatV = true := by
  intro ws
  simp [flatV]
theorem s_inw {K : PySem.W.Frag} {H : Hp} {Q : VK} {z : Str} {p : Addr} (ws : List Str) (hq : SqL K H p (ws.map V.str) ∨ SqT K H p (ws.map V.str)) (h : Q (.bl (decide (z ∈ ws))) H) : rInA K (.str z) (.ref p) H Q :=
  s_inq hq rfl (flat_strs ws) (by rw [inV_strs]; exact h)
/-! ### x is None -/
def rIsN : R2 := fun x y H Q => y = .non ∧ Q (.bl (decide (x = .non))) H
def rNotN : R2 := fun x y H Q => y = .non ∧ Q (.bl (!decide (x = .non))) H
theorem op_isNA {X : Cx} : OpR X (compareOp .Is) rIsN := op_isN
theorem op_notNA {X : Cx} : OpR X (compareOp .IsNot) rNotN := op_notN
section
variable {H : Hp} {Q : VK} {a : Addr} {i : Int} {z : Str}
theorem n_isn (h : Q (.bl true) H) : rIsN .non .non H Q := ⟨rfl, h⟩
theorem n_isr (h : Q (.bl false) H) : rIsN (.ref a) .non H Q := ⟨rfl, h⟩
theorem n_isi (h : Q (.bl false) H) : rIsN (.int i) .non H Q := ⟨rfl, h⟩
theorem n_iss (h : Q (.bl false) H) : rIsN (.str z) .non H Q := ⟨rfl, h⟩
theorem n_non (h : Q (.bl false) H) : rNotN .non .non H Q := ⟨rfl, h⟩
theorem n_nor (h : Q (.bl true) H) : rNotN (.ref a) .non H Q := ⟨rfl, h⟩
theorem n_noi (h : Q (.bl true) H) : rNotN (.int i) .non H Q := ⟨rfl, h⟩
theorem n_nos (h : Q (.bl true) H) : rNotN (.str z) .non H Q := ⟨rfl, h⟩
end
/-! ### unpacking a tuple -/
section
variable {K : PySem.W.Frag} {H : Hp} {σ : L2.St} {Q : VK} {a : Addr} {xs : List V} {v : V} {vs : List V}
theorem s_gtup {n : Nat} {t : TGs} {q : L2.St → Hp → Prop} (ha : H a = some (.tup xs)) (hl : xs.length = n) (h : t xs σ H q) : gTup K n t (.ref a) σ H q := ⟨a, xs, rfl, sq_t ha, hl, h⟩
theorem s_gcons {t : TG} {u : TGs} {q : L2.St → Hp → Prop} (h : t v σ H fun σ' H' => u vs σ' H' q) : gCons t u (v :: vs) σ H q := ⟨v, vs, rfl, h⟩
theorem s_gnil {q : L2.St → Hp → Prop} (h : q σ H) : gNil [] σ H q := ⟨rfl, h⟩
end
/-! ### tuple(x), list(x), max, min, abs, int, sum -/
section
variable {X : Cx}
def rTupleOf (K : PySem.W.Frag) : List V → Hp → VK → Prop := fun xs H Q => ∃ p ys, xs = [.ref p] ∧ ((SqL K H p ys ∧ ∀ l, H l = none → Q (.ref l) (upd H l (.tup ys))) ∨ (SqT K H p ys ∧ Q (.ref p) H))
def rListOf (K : PySem.W.Frag) : List V → Hp → VK → Prop := fun xs H Q => ∃ p ys, xs = [.ref p] ∧ (SqL K H p ys ∨ SqT K H p ys) ∧ ∀ l, H l = none → Q (.ref l) (upd H l (.lst ys))
def rMaxN : List V → Hp → VK → Prop := fun xs H Q => ∃ i j, xs = [.int i, .int j] ∧ Q (.int (if j > i then j else i)) H
def rMinN : List V → Hp → VK → Prop := fun xs H Q => ∃ i j, xs = [.int i, .int j] ∧ Q (.int (if j < i then j else i)) H
def rAbsN : List V → Hp → VK → Prop := fun xs H Q => ∃ i, xs = [.int i] ∧ Q (.int (if i < 0 then -i else i)) H
def rIntN : List V → Hp → VK → Prop := fun xs H Q => (∃ i, xs = [.int i] ∧ Q (.int i) H) ∨ ∃ k, xs = [.bl k] ∧ Q (.int (if k then 1 else 0)) H
theorem call_tupleOf : CallR X (.type "tuple") (rTupleOf X.K) := call_tuple_of
theorem call_listOf : CallR X (.type "list") (rListOf X.K) := call_list_of
theorem call_maxN (hc : X.calm = true) : CallR X (.builtin "max") rMaxN := call_max2 hc
theorem call_minN (hc : X.calm = true) : CallR X (.builtin "min") rMinN := call_min2 hc
theorem call_absN : CallR X (.builtin "abs") rAbsN := call_abs
theorem call_intN : CallR X (.type "int") rIntN := call_int1
end
section
variable {K : PySem.W.Frag} {H : Hp} {σ : L2.St} {Q : VK} {p : Addr} {xs : List V} {i j : Int} {b : Bool}
theorem c_tupL (hp : H p = some (.lst xs)) (h : ∀ l, H l = none → Q (.ref l) (upd H l (.tup xs))) : rTupleOf K [.ref p] H Q := ⟨p, xs, rfl, .inl ⟨sq_l hp, h⟩⟩
theorem c_tupT (hp : H p = some (.tup xs)) (h : Q (.ref p) H) : rTupleOf K [.ref p] H Q := ⟨p, xs, rfl, .inr ⟨sq_t hp, h⟩⟩
theorem c_lstL (hp : H p = some (.lst xs)) (h : ∀ l, H l = none → Q (.ref l) (upd H l (.lst xs))) : rListOf K [.ref p] H Q := ⟨p, xs, rfl, .inl (sq_l hp), h⟩
theorem c_lstT (hp : H p = some (.tup xs)) (h : ∀ l, H l = none → Q (.ref l) (upd H l (.lst xs))) : rListOf K [.ref p] H Q := ⟨p, xs, rfl, .inr (sq_t hp), h⟩
theorem c_max (h : Q (.int (if j > i then j else i)) H) : rMaxN [.int i, .int j] H Q := ⟨i, j, rfl, h⟩
theorem c_min (h : Q (.int (if j < i then j else i)) H) : rMinN [.int i, .int j] H Q := ⟨i, j, rfl, h⟩
theorem c_abs (h : Q (.int (if i < 0 then -i else i)) H) : rAbsN [.int i] H Q := ⟨i, rfl, h⟩
theorem c_int (h : Q (.int i) H) : rIntN [.int i] H Q := .inl ⟨i, rfl, h⟩
theorem c_intb (h : Q (.int (if b then 1 else 0)) H) : rIntN [.bl b] H Q := .inr ⟨b, rfl, h⟩
theorem c_sum {ns : List Int} (hp : H p = some (.lst (ns.map V.int))) (h : Q (.int ns.sum) H) : rSum K [.ref p] H Q := ⟨p, ns, rfl, sq_l hp, h⟩
/-! list(range(..)) -/
theorem c_lrg {te : L2.St → Hp → (Int → Int → Hp → Prop) → Prop} (h : te σ H fun a b H1 => RgOk a b ∧ ∀ q, H1 q = none → Q (.ref q) (upd H1 q (.lst (rgV a b)))) : tLstRg te σ H Q := h
theorem c_rg2 {ta tb : TE} {R : Int → Int → Hp → Prop} (h : ta σ H fun x H1 => tb σ H1 fun y H2 => ∃ i j, x = .int i ∧ y = .int j ∧ R i j H2) : tRg2 ta tb σ H R := h
theorem c_ii {R : Int → Int → Prop} (h : R i j) : ∃ a b, V.int i = V.int a ∧ V.int j = V.int b ∧ R a b := ⟨i, j, rfl, rfl, h⟩
/-! slices of tuples, lists -/
theorem c_slt {lo hi : Option Int} (hp : H p = some (.tup xs)) (h1 : HT.sIx xs.length 0 lo = 0 ∧ HT.sIx xs.length xs.length hi = xs.length → Q (.ref p) H) (h2 : ∀ q, H q = none → Q (.ref q) (upd H q (.tup (cutV xs lo hi)))) : rSlA K (.ref p) lo hi H Q :=
  .inr (.inl ⟨p, xs, rfl, sq_t hp, h1, fun _ => h2⟩)
/-! comprehensions -/
theorem c_lc {wi : TI} {g : TG} {tt : TT} {te : TE} {vs : List Nat} (h : wi σ H fun J H1 => ∀ D, H1 D = none → ∃ W : Nat → Nat → Hp → Prop, (∃ m, W 0 m (upd H1 D (.lst []))) ∧ ∀ i m H, W i m H →
  (J.stop i H ∧ Q (.ref D) H) ∨ (J.go i H ∧ ∃ Nx : Hp → Prop, (∀ H', Nx H' → ∃ m', m' < m ∧ W (i + 1) m' H') ∧ ∀ x H', J.yld i H x H' → g x (wipe σ vs) H' fun σ2 H2 => wipe σ2 vs = wipe σ vs ∧ tt σ2 H2 fun b H3 =>
    if b = true then te σ2 H3 fun y H4 => ∃ acc, H4 D = some (.lst acc) ∧ acc.length < sizeLine ∧ Nx (upd H4 D (.lst (acc ++ [y]))) else Nx H3)) : tLc wi g tt te vs σ H Q := h
theorem c_ref {R : Addr → Prop} (h : R p) : ∃ a, V.ref p = V.ref a ∧ R a := ⟨p, rfl, h⟩
theorem c_seql {R : Prop} (hp : H p = some (.lst xs)) (h : R) : (∃ ys, SqL K H p ys) ∧ R := ⟨⟨xs, sq_l hp⟩, h⟩
theorem c_seqt {R : Prop} (hp : H p = some (.tup xs)) (h : R) : (∃ ys, SqT K H p ys) ∧ R := ⟨⟨xs, sq_t hp⟩, h⟩
theorem c_seql' {R : Addr → Prop} (hp : H p = some (.lst xs)) (h : R p) : ∃ a, V.ref p = V.ref a ∧ (∃ ys, SqL K H a ys) ∧ R a := ⟨p, rfl, ⟨xs, sq_l hp⟩, h⟩
theorem c_seqt' {R : Addr → Prop} (hp : H p = some (.tup xs)) (h : R p) : ∃ a, V.ref p = V.ref a ∧ (∃ ys, SqT K H a ys) ∧ R a := ⟨p, rfl, ⟨xs, sq_t hp⟩, h⟩
theorem c_yes {R : Bool → Hp → Prop} (h : R true H) : tYes σ H R := h
end
/-! ### the same rules where the own facts K are named (inside comprehensions) -/
section
variable {X : Cx} (K : PySem.W.Frag) (hk : X.K = K)
include hk
theorem op_addK : OpR X (binaryOp .Add) (rAddA K) := hk ▸ op_addA
theorem op_eqK (hu : X.A.units + 64 < cLine) : OpR X (compareOp .Eq) (rEqA K) := hk ▸ op_eqA hu
theorem op_neK (hu : X.A.units + 64 < cLine) : OpR X (compareOp .NotEq) (rNeA K) := hk ▸ op_neA hu
theorem op_inK : OpR X (compareOp .In) (rInA K) := hk ▸ op_inA
theorem call_lenK : CallR X (.builtin "len") (rLenA K) := hk ▸ call_lenA
theorem sl_AK : SlR X (rSlA K) := hk ▸ sl_A
theorem ix_seqK : IxR X (rIx K) := hk ▸ ix_seq
theorem pi_seqK {tg l : Expr} {tl : TE} (hl : PE X l tl) : PI X tg l (fun σ H R => iList K tl σ H R ∨ iTup K tl σ H R) := hk ▸ pi_seq hl
end
theorem c_u {g : Int → V} {i : Int} {H : Hp} {Q : VK} (h : Q (g i) H) : rU g (.int i) H Q := ⟨i, rfl, h⟩
theorem c_wipe {σ σ' : L2.St} {vs : List Nat} {q : Prop} (e : wipe σ vs = wipe σ' vs) (h : q) : wipe σ vs = wipe σ' vs ∧ q := ⟨e, h⟩
theorem cutV_to (xs : List V) (k : Nat) : cutV xs none (some (k : Int)) = xs.take k := by
  unfold cutV
  rw [HT.sIx_none, HT.sIx_nat, List.drop_zero, Nat.sub_zero]
  by_cases h : k ≤ xs.length
  · rw [Nat.min_eq_left h]
  · rw [Nat.min_eq_right (by omega), List.take_length, List.take_of_length_le (by omega)]
theorem cutV_init (xs : List V) : cutV xs none (some (-1)) = xs.dropLast := by
  unfold cutV
  rw [HT.sIx_none, List.drop_zero, Nat.sub_zero, List.dropLast_eq_take]
  congr 1
  show (if (-1 : Int) < 0 then (-1 + (xs.length : Int)).toNat else min (-1 : Int).toNat xs.length) = xs.length - 1
  rw [if_pos (by decide)]
  omega
theorem c_slInit {K : PySem.W.Frag} {H : Hp} {Q : VK} {p : Addr} {xs : List V} (hp : H p = some (.tup xs)) (hn : xs ≠ []) (h : ∀ q, H q = none → Q (.ref q) (upd H q (.tup xs.dropLast))) : rSlA K (.ref p) none (some (-1)) H Q :=
  c_slt hp (fun ⟨_, e⟩ => by
    have hl : 0 < xs.length := List.length_pos_iff.mpr hn
    change (if (-1 : Int) < 0 then (-1 + (xs.length : Int)).toNat else min (-1 : Int).toNat xs.length) = xs.length at e
    rw [if_pos (by decide)] at e
    omega) (by rw [cutV_init]; exact h)
theorem rd_ext {H H' : Hp} (x : Ext H H') {a : Addr} {u : HO} (h : Rd H a u) : Rd H' a u := h.elim (fun h => .inl (x _ _ h)) fun ⟨o, h⟩ => .inr ⟨o, x _ _ h⟩
theorem sqL_ext {K : PySem.W.Frag} {H H' : Hp} (x : Ext H H') {a : Addr} {xs : List V} (h : SqL K H a xs) : SqL K H' a xs := h.elim (fun h => .inl (rd_ext x h)) .inr
theorem sqT_ext {K : PySem.W.Frag} {H H' : Hp} (x : Ext H H') {a : Addr} {xs : List V} (h : SqT K H a xs) : SqT K H' a xs := h.elim (fun h => .inl (rd_ext x h)) .inr
mutual
theorem dp_ext {K : PySem.W.Frag} {H H' : Hp} (x : Ext H H') : ∀ {v : V} {d : PyData}, Dp K H v d → Dp K H' v d
  | _, _, .non => .non
  | _, _, .bl b => .bl b
  | _, _, .int i => .int i
  | _, _, .str z => .str z
  | _, _, .lst hs h => .lst (sqL_ext x hs) (dpAll_ext x h)
  | _, _, .tup hs h => .tup (sqT_ext x hs) (dpAll_ext x h)
theorem dpAll_ext {K : PySem.W.Frag} {H H' : Hp} (x : Ext H H') : ∀ {vs : List V} {ds : List PyData}, DpAll K H vs ds → DpAll K H' vs ds
  | _, _, .nil => .nil
  | _, _, .cons r h => .cons (dp_ext x r) (dpAll_ext x h)
end
/-! ### data that stands in the tracked heap -/
mutual
inductive Dh (H : Hp) : V → PyData → Prop
  | non : Dh H .non .none
  | bl (b : Bool) : Dh H (.bl b) (.bool b)
  | int (i : Int) : Dh H (.int i) (.int i)
  | str (x : Str) : Dh H (.str x) (.str x)
  | lst {a : Addr} {xs : List V} {ds : List PyData} : H a = some (.lst xs) → DhAll H xs ds → Dh H (.ref a) (.list ds)
  | tup {a : Addr} {xs : List V} {ds : List PyData} : H a = some (.tup xs) → DhAll H xs ds → Dh H (.ref a) (.tuple ds)
inductive DhAll (H : Hp) : List V → List PyData → Prop
  | nil : DhAll H [] []
  | cons {v : V} {vs : List V} {d : PyData} {ds : List PyData} : Dh H v d → DhAll H vs ds → DhAll H (v :: vs) (d :: ds)
end
mutual
theorem Dh.dp {K : PySem.W.Frag} {H : Hp} : ∀ {v : V} {d : PyData}, Dh H v d → Dp K H v d
  | _, _, .non => .non
  | _, _, .bl b => .bl b
  | _, _, .int i => .int i
  | _, _, .str z => .str z
  | _, _, .lst hs h => .lst (sq_l hs) (DhAll.dp h)
  | _, _, .tup hs h => .tup (sq_t hs) (DhAll.dp h)
theorem DhAll.dp {K : PySem.W.Frag} {H : Hp} : ∀ {vs : List V} {ds : List PyData}, DhAll H vs ds → DpAll K H vs ds
  | _, _, .nil => .nil
  | _, _, .cons r h => .cons (Dh.dp r) (DhAll.dp h)
end
mutual
theorem Dh.ext {H H' : Hp} (x : Ext H H') : ∀ {v : V} {d : PyData}, Dh H v d → Dh H' v d
  | _, _, .non => .non
  | _, _, .bl b => .bl b
  | _, _, .int i => .int i
  | _, _, .str z => .str z
  | _, _, .lst hs h => .lst (x _ _ hs) (DhAll.ext x h)
  | _, _, .tup hs h => .tup (x _ _ hs) (DhAll.ext x h)
theorem DhAll.ext {H H' : Hp} (x : Ext H H') : ∀ {vs : List V} {ds : List PyData}, DhAll H vs ds → DhAll H' vs ds
  | _, _, .nil => .nil
  | _, _, .cons r h => .cons (Dh.ext x r) (DhAll.ext x h)
end
theorem dh_all {H : Hp} {vs : List V} {ds : List PyData} (h : All2 (Dh H) vs ds) : DhAll H vs ds := by
  induction h with
  | nil => exact .nil
  | cons r _ ih => exact .cons r ih
theorem all_dh {H : Hp} : ∀ {vs : List V} {ds : List PyData}, DhAll H vs ds → All2 (Dh H) vs ds
  | _, _, .nil => .nil
  | _, _, .cons r h => .cons r (all_dh h)
/-! unpacking a tuple or a list -/
def gSeq (K : PySem.W.Frag) (n : Nat) (t : TGs) : TG := fun v σ H Q => gTup K n t v σ H Q ∨ gUnl K n t v σ H Q
theorem pg_seq {X : Cx} {pos : Pos} {es : List Expr} {k : Nat} {t : TGs} {n : Nat} (hc : X.calm = true) (h : PGs X es t)
    (hn : (assignEach es X.env).length = n := by rfl) (hst : (assignEach es X.env).findIdx? (·.1) = none := by rfl) : PG X (.Tuple es k pos) (gSeq X.K n t) :=
  ⟨fun pins s σ H v u Q I r hw => hw.elim (fun hw => (pg_tup hc h hn hst).run pins s σ H v u Q I r hw) (fun hw => (pg_unl hc h hn hst).run pins s σ H v u Q I r hw)⟩
section
variable {K : PySem.W.Frag} {H : Hp} {σ : L2.St} {Q : VK} {a : Addr} {xs : List V} {v : V} {ta tb tc : TE}
theorem s_gseqT {n : Nat} {t : TGs} {q : L2.St → Hp → Prop} (ha : H a = some (.tup xs)) (hl : xs.length = n) (h : t xs σ H q) : gSeq K n t (.ref a) σ H q := .inl ⟨a, xs, rfl, sq_t ha, hl, h⟩
theorem s_gseqL {n : Nat} {t : TGs} {q : L2.St → Hp → Prop} (ha : H a = some (.lst xs)) (hl : xs.length = n) (h : t xs σ H q) : gSeq K n t (.ref a) σ H q := .inr ⟨a, xs, rfl, sq_l ha, hl, h⟩
theorem c_chain {r r' : R2} (h : ta σ H fun x H1 => tb σ H1 fun y H2 => r x y H2 fun z H3 => ∃ k, z = .bl k ∧ (if k = true then tc σ H3 fun w' H4 => r' y w' H4 Q else Q (.bl false) H3)) : tChain r r' ta tb tc σ H Q := h
end
end TN

set_option Elab.async false
set_option linter.all false
set_option maxRecDepth 100000
set_option maxHeartbeats 4000000
set_option autoImplicit false
namespace TN
open PySem PySem.Spec PyProof.Rows L2
/-! ### heaps that change at two lists alone -/
def ExtB (b l : Addr) (H H' : Hp) : Prop := ∀ a o, a ≠ b → a ≠ l → H a = some o → H' a = some o
namespace ExtB
variable {b l p : Addr} {H H' H'' : Hp} {o : HO}
theorem rfl' : ExtB b l H H := fun _ _ _ _ h => h
theorem of (h : Ext H H') : ExtB b l H H' := fun a o _ _ e => h a o e
theorem trans (h : ExtB b l H H') (k : ExtB b l H' H'') : ExtB b l H H'' := fun a o n1 n2 e => k a o n1 n2 (h a o n1 n2 e)
theorem upb (h : ExtB b l H H') (o : HO) : ExtB b l H (upd H' b o) := fun a o' n1 n2 e => by rw [upd_ne n1]; exact h a o' n1 n2 e
theorem upl (h : ExtB b l H H') (o : HO) : ExtB b l H (upd H' l o) := fun a o' n1 n2 e => by rw [upd_ne n2]; exact h a o' n1 n2 e
theorem up (h : ExtB b l H H') (k : H' p = none) (o : HO) : ExtB b l H (upd H' p o) := fun a o' n1 n2 e => by
  have q := h a o' n1 n2 e
  rw [upd_ne (fun z => by rw [z, k] at q; cases q)]
  exact q
theorem up0 (h : ExtB b l H H') (k : H p = none) (o : HO) : ExtB b l H (upd H' p o) := fun a o' n1 n2 e => by
  rw [upd_ne (fun z => by rw [z, k] at e; cases e)]
  exact h a o' n1 n2 e
end ExtB
/-- a bag of draws: a list of its cells' list, a number, a number -/
structure BagAt (b l : Addr) (H : Hp) : Prop where
  ex : ∃ (cells : List Int) (n m : Int), H b = some (.lst [.ref l, .int n, .int m]) ∧ H l = some (.lst (cells.map V.int)) ∧ (∀ c ∈ cells, 0 ≤ c) ∧ 0 ≤ n ∧ 0 ≤ m
namespace BagAt
variable {b l : Addr} {H H' : Hp}
theorem ne (h : BagAt b l H) : b ≠ l := fun z => by
  obtain ⟨cells, n, m, h1, h2, _⟩ := h.ex
  rw [z, h2] at h1
  cases cells with
  | nil => cases h1
  | cons c cs => cases h1
theorem ext (h : BagAt b l H) (x : Ext H H') : BagAt b l H' := by
  obtain ⟨cells, n, m, h1, h2, h3⟩ := h.ex
  exact ⟨cells, n, m, x _ _ h1, x _ _ h2, h3⟩
theorem is (h : BagAt b l H) : (∃ xs, H b = some (.lst xs)) ∧ ∃ xs, H l = some (.lst xs) := by
  obtain ⟨cells, n, m, h1, h2, _⟩ := h.ex
  exact ⟨⟨_, h1⟩, ⟨_, h2⟩⟩
end BagAt
/-! ### more steps -/
section
variable {K : PySem.W.Frag} {H : Hp} {Q : VK} {i j : Int} {l e : Addr}
theorem c_ri {C : Int → Int → Prop} {g : Int → Int → V} (hc : C i j) (h : Q (g i j) H) : rI C g (.int i) (.int j) H Q := ⟨i, j, rfl, rfl, hc, h⟩
theorem c_mul (hc : CMul i j) (h : Q (.int (i * j)) H) : rMulA (.int i) (.int j) H Q := .inl ⟨i, j, rfl, rfl, hc, h⟩
theorem c_mulS {z : Str} {n : Int} (hz : z.length = 1) (h1 : n ≤ 1000000) (h2 : -1000000 ≤ n) (h : Q (.str (Txt.mul z n)) H) : rMulA (.str z) (.int n) H Q := .inr ⟨z, n, rfl, rfl, hz, h1, h2, h⟩
theorem m1 {k : Int} (h : -(2 ^ 64) < k ∧ k < 2 ^ 64) : CMul k j := .inl h
theorem m2 {k : Int} (h : -(2 ^ 64) < k ∧ k < 2 ^ 64) : CMul i k := .inr h
theorem dp_ints : ∀ cs : List Int, All2 (Dp K H) (cs.map V.int) (cs.map PyData.int)
  | [] => .nil
  | c :: cs => .cons (.int c) (dp_ints cs)
theorem canLay_ints : ∀ cs : List Int, PyData.canLayAll0 (cs.map PyData.int) = true
  | [] => rfl
  | c :: cs => by show (true && PyData.canLayAll0 (cs.map PyData.int)) = true; rw [canLay_ints cs]; rfl
theorem depth_ints : ∀ cs : List Int, PyData.depthAll (cs.map PyData.int) ≤ 1
  | [] => by decide
  | c :: cs => by
    have ih := depth_ints cs
    show max (PyData.depth (.int c)) (PyData.depthAll (cs.map PyData.int)) ≤ 1
    exact Nat.max_le.mpr ⟨Nat.zero_le _, ih⟩
/-- a list of ints and the empty list -/
theorem c_neNil {cs : List Int} (h1 : H l = some (.lst (cs.map V.int))) (h2 : H e = some (.lst [])) (h : Q (.bl (!decide (cs = []))) H) : rNeA K (.ref l) (.ref e) H Q := by
  refine .inr ⟨.list (cs.map PyData.int), .list [], .lst (sq_l h1) (dp_all (dp_ints cs)), .lst (sq_l h2) .nil, ?_, by decide, ?_⟩
  · unfold SeqAt.shaped
    rw [Bool.and_eq_true]
    refine ⟨canLay_ints cs, decide_eq_true ?_⟩
    have := depth_ints cs
    show PyData.depthAll (cs.map PyData.int) + 1 ≤ 64
    omega
  · have e : (!PyData.eqv (.list (cs.map PyData.int)) (.list [])) = !decide (cs = []) := by
      cases cs with
      | nil => rfl
      | cons c cs => simp [PyData.eqv, PyData.eqvAll]
    rw [e]
    exact h
end
/-! ### loops with what holds after them -/
section
variable {K : PySem.W.Frag} {σ : L2.St} {H : Hp} {nx bk ct : L2.St → Hp → Prop} {rt : VK} {tt : TT} {tb : TS} {g : TG} {a : Addr} {xs : List V}
theorem s_whileJ (W : Nat → L2.St → Hp → Prop) (J : L2.St → Hp → Prop) (h0 : ∃ m, W m σ H) (fin : ∀ σ H, J σ H → nx σ H)
    (step : ∀ nx' : L2.St → Hp → Prop, (∀ σ H, J σ H → nx' σ H) → ∀ m σ H, W m σ H → tt σ H fun b H1 => if b = true then ∃ N : L2.St → Hp → Prop, (∀ σ' H', N σ' H' → ∃ m', m' < m ∧ W m' σ' H') ∧ tb ⟨N, rt, nx', N⟩ σ H1 else nx' σ H1) :
    tWhile tt tb ⟨nx, rt, bk, ct⟩ σ H := ⟨W, h0, step nx fin⟩
theorem f_list (I : Nat → L2.St → Hp → Prop) (h0 : I 0 σ H) (hl : ∀ i σ H, I i σ H → SqL K H a xs) (fin : ∀ σ H, I xs.length σ H → nx σ H)
    (step : ∀ nx' : L2.St → Hp → Prop, (∀ σ H, I xs.length σ H → nx' σ H) → ∀ i x σ H, xs[i]? = some x → I i σ H → g x σ H fun σ2 H2 => tb ⟨I (i + 1), rt, nx', I (i + 1)⟩ σ2 H2) :
    ∃ W : Nat → Nat → L2.St → Hp → Prop, (∃ m, W 0 m σ H) ∧ ∀ i m σ H, W i m σ H → ((Itl K a).stop i H ∧ nx σ H) ∨ ((Itl K a).go i H ∧ ∃ N : L2.St → Hp → Prop, (∀ σ' H', N σ' H' → ∃ m', m' < m ∧ W (i + 1) m' σ' H') ∧ ∀ x H', (Itl K a).yld i H x H' → g x σ H' fun σ2 H2 => tb { (⟨nx, rt, bk, ct⟩ : Ends) with nx := N, ct := N, bk := nx } σ2 H2) := by
  refine ⟨fun i m σ H => I i σ H ∧ i ≤ xs.length ∧ m = xs.length - i, ⟨_, h0, Nat.zero_le _, rfl⟩, ?_⟩
  rintro i m σ H ⟨hI, hi, rfl⟩
  have hs := hl i σ H hI
  by_cases h : i < xs.length
  · refine .inr ⟨⟨xs, xs[i], hs, List.getElem?_eq_getElem h⟩, I (i + 1), fun σ' H' z => ⟨xs.length - (i + 1), by omega, z, by omega, rfl⟩, ?_⟩
    rintro x H' ⟨rfl, hx⟩
    exact step nx fin i x σ _ (hx xs hs) hI
  · have e : i = xs.length := by omega
    subst e
    exact .inl ⟨⟨xs, hs, Nat.le_refl _⟩, fin σ H hI⟩
theorem f_tup (I : Nat → L2.St → Hp → Prop) (h0 : I 0 σ H) (hl : ∀ i σ H, I i σ H → SqT K H a xs) (fin : ∀ σ H, I xs.length σ H → nx σ H)
    (step : ∀ nx' : L2.St → Hp → Prop, (∀ σ H, I xs.length σ H → nx' σ H) → ∀ i x σ H, xs[i]? = some x → I i σ H → g x σ H fun σ2 H2 => tb ⟨I (i + 1), rt, nx', I (i + 1)⟩ σ2 H2) :
    ∃ W : Nat → Nat → L2.St → Hp → Prop, (∃ m, W 0 m σ H) ∧ ∀ i m σ H, W i m σ H → ((Itt K a).stop i H ∧ nx σ H) ∨ ((Itt K a).go i H ∧ ∃ N : L2.St → Hp → Prop, (∀ σ' H', N σ' H' → ∃ m', m' < m ∧ W (i + 1) m' σ' H') ∧ ∀ x H', (Itt K a).yld i H x H' → g x σ H' fun σ2 H2 => tb { (⟨nx, rt, bk, ct⟩ : Ends) with nx := N, ct := N, bk := nx } σ2 H2) := by
  refine ⟨fun i m σ H => I i σ H ∧ i ≤ xs.length ∧ m = xs.length - i, ⟨_, h0, Nat.zero_le _, rfl⟩, ?_⟩
  rintro i m σ H ⟨hI, hi, rfl⟩
  have hs := hl i σ H hI
  by_cases h : i < xs.length
  · refine .inr ⟨⟨xs, xs[i], hs, List.getElem?_eq_getElem h⟩, I (i + 1), fun σ' H' z => ⟨xs.length - (i + 1), by omega, z, by omega, rfl⟩, ?_⟩
    rintro x H' ⟨rfl, hx⟩
    exact step nx fin i x σ _ (hx xs hs) hI
  · have e : i = xs.length := by omega
    subst e
    exact .inl ⟨⟨xs, hs, Nat.le_refl _⟩, fin σ H hI⟩
theorem f_range {lo : Int} {n : Nat} (I : Nat → L2.St → Hp → Prop) (h0 : I 0 σ H) (fin : ∀ σ H, I n σ H → nx σ H)
    (step : ∀ nx' : L2.St → Hp → Prop, (∀ σ H, I n σ H → nx' σ H) → ∀ (i : Nat) σ H, i < n → I i σ H → g (.int (lo + i)) σ H fun σ2 H2 => tb ⟨I (i + 1), rt, nx', I (i + 1)⟩ σ2 H2) :
    ∃ W : Nat → Nat → L2.St → Hp → Prop, (∃ m, W 0 m σ H) ∧ ∀ i m σ H, W i m σ H → ((Itr lo n).stop i H ∧ nx σ H) ∨ ((Itr lo n).go i H ∧ ∃ N : L2.St → Hp → Prop, (∀ σ' H', N σ' H' → ∃ m', m' < m ∧ W (i + 1) m' σ' H') ∧ ∀ x H', (Itr lo n).yld i H x H' → g x σ H' fun σ2 H2 => tb { (⟨nx, rt, bk, ct⟩ : Ends) with nx := N, ct := N, bk := nx } σ2 H2) := by
  refine ⟨fun i m σ H => I i σ H ∧ i ≤ n ∧ m = n - i, ⟨_, h0, Nat.zero_le _, rfl⟩, ?_⟩
  rintro i m σ H ⟨hI, hi, rfl⟩
  by_cases h : i < n
  · refine .inr ⟨h, I (i + 1), fun σ' H' z => ⟨n - (i + 1), by omega, z, by omega, rfl⟩, ?_⟩
    rintro x H' ⟨rfl, rfl⟩
    exact step nx fin i σ _ h hI
  · have e : i = n := by omega
    subst e
    exact .inl ⟨Nat.le_refl _, fin σ H hI⟩
end
theorem mod_nat {x : Int} {n : Nat} (h : 0 < n) : ∃ v : Nat, x % (n : Int) = v ∧ v < n := by
  have h1 := Int.emod_nonneg x (show (n : Int) ≠ 0 by omega)
  have h2 := Int.emod_lt_of_pos x (show (0 : Int) < n by omega)
  exact ⟨(x % (n : Int)).toNat, by omega, by omega⟩
theorem c_lrv {te : TE} {σ : L2.St} {H : Hp} {Q : VK} (h : te σ H fun x H1 => ∃ l xs, x = .ref l ∧ H1 l = some (.lst xs) ∧ ∀ q, H1 q = none → Q (.ref q) (upd H1 q (.lst xs.reverse))) : tListRev te σ H Q := h
theorem c_rvl {H : Hp} {p : Addr} {xs : List V} {Q : List V → Prop} (hp : H p = some (.lst xs)) (h : Q xs) : ∃ l xs, V.ref p = .ref l ∧ H l = some (.lst xs) ∧ Q xs := ⟨p, xs, rfl, hp, h⟩
/-! ### asked of the caught exception -/
section
variable {K : PySem.W.Frag} {H : Hp} {σ : L2.St} {Q : VK} {a C D dd tp : Addr} {fs : List (Str × V)} {b : Bool} {n : Str} {v : V} {te : TE}
theorem x_one (hd : H dd = some (.xd fs)) (k : PySem.W.kitOne K (.ref C) (.ref D) = some b) (h : Q (.bl b) H) : rIsX K a C (some dd) [.ref a, .ref D] H Q :=
  ⟨fun _ e => by cases e; exact ⟨fs, hd⟩, .inl ⟨D, b, rfl, k, h⟩⟩
theorem x_any {cs : List Addr} (hd : H dd = some (.xd fs)) (ht : H tp = some (.tup (cs.map V.ref))) (k : PySem.W.kitAny K (.ref C) (cs.map Value.ref) = some b) (h : Q (.bl b) H) : rIsX K a C (some dd) [.ref a, .ref tp] H Q :=
  ⟨fun _ e => by cases e; exact ⟨fs, hd⟩, .inr ⟨tp, cs, b, rfl, ht, k, h⟩⟩
theorem x_at (h : te σ H fun x H1 => x = .ref a ∧ ∃ (d' : Addr) (fs : List (Str × V)) (v : V), some dd = some d' ∧ H1 d' = some (.xd fs) ∧ fs.lookup n = some v ∧ Q v H1) : tXn a (some dd) n te σ H Q := h
theorem x_get {R : V → Prop} (hd : H dd = some (.xd fs)) (hv : fs.lookup n = some v) (h : R v) : V.ref a = .ref a ∧ ∃ (d' : Addr) (fs : List (Str × V)) (v : V), some dd = some d' ∧ H d' = some (.xd fs) ∧ fs.lookup n = some v ∧ R v := ⟨rfl, dd, fs, v, rfl, hd, hv, h⟩
end
theorem s_callx {sp : SpX} {n : Nat} {a : Addr} {cls : Value} {d : Option Addr} {t : TA} {σ : L2.St} {H : Hp} {Q : VK} (h : t σ H fun vs H1 => vs.length = n ∧ sp a cls d vs H1 Q E0) : tCallX sp n a cls d t σ H Q := h
theorem BagAt.up {b l p : Addr} {H : Hp} (h : BagAt b l H) (k : H p = none) (o : HO) : BagAt b l (upd H p o) := h.ext (Ext.new k o)
theorem BagAt.fresh {b l p : Addr} {H : Hp} (h : BagAt b l H) (k : H p = none) : p ≠ b ∧ p ≠ l := by
  obtain ⟨⟨xs, h1⟩, ⟨ys, h2⟩⟩ := h.is
  exact ⟨fun z => (by rw [z, h1] at k; cases k), fun z => (by rw [z, h2] at k; cases k)⟩
theorem ExtB.none {b l p : Addr} {H H' : Hp} (h : ExtB b l H H') (n1 : p ≠ b) (n2 : p ≠ l) (k : H' p = .none) : H p = .none := by
  cases e : H p with
  | none => rfl
  | some o => rw [h p o n1 n2 e] at k; cases k
theorem s_rng1' {j : Int} {R : Int → Prop} (h1 : -(2 ^ 62) ≤ j) (h2 : j < 2 ^ 62) (h : R j) : ∃ i : Int, [V.int j] = [.int i] ∧ -(2 ^ 62) ≤ i ∧ i < 2 ^ 62 ∧ R i := ⟨j, rfl, h1, h2, h⟩
theorem s_rng2' {i j : Int} {R : Int → Int → Prop} (h1 : -(2 ^ 62) ≤ i ∧ i < 2 ^ 62 ∧ -(2 ^ 62) ≤ j ∧ j < 2 ^ 62) (h : R i j) : ∃ i' j' : Int, [V.int i, V.int j] = [.int i', .int j'] ∧ (-(2 ^ 62) ≤ i' ∧ i' < 2 ^ 62 ∧ -(2 ^ 62) ≤ j' ∧ j' < 2 ^ 62) ∧ R i' j' := ⟨i, j, rfl, h1, h⟩
theorem BagAt.off {b l p : Addr} {H : Hp} (h : BagAt b l H) (n1 : p ≠ b) (n2 : p ≠ l) (o : HO) : BagAt b l (upd H p o) := by
  obtain ⟨cells, n, m, g⟩ := h.ex
  exact ⟨cells, n, m, by rw [upd_ne (Ne.symm n1), upd_ne (Ne.symm n2)]; exact g⟩
end TN

set_option Elab.async false
set_option linter.all false
set_option maxRecDepth 100000
set_option maxHeartbeats 4000000
set_option autoImplicit false
namespace TN
open PySem PySem.Spec PyProof.Rows L2
/-! ### data that repr shows: depth at most k, weight at most n -/
def okS (z : Str) : Prop := ∀ c ∈ tl z, c < 1114112
structure Sh (d : PyData) (k n : Nat) : Prop where
  lay : d.canLay0 = true
  int : d.intsShort 13 = true
  show_ : d.showable = true
  dep : d.depth ≤ k
  wei : d.weight ≤ n
structure ShAll (ds : List PyData) (k n : Nat) : Prop where
  lay : PyData.canLayAll0 ds = true
  int : PyData.intsShortAll 13 ds = true
  show_ : PyData.showableAll ds = true
  dep : PyData.depthAll ds ≤ k
  wei : PyData.weightAll ds ≤ n
namespace Sh
variable {d : PyData} {ds : List PyData} {k n m j : Nat}
theorem mono (h : Sh d k n) (hk : k ≤ j) (hn : n ≤ m) : Sh d j m := ⟨h.lay, h.int, h.show_, Nat.le_trans h.dep hk, Nat.le_trans h.wei hn⟩
theorem str {z : Str} (h : okS z) (hn : z.length ≤ n) : Sh (.str z) k n := by
  refine ⟨?_, rfl, rfl, Nat.zero_le _, hn⟩
  show PySem.PyData.strOk z = true
  unfold PySem.PyData.strOk
  rw [← Array.all_toList, List.all_eq_true]
  intro c hc
  exact decide_eq_true (h c hc)
theorem bool {b : Bool} : Sh (.bool b) k n := ⟨rfl, rfl, rfl, Nat.zero_le _, Nat.zero_le _⟩
theorem none : Sh .none k n := ⟨rfl, rfl, rfl, Nat.zero_le _, Nat.zero_le _⟩
theorem log_lt {i : Nat} (h : i < 1000000000000) : i.log2 < 40 := by
  by_cases h0 : i = 0
  · subst h0; decide
  · exact (Nat.log2_lt h0).mpr (Nat.lt_of_lt_of_le h (by decide))
theorem int' {i : Int} (h1 : -999999999999 ≤ i) (h2 : i ≤ 999999999999) (hn : 41 ≤ n) : Sh (.int i) k n := by
  have hl : i.natAbs.log2 < 40 := log_lt (by omega)
  refine ⟨rfl, decide_eq_true (PyData.shown_int_le2 h1 h2), decide_eq_true (by omega), Nat.zero_le _, ?_⟩
  show (if i == 0 then 0 else i.natAbs.log2 + 1) ≤ n
  split <;> omega
theorem list (h : ShAll ds k n) : Sh (.list ds) (k + 1) n := ⟨h.lay, h.int, h.show_, Nat.succ_le_succ h.dep, h.wei⟩
theorem tuple (h : ShAll ds k n) : Sh (.tuple ds) (k + 1) n := ⟨h.lay, h.int, h.show_, Nat.succ_le_succ h.dep, h.wei⟩
theorem shows (h : Sh d k n) (hk : k ≤ 40) (hn : n ≤ 1000000) : d.showable = true ∧ d.hasDict = false ∧ d.depth ≤ 40 ∧ d.shown.length ≤ sizeLine := by
  refine ⟨h.show_, PyData.hasDict_of_canLay d h.lay, Nat.le_trans h.dep hk, ?_⟩
  have hl : PyData.layable0 d = true := by
    show (PyData.canLay0 d && decide (PyData.depth d ≤ 64) && decide (PyData.weight d ≤ 2 ^ 20)) = true
    simp only [Bool.and_eq_true, decide_eq_true_eq]
    exact ⟨⟨h.lay, by have := h.dep; omega⟩, by have := h.wei; omega⟩
  have := shown_le13 hl h.int
  rw [sizeLine_eq]
  omega
end Sh
namespace ShAll
variable {d : PyData} {ds es : List PyData} {k n m n' : Nat}
theorem nil : ShAll [] k n := ⟨rfl, rfl, rfl, Nat.zero_le _, Nat.zero_le _⟩
theorem cons (h : Sh d k n) (t : ShAll ds k m) (e : n + 1 + m ≤ n') : ShAll (d :: ds) k n' :=
  ⟨by show (PyData.canLay0 d && PyData.canLayAll0 ds) = true; rw [h.lay, t.lay]; rfl,
   by show (PyData.intsShort 13 d && PyData.intsShortAll 13 ds) = true; rw [h.int, t.int]; rfl,
   by show (PyData.showable d && PyData.showableAll ds) = true; rw [h.show_, t.show_]; rfl,
   Nat.max_le.mpr ⟨h.dep, t.dep⟩,
   by show PyData.weight d + 1 + PyData.weightAll ds ≤ n'; have := h.wei; have := t.wei; omega⟩
theorem one (h : Sh d k n) (e : n + 1 ≤ n') : ShAll [d] k n' := cons h (nil (n := 0)) e
/-- many of the same bound -/
theorem all : ∀ {ds : List PyData}, (∀ d ∈ ds, Sh d k n) → ShAll ds k (ds.length * (n + 1))
  | [], _ => nil
  | d :: ds, h => cons (h d List.mem_cons_self) (all fun e he => h e (List.mem_cons_of_mem _ he)) (by rw [List.length_cons, Nat.add_mul]; omega)
theorem mono (h : ShAll ds k n) (hn : n ≤ m) : ShAll ds k m := ⟨h.lay, h.int, h.show_, h.dep, Nat.le_trans h.wei hn⟩
end ShAll
section
variable {K : PySem.W.Frag} {H : Hp} {Q : VK} {p : Addr} {d : PyData} {k n : Nat}
theorem c_repr (hd : Dp K H (.ref p) d) (hs : Sh d k n) (hk : k ≤ 40) (hn : n ≤ 1000000) (h : Q (.str d.shown) H) : rRepr K [.ref p] H Q :=
  let ⟨h1, h2, h3, h4⟩ := hs.shows hk hn
  ⟨p, d, rfl, hd, h1, h2, h3, h4, h⟩
end
theorem call_reprK {X : Cx} (K : PySem.W.Frag) (hk : X.K = K) (hg : X.A.guards = some []) (hu : X.A.units + 64 < cLine) : CallR X (.builtin "repr") (rRepr K) := hk ▸ call_reprD hg hu
theorem all2_map {α β γ : Type} {R : α → β → Prop} {f : γ → β} : ∀ {xs : List α} {ys : List γ}, All2 R xs (ys.map f) → All2 (fun x y => R x (f y)) xs ys
  | [], [], _ => .nil
  | [], _ :: _, h => nomatch h
  | _ :: _, [], h => nomatch h
  | _ :: _, _ :: _, .cons r h => .cons r (all2_map h)
end TN

set_option Elab.async false
set_option linter.all false
set_option maxRecDepth 100000
set_option maxHeartbeats 4000000
set_option autoImplicit false
namespace TN
open PySem PySem.Spec PyProof.Rows L2
section
variable {P : Program} {w : World} {K : PySem.W.Frag} {h : Heap} {mg : Str → Option Value}
theorem raw_mk (X : K.In h) (G : h.Ns mainGlobals mg) {x : Str} {st : Stmt} {f : Addr} {oc : Value} {od an : Option Addr} {osl : Array (Option Value)} {kV doc pm cdv ct : Value} (a : PySem.W.nsIn K mainGlobals x = some (some (.ref f)))
    (l : K.lookup f = some ⟨oc, od, .func (PySem.W.fnOf x x (defArgs st) (defBody st) (defScope st) .none kV doc pm an cdv ct), osl⟩) (c : PySem.W.codeIn K cdv x = true) (k : PySem.W.keepIn K (.ref f) = true) : RawFn K mg x st :=
  ⟨f, _, PySem.W.mg_of X G a, fun_mk l c k⟩
theorem glob_ref (X : K.In h) (G : h.Ns mainGlobals mg) {x : Str} {a : Addr} (e : PySem.W.nsIn K mainGlobals x = some (some (.ref a))) : GlobV mg x (.ref a) := ⟨_, PySem.W.mg_of X G e, rfl⟩
theorem glob_str (X : K.In h) (G : h.Ns mainGlobals mg) {x z : Str} {t : Tok} (e : PySem.W.nsIn K mainGlobals x = some (some (.str z t))) : GlobV mg x (.str z) := ⟨_, PySem.W.mg_of X G e, ⟨t, rfl⟩⟩
theorem glob_int (X : K.In h) (G : h.Ns mainGlobals mg) {x : Str} {i : Int} {t : Tok} (e : PySem.W.nsIn K mainGlobals x = some (some (.int i t))) : GlobV mg x (.int i) := ⟨_, PySem.W.mg_of X G e, ⟨t, rfl⟩⟩
/-- a tuple of texts that stands in the program -/
inductive StrsAre : List Str → List Value → Prop
  | nil : StrsAre [] []
  | cons {z : Str} {t : Tok} {zs : List Str} {vs : List Value} : StrsAre zs vs → StrsAre (z :: zs) (.str z t :: vs)
theorem strs_vals : ∀ {zs : List Str} {vs : List Value}, StrsAre zs vs → Vals (zs.map V.str) vs
  | _, _, .nil => .nil
  | _, _, .cons h => .cons ⟨_, rfl⟩ (strs_vals h)
theorem tup_mk {a : Addr} {zs : List Str} {od : Option Addr} {its : Array Value} {n : Nat} {sl : Array (Option Value)} (l : K.lookup a = some ⟨.type "tuple", od, .seq its n, sl⟩) (hz : its.size ≤ sizeLine) (hs : StrsAre zs its.toList) : ∀ H, SqT K H a (zs.map V.str) :=
  fun H => .inr ⟨_, its, n, l, rfl, rfl, hz, strs_vals hs⟩
theorem exm_of {S T : Addr} {b : Bool} (h1 : PySem.W.subIn K (.ref T) (.type "BaseException") = some true) (h2 : PySem.W.isClsIn K T = true) (h3 : PySem.W.typeIn K (.ref T) = some (.type "type")) (h4 : PySem.W.subIn K (.ref S) (.ref T) = some b) :
    PySem.W.exmOne K (.ref S) (.ref T) = some b := by
  have e1 : (PySem.W.subIn K (.ref T) (.type "BaseException") == some true) = true := by rw [h1] <;> rfl
  have e2 : ((PySem.W.clsIn K T).isSome && PySem.W.typeIn K (.ref T) == some (.type "type")) = true := by
    have h2' : (PySem.W.clsIn K T).isSome = true := h2
    rw [h2', h3] <;> rfl
  show (if (PySem.W.subIn K (.ref T) (.type "BaseException") == some true) = true then (if ((PySem.W.clsIn K T).isSome && PySem.W.typeIn K (.ref T) == some (.type "type")) = true then PySem.W.subIn K (.ref S) (.ref T) else none) else none) = some b
  rw [if_pos e1, if_pos e2]
  exact h4
theorem kit_of {S T : Addr} {b : Bool} (hne : (Value.ref S == Value.ref T) = false) (h2 : PySem.W.isClsIn K T = true) (h3 : PySem.W.typeIn K (.ref T) = some (.type "type")) (h4 : PySem.W.subIn K (.ref S) (.ref T) = some b) : PySem.W.kitOne K (.ref S) (.ref T) = some b := by
  have e2 : ((PySem.W.clsIn K T).isSome && PySem.W.typeIn K (.ref T) == some (.type "type")) = true := by
    have h2' : (PySem.W.clsIn K T).isSome = true := h2
    rw [h2', h3] <;> rfl
  unfold PySem.W.kitOne
  rw [hne, if_neg Bool.false_ne_true]
  show (if ((PySem.W.clsIn K T).isSome && PySem.W.typeIn K (.ref T) == some (.type "type")) = true then PySem.W.subIn K (.ref S) (.ref T) else none) = some b
  rw [if_pos e2]
  exact h4
theorem kit_self {S : Addr} : PySem.W.kitOne K (.ref S) (.ref S) = some true := by unfold PySem.W.kitOne; rw [if_pos (by simp)]
theorem kita_nil {S : Addr} : PySem.W.kitAny K (.ref S) (([] : List Addr).map Value.ref) = some false := rfl
theorem kita_cons {S T : Addr} {ts : List Addr} (h : PySem.W.kitOne K (.ref S) (.ref T) = some false) (t : PySem.W.kitAny K (.ref S) (ts.map Value.ref) = some false) : PySem.W.kitAny K (.ref S) ((T :: ts).map Value.ref) = some false := by
  show PySem.W.kitAny K (.ref S) (.ref T :: ts.map Value.ref) = some false
  unfold PySem.W.kitAny
  rw [h]
  exact t
theorem raise_mk (X : K.In h) (G : h.Ns mainGlobals mg) {x fld : Str} {C fI cc cda : Addr} {nm q : Str} {N : Addr} {bs bm : List Value} {sn : List Str} {sub : List Value} {ab : Bool} {col : Option Bool} {dd : Option Addr} {m0 m1 m2 m3 m5 : Option Value}
    {name qual : Str} {params : Arguments} {scope : Scope} {dV kV doc pm ct : Value} {an : Option Addr} {oc : Value} {od : Option Addr} {osl : Array (Option Value)} {p0 p1 p2 p3 p4 p5 q1 q2 q3 q4 : Pos} {pl : Env → Sem Bool}
    {ccl : Value} {cdd : Option Addr} {vs : Array Value} {ccs : Array (Option Value)} {file : Str} {tf : Tok} {cl : Value} {cld : Option Addr} {csl : Array (Option Value)}
    (aC : PySem.W.nsIn K mainGlobals x = some (some (.ref C))) (xL : K.lookup C = some (excClassObj nm q C N bs bm true sn sub ab col dd m0 m1 m2 m3 m5 "ValueError.__new__")) (rv : PySem.HandSPX.refsVE bm = true)
    (sa : PySem.W.findIn K (.ref C) "__setattr__" = some (some (.builtin "object.__setattr__"))) (exC : PySem.W.subIn K (.ref C) (.type "BaseException") = some true) (tyC : PySem.W.typeIn K (.ref C) = some (.type "type")) (kC : PySem.W.keepIn K (.ref C) = true)
    (no : PySem.W.findIn K (.ref C) fld = some none) (iC : PySem.W.findIn K (.ref C) "__init__" = some (some (.ref fI))) (tI : PySem.W.typeIn K (.ref fI) = some (.type "function"))
    (lk : K.lookup fI = some ⟨oc, od, .func (PySem.W.fnX name qual params (initBody fld p0 p1 p2 p3 p4 p5 q1 q2 q3 q4) scope [("__class__", cc)] dV kV doc pm an (.ref cda) ct), osl⟩)
    (hp : (params.posonlyargs ++ params.args).head?.map (·.arg) = some ("self" : Str)) (hcd : PySem.W.codeIn K (.ref cda) qual = true) (hev : InitCall fld p0 p1 p2 p3 p4 pl) (S : InitScope fld scope)
    (hb : ∀ us : List Value, us.length = (["self", fld] : List Str).length → bindArgs (PySem.W.fnX name qual params (initBody fld p0 p1 p2 p3 p4 p5 q1 q2 q3 q4) scope [("__class__", cc)] dV kV doc pm an (.ref cda) ct) ⟨us, []⟩ = pure ((["self", fld] : List Str).zip us))
    (c1 : K.lookup cda = some ⟨ccl, cdd, .fields vs, ccs⟩) (c2 : vs[2]? = some (.str file tf)) (c3 : ((P.main.file : Str) == file) = true) (ce : K.lookup cc = some ⟨cl, cld, .cell (some (.ref C)), csl⟩) (cls : (PySem.W.clsIn K C).isSome = true) (mro : PySem.W.mroIn K C (.ref C) = some true)
    (sup : PySem.W.nsIn K mainGlobals "super" = some none) (opq : PySem.W.nsIn K cStatics "thirdparty.any" = some none) (sin : PySem.W.ks_superIn K C C "__init__" = some (some (.builtin "ValueError.__init__"))) (sve : PySem.W.subIn K (.ref C) (.type "ValueError") = some true) (top : (P.main.scope.names.lookup ("super" : Str)).isSome = false) :
    RaiseC P K mg x fld C := by
  have O : OexC K C := ⟨⟨nm, q, N, bs, bm, sn, sub, ab, col, dd, m0, m1, m2, m3, m5, xL, rv⟩, sa, exC, tyC, kC⟩
  exact ⟨PySem.W.mg_of X G aC, no, O, fI, _, iC, tI, .all hb, fun w base mg CX => sup_init hev ⟨O, iC, tI, ⟨oc, od, osl, lk⟩, ⟨name, qual, params, dV, kV, doc, pm, an, ct, rfl, hp, hcd⟩, ⟨ccl, cdd, vs, ccs, file, tf, c1, c2, c3⟩, ⟨cl, cld, csl, ce⟩, cls, mro, sup, opq, sin, sve, top⟩ S no⟩
theorem end_of {x p : Str} {st : Stmt} {fa : Addr} {k : Nat} {sp : Sp} (hfa : mg x = some (.ref fa)) (R : RawFn K mg x st)
    (hb : ∀ (kV doc pm : Value) (an : Option Addr) (cdv ct u : Value), bindArgs (PySem.W.fnOf x x (defArgs st) (defBody st) (defScope st) .none kV doc pm an cdv ct) ⟨[u], []⟩ = pure [(p, u)])
    (D : ∀ base : Heap, DefOk P w K mg base CX0 x st k [p] sp) :
    ∃ fd : FuncData, (∀ (s : Shared) (u : Value), BindsTo s fd ⟨[u], []⟩ [(p, u)]) ∧ ∀ base : Heap, K.In base → base.Ns mainGlobals mg → FnG P w K mg base CX0 k fa fd [p] sp := by
  obtain ⟨f, fd, hm, F⟩ := R.ex
  have e := hm.symm.trans hfa
  cases e
  have F0 := F
  obtain ⟨oc, od, kV, doc, pm, an, cdv, ct, osl, rfl, lk, hcd⟩ := F.ex
  refine ⟨_, fun s u => .of_eq (hb kV doc pm an cdv ct u), fun base _ _ => ?_⟩
  obtain ⟨f', fd', hm', F', Gf, _⟩ := (D base).ex
  have e := hm.symm.trans hm'
  cases e
  obtain ⟨oc', od', kV', doc', pm', an', cdv', ct', osl', e', lk', _⟩ := F'.ex
  rw [lk] at lk'
  have e2 : fd' = PySem.W.fnOf x x (defArgs st) (defBody st) (defScope st) .none kV doc pm an cdv ct := by
    injection lk' with lk'
    injection lk' with _ _ lk' _
    injection lk' with lk'
    exact lk'.symm
  rw [← e2]
  exact Gf
end
end TN

namespace K04
open PySem
def top (i : Nat) : Stmt := PySem.Challenge.pw_trustnone_k04_whole_lines.main.body.getD i (.Pass ⟨0, 0, 0, 0⟩)
end K04

set_option Elab.async false
set_option linter.all false
set_option maxRecDepth 100000
set_option maxHeartbeats 4000000
set_option autoImplicit false
namespace K04
open PySem PySem.Spec PyProof.Rows TN
/-! ### tokens, plainly -/
def letters : List Nat := tl "abcdefghijklmnopqrstuvwxyz"
def digits : List Nat := tl "0123456789"
def marks : List Nat := tl ";=+-*()[]{},<"
def blanks : List Nat := tl " \n"
def words : List Str := ["choose", "draw", "else", "for", "from", "function", "hands", "if", "input", "let", "modulo", "nought", "open", "row", "tell", "to"]
def isIn (S : List Nat) (c : Nat) : Bool := decide (c ∈ S)
structure Tok where
  k : Str
  w : List Nat
  p : Nat
def tokAt : List Nat → Option (Str × List Nat)
  | [] => none
  | c :: r =>
    if c ∈ letters then
      let w := (c :: r).takeWhile (isIn letters)
      if mk w ∈ words then some (mk w, w) else if w.length ≤ 8 then some ("name", w) else none
    else if c ∈ digits then
      let w := (c :: r).takeWhile (isIn digits)
      if w.length = 1 ∨ (w.length ≤ 3 ∧ c ≠ 48) then some ("number", w) else none
    else if c ∈ marks then some (one c, [c]) else none
def toks (l : List Nat) (p : Nat) : List Tok × Option Nat :=
  if h : p < l.length then
    if l[p] ∈ blanks then toks l (p + 1)
    else match tokAt (l.drop p) with
      | none => ([], some p)
      | some (k, w) => if hw : 0 < w.length then ((⟨k, w, p⟩ : Tok) :: (toks l (p + w.length)).1, (toks l (p + w.length)).2) else ([], some p)
  else ([], none)
termination_by l.length - p
theorem tokAt_ne {r : List Nat} {k : Str} {w : List Nat} (h : tokAt r = some (k, w)) : 0 < w.length ∧ w.length ≤ r.length ∧ w = r.take w.length := by
  cases r with
  | nil => simp [tokAt] at h
  | cons c r =>
    have pw : ∀ S : List Nat, c ∈ S → 0 < ((c :: r).takeWhile (isIn S)).length ∧ ((c :: r).takeWhile (isIn S)).length ≤ (c :: r).length ∧ (c :: r).takeWhile (isIn S) = (c :: r).take ((c :: r).takeWhile (isIn S)).length := by
      intro S hc
      refine ⟨?_, (List.takeWhile_prefix _).length_le, (tw_take _ _).symm⟩
      rw [List.takeWhile_cons, if_pos (by simp [isIn, hc])]
      simp
    unfold tokAt at h
    simp only at h
    split at h
    · rename_i hc
      split at h
      · cases h; exact pw _ hc
      · split at h
        · cases h; exact pw _ hc
        · cases h
    · split at h
      · rename_i hc
        split at h
        · cases h; exact pw _ hc
        · cases h
      · split at h
        · cases h; simp
        · cases h
theorem toks_end (l : List Nat) (p : Nat) (h : l.length ≤ p) : toks l p = ([], none) := by unfold toks; rw [dif_neg (by omega)]
theorem toks_blank {l : List Nat} {p : Nat} (h : p < l.length) (hb : l[p] ∈ blanks) : toks l p = toks l (p + 1) := by rw [toks, dif_pos h, if_pos hb]
theorem toks_bad {l : List Nat} {p : Nat} (h : p < l.length) (hb : l[p] ∉ blanks) (ht : tokAt (l.drop p) = none) : toks l p = ([], some p) := by rw [toks, dif_pos h, if_neg hb, ht]
theorem toks_tok {l : List Nat} {p : Nat} {k : Str} {w : List Nat} (h : p < l.length) (hb : l[p] ∉ blanks) (ht : tokAt (l.drop p) = some (k, w)) : toks l p = ((⟨k, w, p⟩ : Tok) :: (toks l (p + w.length)).1, (toks l (p + w.length)).2) := by
  rw [toks, dif_pos h, if_neg hb, ht]
  simp only
  rw [dif_pos (tokAt_ne ht).1]
theorem toks_at (l : List Nat) (p : Nat) : ∀ t ∈ (toks l p).1, t.p < l.length := by
  unfold toks
  split
  · rename_i h
    split
    · exact toks_at l (p + 1)
    · split
      · intro t ht; cases ht
      · rename_i k w _
        split
        · intro t ht
          cases ht with
          | head => exact h
          | tail _ ht => exact toks_at l (p + w.length) t ht
        · intro t ht; cases ht
  · intro t ht; cases ht
termination_by l.length - p
theorem part_le {c : Nat} {h l : List Nat} (hm : h ∈ parted c l) : h.length ≤ l.length := by
  obtain ⟨i, hi, rfl⟩ := List.getElem_of_mem hm
  rw [← part_at c l i hi, List.length_drop, List.length_take]
  omega
theorem sum_len : ∀ Y : List Str, (Y.map fun y => (y.length : Int) + 1).sum = (((Y.map tl).map fun h => h.length + 1).sum : Nat)
  | [] => rfl
  | y :: Y => by
    have ih := sum_len Y
    simp only [List.map_cons, List.sum_cons]
    rw [ih, len_tl]
    omega
theorem toks_len (l : List Nat) (p : Nat) : (toks l p).1.length ≤ l.length - p := by
  unfold toks
  split
  · rename_i h
    split
    · have := toks_len l (p + 1); omega
    · split
      · simp
      · rename_i k w _
        split
        · have := toks_len l (p + w.length); rw [List.length_cons]; omega
        · simp
  · simp
termination_by l.length - p
def small (l : List Nat) : Prop := l.length ≤ 8 ∧ ∀ c ∈ l, c < 128
instance (l : List Nat) : Decidable (small l) := by unfold small; infer_instance
theorem words_small : ∀ z ∈ words, small (tl z) := by decide
theorem letters_small : ∀ c ∈ letters, c < 128 := by decide
theorem digits_small : ∀ c ∈ digits, c < 128 := by decide
theorem marks_small : ∀ c ∈ marks, c < 128 := by decide
theorem tw_mem {S : List Nat} : ∀ {r : List Nat} {c : Nat}, c ∈ r.takeWhile (isIn S) → c ∈ S
  | [], _, h => by cases h
  | x :: r, c, h => by
    rw [List.takeWhile_cons] at h
    split at h
    · rename_i hx
      cases h with
      | head => simpa [isIn] using hx
      | tail _ h => exact tw_mem h
    · cases h
theorem tokAt_small {r : List Nat} {k : Str} {w : List Nat} (h : tokAt r = some (k, w)) : small (tl k) ∧ small w := by
  cases r with
  | nil => simp [tokAt] at h
  | cons c r =>
    unfold tokAt at h
    simp only at h
    split at h
    · split at h
      · rename_i hw
        cases h
        have := words_small _ hw
        exact ⟨this, this⟩
      · split at h
        · rename_i hl
          cases h
          exact ⟨by decide, hl, fun x hx => letters_small x (tw_mem hx)⟩
        · cases h
    · split at h
      · split at h
        · rename_i hl
          cases h
          exact ⟨by decide, by omega, fun x hx => digits_small x (tw_mem hx)⟩
        · cases h
      · split at h
        · rename_i hm
          cases h
          have e : ∀ x ∈ [c], x < 128 := fun x hx => by
            have e : x = c := by simpa using hx
            rw [e]; exact marks_small c hm
          exact ⟨⟨Nat.le_of_ble_eq_true rfl, e⟩, ⟨Nat.le_of_ble_eq_true rfl, e⟩⟩
        · cases h
theorem toks_small (l : List Nat) (p : Nat) : ∀ t ∈ (toks l p).1, small (tl t.k) ∧ small t.w := by
  unfold toks
  split
  · rename_i h
    split
    · exact toks_small l (p + 1)
    · split
      · intro t ht; cases ht
      · rename_i k w e
        split
        · intro t ht
          cases ht with
          | head => exact tokAt_small e
          | tail _ ht => exact toks_small l (p + w.length) t ht
        · intro t ht; cases ht
  · intro t ht; cases ht
termination_by l.length - p
theorem toks_bad_lt (l : List Nat) (p : Nat) : ∀ b, (toks l p).2 = some b → b < l.length := by
  unfold toks
  split
  · rename_i h
    split
    · exact toks_bad_lt l (p + 1)
    · split
      · intro b e; injection e with e; omega
      · rename_i k w _
        split
        · exact toks_bad_lt l (p + w.length)
        · intro b e; injection e with e; omega
  · intro b e; cases e
termination_by l.length - p
theorem part_mem {c x : Nat} {h l : List Nat} (hm : h ∈ parted c l) (hx : x ∈ h) : x ∈ l := by
  obtain ⟨i, hi, rfl⟩ := List.getElem_of_mem hm
  rw [← part_at c l i hi] at hx
  exact List.mem_of_mem_take (List.mem_of_mem_drop hx)
theorem toks_skip (l : List Nat) (p : Nat) : toks l (p + ((l.drop p).takeWhile (isIn blanks)).length) = toks l p := by
  by_cases h : p < l.length
  · rw [List.drop_eq_getElem_cons h, List.takeWhile_cons]
    by_cases hb : l[p] ∈ blanks
    · rw [if_pos (by simp [isIn, hb]), toks_blank h hb, List.length_cons, ← toks_skip l (p + 1)]
      congr 1
      omega
    · rw [if_neg (by simp [isIn, hb])]; rfl
  · rw [List.drop_of_length_le (by omega)]; rfl
termination_by l.length - p
theorem letters_blanks : ∀ c ∈ letters, c ∉ blanks := by decide
theorem digits_blanks : ∀ c ∈ digits, c ∉ blanks := by decide
theorem marks_blanks : ∀ c ∈ marks, c ∉ blanks := by decide
theorem big_words {w : List Nat} (h : 8 < w.length) : mk w ∉ words := fun hm => by
  have := (words_small _ hm).1
  rw [tl_mk] at this
  omega
end K04

set_option Elab.async false
set_option linter.all false
set_option maxRecDepth 100000
set_option maxHeartbeats 4000000
set_option autoImplicit false
namespace K04
open PySem PySem.Spec PyProof.Rows TN
/-! ### the tokens stand in order -/
theorem toks_ge (l : List Nat) (p : Nat) : ∀ t ∈ (toks l p).1, p ≤ t.p := by
  unfold toks
  split
  · rename_i h
    split
    · intro t ht; have := toks_ge l (p + 1) t ht; omega
    · split
      · intro t ht; cases ht
      · rename_i k w _
        split
        · intro t ht
          cases ht with
          | head => exact Nat.le_refl _
          | tail _ ht => have := toks_ge l (p + w.length) t ht; omega
        · intro t ht; cases ht
  · intro t ht; cases ht
termination_by l.length - p
theorem toks_sorted (l : List Nat) (p : Nat) : (toks l p).1.Pairwise fun a b => a.p ≤ b.p := by
  unfold toks
  split
  · rename_i h
    split
    · exact toks_sorted l (p + 1)
    · split
      · exact .nil
      · rename_i k w _
        split
        · refine .cons (fun t ht => ?_) (toks_sorted l (p + w.length))
          have := toks_ge l (p + w.length) t ht
          show p ≤ t.p
          omega
        · exact .nil
  · exact .nil
termination_by l.length - p
theorem filter_next {α : Type} (f : α → Nat) (n : Nat) : ∀ ts : List α, (ts.Pairwise fun a b => f a ≤ f b) → ts.filter (fun t => decide (f t < n + 1)) = ts.filter (fun t => decide (f t < n)) ++ ts.filter (fun t => decide (f t = n))
  | [], _ => rfl
  | t :: ts, h => by
    obtain ⟨h1, h2⟩ := List.pairwise_cons.mp h
    have ih := filter_next f n ts h2
    by_cases a : f t < n
    · rw [List.filter_cons_of_pos (by simp; omega), List.filter_cons_of_pos (by simpa using a), List.filter_cons_of_neg (by simp; omega), ih]
      rfl
    · have e1 : ts.filter (fun t => decide (f t < n)) = [] := List.filter_eq_nil_iff.mpr fun x hx => by have := h1 x hx; simp; omega
      rw [e1, List.nil_append] at ih
      rw [List.filter_cons_of_neg (p := fun t => decide (f t < n)) (by simpa using a), e1, List.nil_append]
      by_cases b : f t = n
      · rw [List.filter_cons_of_pos (by simp; omega), List.filter_cons_of_pos (by simpa using b), ih]
      · rw [List.filter_cons_of_neg (by simp; omega), List.filter_cons_of_neg (by simpa using b), ih]
theorem line_sorted (l : List Nat) : (toks l 0).1.Pairwise fun a b => (l.take a.p).count 10 ≤ (l.take b.p).count 10 :=
  (toks_sorted l 0).imp fun {a b} h => List.Sublist.count_le _ (List.take_sublist_take_left h)
/-! ### joined signs -/
def someL : List Str := ["open", "x", ";", "let", "y", "=", "12", "+", "(", "]", "function", "name", "0", "999", "<", "{", "to"]
def kindOf (s : Str) : Str := if s ∈ words then s else match tl s with
  | [] => s
  | c :: _ => if c ∈ letters then "name" else if c ∈ digits then "number" else s
def goodSign (l : List Nat) : Prop := match l with
  | [] => False
  | c :: r => (c ∈ letters ∧ (∀ x ∈ r, x ∈ letters) ∧ r.length ≤ 7) ∨ (c ∈ digits ∧ (∀ x ∈ r, x ∈ digits) ∧ (r = [] ∨ r.length ≤ 2 ∧ c ≠ 48)) ∨ (c ∈ marks ∧ r = [])
instance (l : List Nat) : Decidable (goodSign l) := by
  unfold goodSign
  cases l <;> infer_instance
theorem some_good : ∀ s ∈ someL, goodSign (tl s) := by decide
theorem words_letters : ∀ s ∈ words, ∀ c ∈ tl s, c ∈ letters := by decide
theorem not_digit : ∀ c ∈ digits, c ∉ letters := by decide
theorem not_mark : ∀ c ∈ marks, c ∉ letters ∧ c ∉ digits := by decide
theorem blank_letter : ∀ c ∈ blanks, c ∉ letters ∧ c ∉ digits := by decide
theorem tw_stop {S : List Nat} : ∀ {l r : List Nat} {d : Nat}, (∀ c ∈ l, c ∈ S) → d ∉ S → (l ++ d :: r).takeWhile (isIn S) = l
  | [], r, d, _, hd => by rw [List.nil_append, List.takeWhile_cons, if_neg (by simpa [isIn] using hd)]
  | c :: l, r, d, h, hd => by
    rw [List.cons_append, List.takeWhile_cons, if_pos (by simpa [isIn] using h c List.mem_cons_self), tw_stop (fun x hx => h x (List.mem_cons_of_mem _ hx)) hd]
theorem tok_sign {s : Str} {d : Nat} {r : List Nat} (h : goodSign (tl s)) (hd : d ∈ blanks) : tokAt (tl s ++ d :: r) = some (kindOf s, tl s) ∧ ∃ c l, tl s = c :: l ∧ c ∉ blanks := by
  obtain ⟨bl, bd⟩ := blank_letter d hd
  have ems : mk (tl s) = s := mk_tl s
  cases e : tl s with
  | nil => rw [e] at h; exact h.elim
  | cons c l =>
    rw [e] at h
    unfold kindOf
    rw [e] at ems ⊢
    rcases h with ⟨h1, h2, h3⟩ | ⟨h1, h2, h3⟩ | ⟨h1, h2⟩
    · refine ⟨?_, c, l, rfl, letters_blanks c h1⟩
      have et : (c :: l ++ d :: r).takeWhile (isIn letters) = c :: l := tw_stop (fun x hx => (List.mem_cons.mp hx).elim (fun e => by rw [e]; exact h1) (h2 x)) bl
      rw [List.cons_append] at et ⊢
      unfold tokAt
      simp only
      rw [if_pos h1, et, ems]
      by_cases hw : s ∈ words
      · rw [if_pos hw, if_pos hw]
      · rw [if_neg hw, if_neg hw, if_pos (by simp; omega), if_pos h1]
    · have hn := not_digit c h1
      refine ⟨?_, c, l, rfl, digits_blanks c h1⟩
      have et : (c :: l ++ d :: r).takeWhile (isIn digits) = c :: l := tw_stop (fun x hx => (List.mem_cons.mp hx).elim (fun e => by rw [e]; exact h1) (h2 x)) bd
      have hw : s ∉ words := fun hw => hn (words_letters s hw c (by rw [e]; exact List.mem_cons_self))
      rw [List.cons_append] at et ⊢
      unfold tokAt
      simp only
      rw [if_neg hn, if_pos h1, et, if_neg hw, if_neg hn, if_pos h1, if_pos]
      rcases h3 with rfl | ⟨h3, h4⟩
      · exact .inl rfl
      · by_cases hl : l = []
        · subst hl; exact .inl rfl
        · exact .inr ⟨by simp; omega, h4⟩
    · obtain ⟨m1, m2⟩ := not_mark c h1
      subst h2
      refine ⟨?_, c, [], rfl, marks_blanks c h1⟩
      have hw : s ∉ words := fun hw => m1 (words_letters s hw c (by rw [e]; exact List.mem_cons_self))
      rw [List.cons_append]
      unfold tokAt
      simp only
      rw [if_neg m1, if_neg m2, if_pos h1, if_neg hw, if_neg m1, if_neg m2]
      have : one c = s := ext_tl (by rw [e])
      rw [this]
theorem toks_blankn {l : List Nat} : ∀ {b : List Nat} {p : Nat} {rest : List Nat}, l.drop p = b ++ rest → (∀ c ∈ b, c ∈ blanks) → toks l p = toks l (p + b.length)
  | [], p, rest, _, _ => rfl
  | c :: b, p, rest, e, h => by
    have hp : p < l.length := by
      have := congrArg List.length e
      rw [List.length_drop] at this
      simp at this
      omega
    have e1 := List.drop_eq_getElem_cons hp
    rw [e, List.cons_append] at e1
    injection e1 with e2 e3
    rw [toks_blank hp (by rw [← e2]; exact h c List.mem_cons_self), toks_blankn e3.symm fun x hx => h x (List.mem_cons_of_mem _ hx), List.length_cons]
    congr 1
    omega
structure BlankT (z : Str) : Prop where
  ne : tl z ≠ []
  bl : ∀ c ∈ tl z, c ∈ blanks
  le : z.length ≤ 3
def flatP (prs : List (Str × Str)) : List Nat := prs.flatMap fun pr => tl pr.1 ++ tl pr.2
theorem toks_flat {l post : List Nat} (hpost : ∀ c ∈ post, c ∈ blanks) : ∀ (prs : List (Str × Str)) (p : Nat), l.drop p = flatP prs ++ post → (∀ pr ∈ prs, goodSign (tl pr.1) ∧ BlankT pr.2) →
    (toks l p).2 = none ∧ (toks l p).1.map (fun t => (t.k, t.w)) = prs.map fun pr => (kindOf pr.1, tl pr.1)
  | [], p, e, _ => by
    have e' : l.drop p = post ++ [] := by rw [e]; simp [flatP]
    rw [toks_blankn e' hpost, toks_end l _ (by
      have := congrArg List.length e'
      rw [List.length_drop, List.append_nil] at this
      omega)]
    exact ⟨rfl, rfl⟩
  | pr :: prs, p, e, h => by
    obtain ⟨hg, hb⟩ := h pr List.mem_cons_self
    cases eb : tl pr.2 with
    | nil => exact absurd eb hb.ne
    | cons d bs =>
      have hd : d ∈ blanks := hb.bl d (by rw [eb]; exact List.mem_cons_self)
      have e1 : l.drop p = tl pr.1 ++ d :: (bs ++ (flatP prs ++ post)) := by
        rw [e]
        show (tl pr.1 ++ tl pr.2) ++ flatP prs ++ post = _
        rw [eb]
        simp
      obtain ⟨ht, c, r, ec, hc⟩ := tok_sign (r := bs ++ (flatP prs ++ post)) hg hd
      rw [← e1] at ht
      have hp : p < l.length := by
        have := congrArg List.length e1
        rw [List.length_drop] at this
        simp at this
        omega
      have hlp : l[p] = c := by
        have e2 := List.drop_eq_getElem_cons hp
        rw [e1, ec, List.cons_append] at e2
        injection e2 with e2 _
        exact e2.symm
      have e3 : l.drop (p + (tl pr.1).length) = tl pr.2 ++ (flatP prs ++ post) := by
        rw [← List.drop_drop, e1, List.drop_left, eb]
        rfl
      have e4 : l.drop (p + (tl pr.1).length + (tl pr.2).length) = flatP prs ++ post := by
        rw [← List.drop_drop, e3, List.drop_left]
      obtain ⟨i1, i2⟩ := toks_flat hpost prs _ e4 fun x hx => h x (List.mem_cons_of_mem _ hx)
      rw [toks_tok hp (by rw [hlp]; exact hc) ht, toks_blankn e3 hb.bl]
      exact ⟨i1, by rw [List.map_cons, List.map_cons, i2]⟩
end K04

set_option Elab.async false
set_option linter.all false
set_option maxRecDepth 100000
set_option maxHeartbeats 2000000
set_option autoImplicit false
namespace K04
open PySem PySem.Spec PyProof.Rows L2 TN
open L2H (cxH RoomH)
local macro_rules | `(tactic| walk_at "nq") => `(tactic| first
  | assumption
  | (apply Ne.symm; assumption)
  | grind [upd])
local macro_rules | `(tactic| walk_at "hp") => `(tactic| first
  | assumption
  | exact upd_same
  | (refine up_next ?nq0 ?hp0; (case nq0 => walk_at "nq"); (case hp0 => walk_at "hp")))
local macro_rules | `(tactic| walk_at "ex") => `(tactic| first
  | assumption
  | exact Ext.rfl'
  | (refine Ext.up ?xa ?xb _; (case xb => assumption); (case xa => walk_at "ex"))
  | (refine Ext.up0 ?xa ?xb _; (case xb => assumption); (case xa => walk_at "ex"))
  | (refine Ext.trans ?xb ?xa; (case xb => assumption); (case xa => walk_at "ex")))
local macro_rules | `(tactic| walk_at "eb") => `(tactic| first
  | assumption
  | exact ExtB.rfl'
  | (refine ExtB.up ?xa ?xb _; (case xb => assumption); (case xa => walk_at "eb"))
  | (refine ExtB.up0 ?xa ?xb _; (case xb => assumption); (case xa => walk_at "eb"))
  | (refine ExtB.trans ?xb ?xa; (case xa => assumption); (case xb => walk_at "eb"))
  | (refine ExtB.trans ?xb (ExtB.of ?xa); (case xa => assumption); (case xb => walk_at "eb")))
local macro_rules | `(tactic| walk_at "bg") => `(tactic| first
  | assumption
  | (refine BagAt.up ?xa ?xb _; (case xb => assumption); (case xa => walk_at "bg"))
  | (refine BagAt.ext ?xb ?xa; (case xa => assumption); (case xb => walk_at "bg")))
local macro_rules | `(tactic| walk_at "sz") => `(tactic| first
  | assumption
  | decide
  | (simp only [sizeLine_eq, List.length_append, List.length_cons, List.length_nil, List.length_map] at *; omega))
local macro_rules | `(tactic| walk_at "ci") => `(tactic| first
  | exact m2 (by decide)
  | exact m1 (by decide)
  | exact m1 ⟨by omega, by omega⟩
  | (show (0 : Int) < _; first | decide | omega | assumption)
  | exact ⟨by first | decide | omega, by first | decide | omega⟩
  | exact ⟨by decide, by decide, by decide⟩)
local macro_rules | `(tactic| walk_at "s1") => `(tactic| first
  | (with_reducible refine s_seq ?_)
  | (with_reducible refine s_asg ?_)
  | (with_reducible refine s_gname ?_)
  | (with_reducible refine s_ret ?_)
  | (with_reducible refine s_retn ?_)
  | (with_reducible refine s_next ?_)
  | (with_reducible refine s_drop ?_)
  | (with_reducible refine s_ifs ?_)
  | (with_reducible refine s_par ?_)
  | (with_reducible refine s_two ?_)
  | ((with_reducible refine' s_var ?sv ?_); (case sv => rfl))
  | (with_reducible refine s_c ?_)
  | (with_reducible refine s_op ?_)
  | (with_reducible refine s_un ?_)
  | (with_reducible refine s_test ?_)
  | (with_reducible refine s_tb ?_)
  | (with_reducible refine s_bl ?_)
  | (with_reducible refine s_and ?_)
  | (with_reducible refine s_or ?_)
  | (with_reducible refine s_not ?_)
  | (with_reducible refine s_andv ?_)
  | (with_reducible refine s_orv ?_)
  | (with_reducible refine s_notv ?_)
  | (with_reducible refine s_if ?_)
  | (with_reducible refine s_nil ?_)
  | (with_reducible refine s_cons ?_)
  | (with_reducible refine s_tup ?_)
  | (with_reducible refine s_lst ?_)
  | ((with_reducible refine' s_few ?sv ?_); (case sv => rfl))
  | (with_reducible refine s_m0 ?_)
  | (with_reducible refine s_m1 ?_)
  | (with_reducible refine s_str ?_)
  | (with_reducible refine s_cb ?_)
  | (with_reducible refine s_calld ?_)
  | (with_reducible refine s_callw ?_)
  | (with_reducible refine s_callk ?_)
  | (with_reducible refine s_callkw ?_)
  | (with_reducible refine s_sl ?_)
  | (with_reducible refine s_part ?_)
  | (with_reducible refine s_nopart ?_)
  | (with_reducible refine s_int ?_)
  | (with_reducible refine s_i2 ?_)
  | (with_reducible refine s_addi ?_)
  | ((with_reducible refine' s_adds ?sv ?_); (case sv => walk_at "sz"))
  | ((with_reducible refine' s_eqs ?sv ?_); (case sv => rfl))
  | ((with_reducible refine' s_nes ?sv ?_); (case sv => rfl))
  | (with_reducible refine s_ins ?_)
  | ((with_reducible refine' s_lens ?sv ?_); (case sv => walk_at "sz"))
  | ((with_reducible refine' s_lenl ?sv ?_); (case sv => walk_at "hp"))
  | ((with_reducible refine' s_lent ?sv ?_); (case sv => walk_at "hp"))
  | ((with_reducible refine' s_sls ?sv ?_); (case sv => walk_at "sz"))
  | (with_reducible refine w_tt ?_)
  | (with_reducible refine w_ff ?_)
  | (with_reducible refine s_ex2 ?_)
  | (with_reducible refine s_bm ?_)
  | (with_reducible refine s_bm0 ?_)
  | (with_reducible refine s_tys ?_)
  | ((with_reducible refine' s_tyl ?sv ?_); (case sv => walk_at "hp"))
  | ((with_reducible refine' s_app ?sv ?sw ?_); (case sv => walk_at "hp"); (case sw => walk_at "sz"))
  | (with_reducible refine s_gsub ?_)
  | ((with_reducible refine' s_ixt ?sv ?sw ?_); (case sv => walk_at "hp"); (case sw => rfl))
  | ((with_reducible refine' s_ixl ?sv ?sw ?_); (case sv => walk_at "hp"); (case sw => rfl))
  | (with_reducible refine s_pnx ?_)
  | (with_reducible refine s_prt ?_)
  | (with_reducible refine s_turn ?_)
  | (with_reducible refine s_for ?_)
  | (with_reducible refine s_ilist ?_)
  | (with_reducible refine s_itup ?_)
  | (with_reducible refine s_rng1 ?_)
  | (with_reducible refine s_rng2 ?_)
  | (with_reducible refine s_isStr ?_)
  | (with_reducible refine n_isn ?_)
  | ((with_reducible refine' s_gseqT ?sv ?sw ?_); (case sv => walk_at "hp"); (case sw => rfl))
  | ((with_reducible refine' s_gseqL ?sv ?sw ?_); (case sv => walk_at "hp"); (case sw => rfl))
  | (with_reducible refine c_chain ?_)
  | ((with_reducible refine' s_rng1' ?sv ?sw ?_); (case sv => omega); (case sw => omega))
  | ((with_reducible refine' s_rng2' ?sv ?_); (case sv => refine ⟨?_, ?_, ?_, ?_⟩ <;> omega))
  | (with_reducible refine s_callx ?_)
  | ((with_reducible refine' w_t ?sv ?_); (case sv => rfl))
  | ((with_reducible refine' w_f ?sv ?_); (case sv => rfl))
  | ((with_reducible refine' x_one ?sv ?sw ?_); (case sv => walk_at "hp"); (case sw => assumption))
  | (with_reducible refine x_at ?_)
  | ((with_reducible refine' x_get ?sv ?sw ?_); (case sv => walk_at "hp"); (case sw => rfl))
  | ((with_reducible refine' s_addl ?sv ?sw ?su ?_); (case sv => walk_at "hp"); (case sw => walk_at "hp"); (case su => walk_at "sz"))
  | (with_reducible refine c_lrv ?_)
  | ((with_reducible refine' c_rvl ?sv ?_); (case sv => walk_at "hp"))
  | ((with_reducible refine' s_setl ?sv ?sw ?_); (case sv => walk_at "hp"); (case sw => rfl))
  | ((with_reducible refine' c_ri ?sv ?_); (case sv => walk_at "ci"))
  | ((with_reducible refine' c_mul ?sv ?_); (case sv => walk_at "ci"))
  | ((with_reducible refine' c_neNil ?sv ?sw ?_); (case sv => walk_at "hp"); (case sw => walk_at "hp"))
  | (with_reducible refine c_u ?_)
  | ((with_reducible refine' c_wipe ?sv ?_); (case sv => rfl))
  | ((with_reducible refine' s_gtup ?sv ?sw ?_); (case sv => walk_at "hp"); (case sw => rfl))
  | (with_reducible refine s_gcons ?_)
  | (with_reducible refine s_gnil ?_)
  | ((with_reducible refine' c_tupL ?sv ?_); (case sv => walk_at "hp"))
  | ((with_reducible refine' c_tupT ?sv ?_); (case sv => walk_at "hp"))
  | ((with_reducible refine' c_lstL ?sv ?_); (case sv => walk_at "hp"))
  | ((with_reducible refine' c_lstT ?sv ?_); (case sv => walk_at "hp"))
  | (with_reducible refine c_max ?_)
  | (with_reducible refine c_min ?_)
  | (with_reducible refine c_abs ?_)
  | (with_reducible refine c_int ?_)
  | (with_reducible refine c_intb ?_)
  | (with_reducible refine c_lrg ?_)
  | (with_reducible refine c_rg2 ?_)
  | (with_reducible refine c_ii ?_)
  | (with_reducible refine c_lc ?_)
  | ((with_reducible refine' c_seql' ?sv ?_); (case sv => walk_at "hp"))
  | ((with_reducible refine' c_seqt' ?sv ?_); (case sv => walk_at "hp"))
  | (with_reducible refine c_yes ?_)
  | ((with_reducible refine' s_sll ?sv ?_); (case sv => walk_at "hp"))
  | (with_reducible refine n_isr ?_)
  | (with_reducible refine n_isi ?_)
  | (with_reducible refine n_iss ?_)
  | (with_reducible refine n_non ?_)
  | (with_reducible refine n_nor ?_)
  | (with_reducible refine n_noi ?_)
  | (with_reducible refine n_nos ?_))
local macro_rules | `(tactic| walk_at "st") => `(tactic| repeat1' walk_at "s1")
section
variable {P : Program} {w : World} {K : PySem.W.Frag} {mg : Str → Option Value} {base : Heap}

/-! ## is_text -/
abbrev s_is_text : Stmt := top 16
abbrev N_is_text : List Str := ["value"]
theorem sc_is_text : FnScope ["value"] ["value"] (defScope s_is_text) := ⟨rfl, rfl, rfl, by decide +kernel, rfl, by decide +kernel, by decide +kernel⟩
def sp_is_text (K : PySem.W.Frag) : Sp := fun vs H Q E => ∃ (z : Str), vs = [.str z] ∧ (z.length ≤ 100000) ∧ (Q (.bl (decide (z.length ≤ 4000))) H)
theorem use_is_text {K : PySem.W.Frag} {H : Hp} {Q : VK} {E : XK} {z : Str} (pre : z.length ≤ 100000) (post : Q (.bl (decide (z.length ≤ 4000))) H) : sp_is_text K [.str z] H Q E := ⟨z, rfl, pre, post⟩
theorem ok_is_text (R : RawFn K mg "is_text" s_is_text) (c_MAX_SIGNS : GlobV mg "MAX_SIGNS" (.int 4000)) (n_isinstance : mg "isinstance" = none) (n_len : mg "len" = none) (n_str : mg "str" = none) : DefOk P w K mg base CX0 "is_text" s_is_text 1 ["value"] (sp_is_text K) := by
  refine R.ok sc_is_text (fun _ _ _ _ _ _ us hl => match us, hl with | [_], _ => rfl) (fun vs H Q E h => by obtain ⟨_, rfl, _⟩ := h; rfl) (fun f cdv A outer s H vs Q E hr h => ?_)
  have hu := units64 hr
  obtain ⟨z, rfl, pre, q⟩ := h
  refine ⟨_, (pss_one (ps_ret (pe_and (pe_callB call_isi (by rfl) n_isinstance (by decide +kernel) (pa_cons (pv 0) (pa_cons (pe_bltn (by rfl) n_str (by decide +kernel) (show RelV (.ty "str") _ from rfl)) pa_nil))) (pe_one (pe_cmpR op_le (pe_callB call_lenA (by rfl) n_len (by decide +kernel) (pa_cons (pv 0) pa_nil)) (pe_gv c_MAX_SIGNS) (nomark _)))))), ?_⟩
  walk_at "st"
  rw [show decide ((z.length : Int) ≤ 4000) = decide (z.length ≤ 4000) from decide_eq_decide.mpr (by omega)]
  exact q
/-! ## run_of -/
abbrev s_run_of : Stmt := top 17
abbrev N_run_of : List Str := ["text", "place", "signs", "end"]
theorem sc_run_of : FnScope ["text", "place", "signs", "end"] ["text", "place", "signs"] (defScope s_run_of) := ⟨rfl, rfl, rfl, by decide +kernel, rfl, by decide +kernel, by decide +kernel⟩
def sp_run_of (K : PySem.W.Frag) : Sp := fun vs H Q E => ∃ (z : Str) (p : Nat) (sg : Str), vs = [.str z, .int p, .str sg] ∧ (p ≤ z.length ∧ z.length ≤ 4000) ∧ (Q (.str (mk (((tl z).drop p).takeWhile (isIn (tl sg))))) H)
theorem use_run_of {K : PySem.W.Frag} {H : Hp} {Q : VK} {E : XK} {z : Str} {p : Nat} {sg : Str} (pre : p ≤ z.length ∧ z.length ≤ 4000) (post : Q (.str (mk (((tl z).drop p).takeWhile (isIn (tl sg))))) H) : sp_run_of K [.str z, .int p, .str sg] H Q E := ⟨z, p, sg, rfl, pre, post⟩
theorem ok_run_of (R : RawFn K mg "run_of" s_run_of) (n_len : mg "len" = none) : DefOk P w K mg base CX0 "run_of" s_run_of 1 ["text", "place", "signs"] (sp_run_of K) := by
  refine R.ok sc_run_of (fun _ _ _ _ _ _ us hl => match us, hl with | [_, _, _], _ => rfl) (fun vs H Q E h => by obtain ⟨_, _, _, rfl, _⟩ := h; rfl) (fun f cdv A outer s H vs Q E hr h => ?_)
  have hu := units64 hr
  obtain ⟨z, p, sg, rfl, pre, q⟩ := h
  refine ⟨_, (pss_cons (ps_set (i := 3) sc_run_of.nd rfl (Or.inl rfl) (pv 1))
      (pss_cons (ps_while PassesOwn.never (PW.pt (pw_and (pt_cmpR op_lt (pv 3) (pe_callB call_lenA (by rfl) n_len (by decide +kernel) (pa_cons (pv 0) pa_nil)) (nomark _)) (pw_and1 (pt_cmpR op_inA (pe_ix ix_seq (pv 0) (pv 3) (fun _ _ => rfl)) (pv 2) (by rfl)))))
      (pss_one (ps_set (i := 3) sc_run_of.nd rfl (Or.inl rfl) (pe_op op_addA (pv 3) pe_int))))
      (pss_one (ps_ret (pe_slice sl_A (pv 0) (po_some (pv 1)) (po_some (pv 3))))))), ?_⟩
  obtain ⟨hp, hz⟩ := pre
  walk_at "st"
  obtain ⟨r, hr0⟩ : ∃ r, r = (tl z).drop p := ⟨_, rfl⟩
  obtain ⟨T, hT⟩ : ∃ T, T = r.takeWhile (isIn (tl sg)) := ⟨_, rfl⟩
  rw [← hr0, ← hT] at q
  have hTr : T.length ≤ r.length := by rw [hT]; exact (List.takeWhile_prefix _).length_le
  have hrl : r.length = z.length - p := by rw [hr0, List.length_drop, len_tl]
  refine ⟨fun m σ H' => ∃ k, σ = [some (.str z), some (.int p), some (.str sg), some (.int ((p + k : Nat) : Int))] ∧ H' = H ∧ k ≤ T.length ∧ m = T.length - k, ⟨_, 0, rfl, rfl, Nat.zero_le _, rfl⟩, ?_⟩
  rintro m σ H' ⟨k, rfl, rfl, hk, rfl⟩
  walk_at "st"
  have fin : k = T.length → Q (.str (cutS z (some (p : Int)) (some ((p + k : Nat) : Int)))) H' := fun e => by
    have e2 : cutS z (some (p : Int)) (some ((p + k : Nat) : Int)) = mk T := ext_tl (by
      rw [tl_cut, tl_mk, List.drop_take, show p + k - p = k from by omega, ← hr0, e, hT, tw_take])
    rw [e2]
    exact q
  have hrk : ∀ j, r[j]? = (tl z)[p + j]? := fun j => by rw [hr0, List.getElem?_drop]
  refine w_if (fun hlt => ?_) (fun hlt => ?_)
  · have hk2 : p + k < (tl z).length := by rw [← len_tl]; omega
    walk_at "st"
    refine s_ixs (by walk_at "sz") (atI_nat' (List.getElem?_eq_getElem hk2)) ?_
    walk_at "st"
    have hgr : r[k]? = some (tl z)[p + k] := by rw [hrk, List.getElem?_eq_getElem hk2]
    have go := tw_go (f := isIn (tl sg)) (r := r) (k := k) (by rw [← hT]; exact hk) hgr
    rw [← hT] at go
    refine w_if (fun hin => ?_) (fun hin => ?_)
    · walk_at "st"
      have hk3 := go.mp (decide_eq_true hin)
      exact ⟨_, (by omega : T.length - (k + 1) < T.length - k), k + 1, rfl, rfl, hk3, rfl⟩
    · have hk3 : k = T.length := Nat.le_antisymm hk (Nat.le_of_not_lt fun z => hin (of_decide_eq_true (go.mpr z)))
      walk_at "st"
      exact fin hk3
  · walk_at "st"
    have hk3 : k = T.length := by rw [hT]; exact tw_end (by rw [← hT]; exact hk) (by omega)
    exact fin hk3
end
end K04

set_option Elab.async false
set_option linter.all false
set_option maxRecDepth 100000
set_option maxHeartbeats 2000000
set_option autoImplicit false
namespace K04
open PySem PySem.Spec PyProof.Rows L2 TN
open L2H (cxH RoomH)
local macro_rules | `(tactic| walk_at "nq") => `(tactic| first
  | assumption
  | (apply Ne.symm; assumption)
  | grind [upd])
local macro_rules | `(tactic| walk_at "hp") => `(tactic| first
  | assumption
  | exact upd_same
  | (refine up_next ?nq0 ?hp0; (case nq0 => walk_at "nq"); (case hp0 => walk_at "hp")))
local macro_rules | `(tactic| walk_at "ex") => `(tactic| first
  | assumption
  | exact Ext.rfl'
  | (refine Ext.up ?xa ?xb _; (case xb => assumption); (case xa => walk_at "ex"))
  | (refine Ext.up0 ?xa ?xb _; (case xb => assumption); (case xa => walk_at "ex"))
  | (refine Ext.trans ?xb ?xa; (case xb => assumption); (case xa => walk_at "ex")))
local macro_rules | `(tactic| walk_at "eb") => `(tactic| first
  | assumption
  | exact ExtB.rfl'
  | (refine ExtB.up ?xa ?xb _; (case xb => assumption); (case xa => walk_at "eb"))
  | (refine ExtB.up0 ?xa ?xb _; (case xb => assumption); (case xa => walk_at "eb"))
  | (refine ExtB.trans ?xb ?xa; (case xa => assumption); (case xb => walk_at "eb"))
  | (refine ExtB.trans ?xb (ExtB.of ?xa); (case xa => assumption); (case xb => walk_at "eb")))
local macro_rules | `(tactic| walk_at "bg") => `(tactic| first
  | assumption
  | (refine BagAt.up ?xa ?xb _; (case xb => assumption); (case xa => walk_at "bg"))
  | (refine BagAt.ext ?xb ?xa; (case xa => assumption); (case xb => walk_at "bg")))
local macro_rules | `(tactic| walk_at "sz") => `(tactic| first
  | assumption
  | decide
  | (simp only [sizeLine_eq, List.length_append, List.length_cons, List.length_nil, List.length_map] at *; omega))
local macro_rules | `(tactic| walk_at "ci") => `(tactic| first
  | exact m2 (by decide)
  | exact m1 (by decide)
  | exact m1 ⟨by omega, by omega⟩
  | (show (0 : Int) < _; first | decide | omega | assumption)
  | exact ⟨by first | decide | omega, by first | decide | omega⟩
  | exact ⟨by decide, by decide, by decide⟩)
local macro_rules | `(tactic| walk_at "s1") => `(tactic| first
  | (with_reducible refine s_seq ?_)
  | (with_reducible refine s_asg ?_)
  | (with_reducible refine s_gname ?_)
  | (with_reducible refine s_ret ?_)
  | (with_reducible refine s_retn ?_)
  | (with_reducible refine s_next ?_)
  | (with_reducible refine s_drop ?_)
  | (with_reducible refine s_ifs ?_)
  | (with_reducible refine s_par ?_)
  | (with_reducible refine s_two ?_)
  | ((with_reducible refine' s_var ?sv ?_); (case sv => rfl))
  | (with_reducible refine s_c ?_)
  | (with_reducible refine s_op ?_)
  | (with_reducible refine s_un ?_)
  | (with_reducible refine s_test ?_)
  | (with_reducible refine s_tb ?_)
  | (with_reducible refine s_bl ?_)
  | (with_reducible refine s_and ?_)
  | (with_reducible refine s_or ?_)
  | (with_reducible refine s_not ?_)
  | (with_reducible refine s_andv ?_)
  | (with_reducible refine s_orv ?_)
  | (with_reducible refine s_notv ?_)
  | (with_reducible refine s_if ?_)
  | (with_reducible refine s_nil ?_)
  | (with_reducible refine s_cons ?_)
  | (with_reducible refine s_tup ?_)
  | (with_reducible refine s_lst ?_)
  | ((with_reducible refine' s_few ?sv ?_); (case sv => rfl))
  | (with_reducible refine s_m0 ?_)
  | (with_reducible refine s_m1 ?_)
  | (with_reducible refine s_str ?_)
  | (with_reducible refine s_cb ?_)
  | (with_reducible refine s_calld ?_)
  | (with_reducible refine s_callw ?_)
  | (with_reducible refine s_callk ?_)
  | (with_reducible refine s_callkw ?_)
  | (with_reducible refine s_sl ?_)
  | (with_reducible refine s_part ?_)
  | (with_reducible refine s_nopart ?_)
  | (with_reducible refine s_int ?_)
  | (with_reducible refine s_i2 ?_)
  | (with_reducible refine s_addi ?_)
  | ((with_reducible refine' s_adds ?sv ?_); (case sv => walk_at "sz"))
  | ((with_reducible refine' s_eqs ?sv ?_); (case sv => rfl))
  | ((with_reducible refine' s_nes ?sv ?_); (case sv => rfl))
  | (with_reducible refine s_ins ?_)
  | ((with_reducible refine' s_lens ?sv ?_); (case sv => walk_at "sz"))
  | ((with_reducible refine' s_lenl ?sv ?_); (case sv => walk_at "hp"))
  | ((with_reducible refine' s_lent ?sv ?_); (case sv => walk_at "hp"))
  | ((with_reducible refine' s_sls ?sv ?_); (case sv => walk_at "sz"))
  | (with_reducible refine w_tt ?_)
  | (with_reducible refine w_ff ?_)
  | (with_reducible refine s_ex2 ?_)
  | (with_reducible refine s_bm ?_)
  | (with_reducible refine s_bm0 ?_)
  | (with_reducible refine s_tys ?_)
  | ((with_reducible refine' s_tyl ?sv ?_); (case sv => walk_at "hp"))
  | ((with_reducible refine' s_app ?sv ?sw ?_); (case sv => walk_at "hp"); (case sw => walk_at "sz"))
  | (with_reducible refine s_gsub ?_)
  | ((with_reducible refine' s_ixt ?sv ?sw ?_); (case sv => walk_at "hp"); (case sw => rfl))
  | ((with_reducible refine' s_ixl ?sv ?sw ?_); (case sv => walk_at "hp"); (case sw => rfl))
  | (with_reducible refine s_pnx ?_)
  | (with_reducible refine s_prt ?_)
  | (with_reducible refine s_turn ?_)
  | (with_reducible refine s_for ?_)
  | (with_reducible refine s_ilist ?_)
  | (with_reducible refine s_itup ?_)
  | (with_reducible refine s_rng1 ?_)
  | (with_reducible refine s_rng2 ?_)
  | (with_reducible refine s_isStr ?_)
  | (with_reducible refine n_isn ?_)
  | ((with_reducible refine' s_gseqT ?sv ?sw ?_); (case sv => walk_at "hp"); (case sw => rfl))
  | ((with_reducible refine' s_gseqL ?sv ?sw ?_); (case sv => walk_at "hp"); (case sw => rfl))
  | (with_reducible refine c_chain ?_)
  | ((with_reducible refine' s_rng1' ?sv ?sw ?_); (case sv => omega); (case sw => omega))
  | ((with_reducible refine' s_rng2' ?sv ?_); (case sv => refine ⟨?_, ?_, ?_, ?_⟩ <;> omega))
  | (with_reducible refine s_callx ?_)
  | ((with_reducible refine' w_t ?sv ?_); (case sv => rfl))
  | ((with_reducible refine' w_f ?sv ?_); (case sv => rfl))
  | ((with_reducible refine' x_one ?sv ?sw ?_); (case sv => walk_at "hp"); (case sw => assumption))
  | (with_reducible refine x_at ?_)
  | ((with_reducible refine' x_get ?sv ?sw ?_); (case sv => walk_at "hp"); (case sw => rfl))
  | ((with_reducible refine' s_addl ?sv ?sw ?su ?_); (case sv => walk_at "hp"); (case sw => walk_at "hp"); (case su => walk_at "sz"))
  | (with_reducible refine c_lrv ?_)
  | ((with_reducible refine' c_rvl ?sv ?_); (case sv => walk_at "hp"))
  | ((with_reducible refine' s_setl ?sv ?sw ?_); (case sv => walk_at "hp"); (case sw => rfl))
  | ((with_reducible refine' c_ri ?sv ?_); (case sv => walk_at "ci"))
  | ((with_reducible refine' c_mul ?sv ?_); (case sv => walk_at "ci"))
  | ((with_reducible refine' c_neNil ?sv ?sw ?_); (case sv => walk_at "hp"); (case sw => walk_at "hp"))
  | (with_reducible refine c_u ?_)
  | ((with_reducible refine' c_wipe ?sv ?_); (case sv => rfl))
  | ((with_reducible refine' s_gtup ?sv ?sw ?_); (case sv => walk_at "hp"); (case sw => rfl))
  | (with_reducible refine s_gcons ?_)
  | (with_reducible refine s_gnil ?_)
  | ((with_reducible refine' c_tupL ?sv ?_); (case sv => walk_at "hp"))
  | ((with_reducible refine' c_tupT ?sv ?_); (case sv => walk_at "hp"))
  | ((with_reducible refine' c_lstL ?sv ?_); (case sv => walk_at "hp"))
  | ((with_reducible refine' c_lstT ?sv ?_); (case sv => walk_at "hp"))
  | (with_reducible refine c_max ?_)
  | (with_reducible refine c_min ?_)
  | (with_reducible refine c_abs ?_)
  | (with_reducible refine c_int ?_)
  | (with_reducible refine c_intb ?_)
  | (with_reducible refine c_lrg ?_)
  | (with_reducible refine c_rg2 ?_)
  | (with_reducible refine c_ii ?_)
  | (with_reducible refine c_lc ?_)
  | ((with_reducible refine' c_seql' ?sv ?_); (case sv => walk_at "hp"))
  | ((with_reducible refine' c_seqt' ?sv ?_); (case sv => walk_at "hp"))
  | (with_reducible refine c_yes ?_)
  | ((with_reducible refine' s_sll ?sv ?_); (case sv => walk_at "hp"))
  | (with_reducible refine n_isr ?_)
  | (with_reducible refine n_isi ?_)
  | (with_reducible refine n_iss ?_)
  | (with_reducible refine n_non ?_)
  | (with_reducible refine n_nor ?_)
  | (with_reducible refine n_noi ?_)
  | (with_reducible refine n_nos ?_))
local macro_rules | `(tactic| walk_at "st") => `(tactic| repeat1' walk_at "s1")
section
variable {P : Program} {w : World} {K : PySem.W.Frag} {mg : Str → Option Value} {base : Heap}
theorem ext1 {H : Hp} {a : Addr} {o : HO} (h : H a = none) : Ext H (upd H a o) := Ext.new h o

/-! ## token_at -/
abbrev s_token_at : Stmt := top 18
abbrev N_token_at : List Str := ["text", "place", "sign", "word", "number"]
theorem sc_token_at : FnScope ["text", "place", "sign", "word", "number"] ["text", "place"] (defScope s_token_at) := ⟨rfl, rfl, rfl, by decide +kernel, rfl, by decide +kernel, by decide +kernel⟩
def sp_token_at (K : PySem.W.Frag) : Sp := fun vs H Q E => ∃ (z : Str) (p : Nat), vs = [.str z, .int p] ∧ (p < z.length ∧ z.length ≤ 4000) ∧ (∀ a H', Ext H H' → (∀ kw, tokAt ((tl z).drop p) = some kw → H' a = some (.tup [.str kw.1, .str (mk kw.2)]) → Q (.ref a) H') ∧ (tokAt ((tl z).drop p) = none → Q .non H'))
theorem use_token_at {K : PySem.W.Frag} {H : Hp} {Q : VK} {E : XK} {z : Str} {p : Nat} (pre : p < z.length ∧ z.length ≤ 4000) (post : ∀ a H', Ext H H' → (∀ kw, tokAt ((tl z).drop p) = some kw → H' a = some (.tup [.str kw.1, .str (mk kw.2)]) → Q (.ref a) H') ∧ (tokAt ((tl z).drop p) = none → Q .non H')) : sp_token_at K [.str z, .int p] H Q E := ⟨z, p, rfl, pre, post⟩
theorem ok_token_at (R : RawFn K mg "token_at" s_token_at) {a_WORDS : Addr} (c_FIGURES : GlobV mg "FIGURES" (.str "0123456789")) (c_LETTERS : GlobV mg "LETTERS" (.str "abcdefghijklmnopqrstuvwxyz")) (c_WORDS : GlobV mg "WORDS" (.ref a_WORDS)) (d_run_of : DefOk P w K mg base CX0 "run_of" s_run_of 1 ["text", "place", "signs"] (sp_run_of K)) (n_len : mg "len" = none) (t_WORDS : ∀ H, SqT K H a_WORDS [.str "choose", .str "draw", .str "else", .str "for", .str "from", .str "function", .str "hands", .str "if", .str "input", .str "let", .str "modulo", .str "nought", .str "open", .str "row", .str "tell", .str "to"]) : DefOk P w K mg base CX0 "token_at" s_token_at 2 ["text", "place"] (sp_token_at K) := by
  refine R.ok sc_token_at (fun _ _ _ _ _ _ us hl => match us, hl with | [_, _], _ => rfl) (fun vs H Q E h => by obtain ⟨_, _, rfl, _⟩ := h; rfl) (fun f cdv A outer s H vs Q E hr h => ?_)
  have hu := units64 hr
  obtain ⟨z, p, rfl, pre, q⟩ := h
  refine ⟨_, (pss_cons (ps_set (i := 2) sc_token_at.nd rfl (Or.inl rfl) (pe_ix ix_seq (pv 0) (pv 1) (fun _ _ => rfl)))
      (pss_cons (ps_if (pt_cmpR op_inA (pv 2) (pe_gv c_LETTERS) (by rfl))
      (pss_cons (ps_set (i := 3) sc_token_at.nd rfl (Or.inl rfl) (pe_callD (E := E0) d_run_of (hr.mono (by decide)) pass0 (pa_cons (pv 0) (pa_cons (pv 1) (pa_cons (pe_gv c_LETTERS) pa_nil)))))
      (pss_cons (ps_if (pt_cmpR op_inA (pv 3) (pe_gv c_WORDS) (by rfl))
      (pss_one (ps_ret (pe_tup (pa_cons (pv 3) (pa_cons (pv 3) pa_nil)))))
      pss_nil)
      (pss_one (ps_ret (pe_ifExp (pt_cmpR op_le (pe_callB call_lenA (by rfl) n_len (by decide +kernel) (pa_cons (pv 3) pa_nil)) pe_int (nomark _)) (pe_tup (pa_cons pe_str (pa_cons (pv 3) pa_nil))) pe_non)))))
      pss_nil)
      (pss_cons (ps_if (pt_cmpR op_inA (pv 2) (pe_gv c_FIGURES) (by rfl))
      (pss_cons (ps_set (i := 4) sc_token_at.nd rfl (Or.inl rfl) (pe_callD (E := E0) d_run_of (hr.mono (by decide)) pass0 (pa_cons (pv 0) (pa_cons (pv 1) (pa_cons (pe_gv c_FIGURES) pa_nil)))))
      (pss_one (ps_ret (pe_ifExp (PW.pt (pw_or (pt_cmpR (op_eqA hu) (pe_callB call_lenA (by rfl) n_len (by decide +kernel) (pa_cons (pv 4) pa_nil)) pe_int (nomark _)) (pw_or1 (PW.pt (pw_and (pt_cmpR op_le (pe_callB call_lenA (by rfl) n_len (by decide +kernel) (pa_cons (pv 4) pa_nil)) pe_int (nomark _)) (pw_and1 (pt_cmpR (op_neA hu) (pe_ix ix_seq (pv 4) pe_int (fun _ _ => rfl)) pe_str (nomark _)))))))) (pe_tup (pa_cons pe_str (pa_cons (pv 4) pa_nil))) pe_non))))
      pss_nil)
      (pss_one (ps_ret (pe_ifExp (pt_cmpR op_inA (pv 2) pe_str (by rfl)) (pe_tup (pa_cons (pv 2) (pa_cons (pv 2) pa_nil))) pe_non)))))), ?_⟩
  obtain ⟨hp, hz⟩ := pre
  have hpl : p < (tl z).length := by rw [← len_tl]; exact hp
  walk_at "st"
  refine s_ixs (by walk_at "sz") (atI_nat' (List.getElem?_eq_getElem hpl)) ?_
  walk_at "st"
  obtain ⟨c, hc⟩ : ∃ c, c = (tl z)[p] := ⟨_, rfl⟩
  rw [← hc]
  have hr0 : (tl z).drop p = c :: (tl z).drop (p + 1) := by rw [hc]; exact List.drop_eq_getElem_cons hpl
  obtain ⟨r', hr'⟩ : ∃ r', r' = (tl z).drop (p + 1) := ⟨_, rfl⟩
  rw [← hr'] at hr0
  rw [hr0] at q
  have hrl : (c :: r').length ≤ 4000 := by rw [← hr0, List.length_drop, ← len_tl]; omega
  have some_ : ∀ (k : Str) (W : List Nat), tokAt (c :: r') = some (k, W) → ∀ p', H p' = none → Q (.ref p') (upd H p' (.tup [.str k, .str (mk W)])) := fun k W e p' hp' => (q p' _ (ext1 hp')).1 (k, W) e upd_same
  have none_ : tokAt (c :: r') = none → Q .non H := fun e => (q 0 H Ext.rfl').2 e
  clear q
  refine w_if (fun h1 => ?_) (fun h1 => ?_)
  · have h1' : c ∈ letters := h1
    walk_at "st"
    refine use_run_of ⟨by omega, hz⟩ ?_
    rw [hr0]
    obtain ⟨W, hW⟩ : ∃ W, W = (c :: r').takeWhile (isIn (tl "abcdefghijklmnopqrstuvwxyz")) := ⟨_, rfl⟩
    rw [← hW]
    have hW' : (c :: r').takeWhile (isIn letters) = W := hW.symm
    have hWl : (mk W).length ≤ 4000 := by rw [len_tl, tl_mk, hW]; exact Nat.le_trans (List.takeWhile_prefix _).length_le hrl
    have hT : tokAt (c :: r') = if mk W ∈ words then some (mk W, W) else if W.length ≤ 8 then some ("name", W) else none := by unfold tokAt; simp only; rw [if_pos h1', hW']
    walk_at "st"
    refine s_inw words (.inr (t_WORDS _)) ?_
    walk_at "st"
    refine w_if (fun h2 => ?_) (fun h2 => ?_)
    · rw [if_pos h2] at hT
      walk_at "st"
      exact some_ _ _ hT
    · rw [if_neg h2] at hT
      walk_at "st"
      rw [show decide (((mk W).length : Int) ≤ 8) = decide (W.length ≤ 8) from decide_eq_decide.mpr (by rw [len_tl, tl_mk]; omega)]
      refine w_if (fun h3 => ?_) (fun h3 => ?_)
      · rw [if_pos h3] at hT
        walk_at "st"
        exact some_ _ _ hT
      · rw [if_neg h3] at hT
        walk_at "st"
        exact none_ hT
  · have h1' : c ∉ letters := h1
    walk_at "st"
    refine w_if (fun h2 => ?_) (fun h2 => ?_)
    · have h2' : c ∈ digits := h2
      walk_at "st"
      refine use_run_of ⟨by omega, hz⟩ ?_
      rw [hr0]
      obtain ⟨W, hW⟩ : ∃ W, W = (c :: r').takeWhile (isIn (tl "0123456789")) := ⟨_, rfl⟩
      rw [← hW]
      have hW' : (c :: r').takeWhile (isIn digits) = W := hW.symm
      have hWl : (mk W).length ≤ 4000 := by rw [len_tl, tl_mk, hW]; exact Nat.le_trans (List.takeWhile_prefix _).length_le hrl
      have hWc : (tl (mk W))[0]? = some c := by rw [tl_mk, ← hW', List.takeWhile_cons, if_pos (by simp [isIn, h2'])]; rfl
      have hT : tokAt (c :: r') = if W.length = 1 ∨ (W.length ≤ 3 ∧ c ≠ 48) then some (("number" : Str), W) else none := by unfold tokAt; simp only; rw [if_neg h1', if_pos h2', hW']
      walk_at "st"
      have hl : ((mk W).length : Int) = (W.length : Int) := by rw [len_tl, tl_mk]
      rw [hl]
      refine w_if (fun h3 => ?_) (fun h3 => ?_)
      · rw [if_pos (.inl (by injection h3; omega))] at hT
        walk_at "st"
        exact some_ _ _ hT
      · have h3' : W.length ≠ 1 := fun e => h3 (by rw [e]; rfl)
        walk_at "st"
        rw [hl]
        refine w_if (fun h4 => ?_) (fun h4 => ?_)
        · walk_at "st"
          refine s_ixs (by walk_at "sz") (atI_nat' (k := 0) hWc) ?_
          walk_at "st"
          have e5 : decide (V.str (one c) = V.str "0") = decide (c = 48) := decide_eq_decide.mpr ⟨fun e => by injection e with e; have := congrArg tl e; rw [show tl "0" = [48] from rfl, tl_one] at this; simpa using this, fun e => by rw [e]; rfl⟩
          rw [e5]
          refine w_ifn (fun h5 => ?_) (fun h5 => ?_)
          · rw [if_pos (.inr ⟨by omega, h5⟩)] at hT
            walk_at "st"
            exact some_ _ _ hT
          · rw [if_neg (by omega)] at hT
            walk_at "st"
            exact none_ hT
        · rw [if_neg (by omega)] at hT
          walk_at "st"
          exact none_ hT
    · have h2' : c ∉ digits := h2
      walk_at "st"
      have hT : tokAt (c :: r') = if c ∈ marks then some (one c, [c]) else none := by unfold tokAt; simp only; rw [if_neg h1', if_neg h2']
      refine w_if (fun h3 => ?_) (fun h3 => ?_)
      · have h3' : c ∈ marks := h3
        rw [if_pos h3'] at hT
        walk_at "st"
        exact some_ _ _ hT
      · have h3' : c ∉ marks := h3
        rw [if_neg h3'] at hT
        walk_at "st"
        exact none_ hT
end
end K04

set_option Elab.async false
set_option linter.all false
set_option maxRecDepth 100000
set_option maxHeartbeats 2000000
set_option autoImplicit false
namespace K04
open PySem PySem.Spec PyProof.Rows L2 TN
open L2H (cxH RoomH)
local macro_rules | `(tactic| walk_at "nq") => `(tactic| first
  | assumption
  | (apply Ne.symm; assumption)
  | grind [upd])
local macro_rules | `(tactic| walk_at "hp") => `(tactic| first
  | assumption
  | exact upd_same
  | (refine up_next ?nq0 ?hp0; (case nq0 => walk_at "nq"); (case hp0 => walk_at "hp")))
local macro_rules | `(tactic| walk_at "ex") => `(tactic| first
  | assumption
  | exact Ext.rfl'
  | (refine Ext.up ?xa ?xb _; (case xb => assumption); (case xa => walk_at "ex"))
  | (refine Ext.up0 ?xa ?xb _; (case xb => assumption); (case xa => walk_at "ex"))
  | (refine Ext.trans ?xb ?xa; (case xb => assumption); (case xa => walk_at "ex")))
local macro_rules | `(tactic| walk_at "eb") => `(tactic| first
  | assumption
  | exact ExtB.rfl'
  | (refine ExtB.up ?xa ?xb _; (case xb => assumption); (case xa => walk_at "eb"))
  | (refine ExtB.up0 ?xa ?xb _; (case xb => assumption); (case xa => walk_at "eb"))
  | (refine ExtB.trans ?xb ?xa; (case xa => assumption); (case xb => walk_at "eb"))
  | (refine ExtB.trans ?xb (ExtB.of ?xa); (case xa => assumption); (case xb => walk_at "eb")))
local macro_rules | `(tactic| walk_at "bg") => `(tactic| first
  | assumption
  | (refine BagAt.up ?xa ?xb _; (case xb => assumption); (case xa => walk_at "bg"))
  | (refine BagAt.ext ?xb ?xa; (case xa => assumption); (case xb => walk_at "bg")))
local macro_rules | `(tactic| walk_at "sz") => `(tactic| first
  | assumption
  | decide
  | (simp only [sizeLine_eq, List.length_append, List.length_cons, List.length_nil, List.length_map] at *; omega))
local macro_rules | `(tactic| walk_at "ci") => `(tactic| first
  | exact m2 (by decide)
  | exact m1 (by decide)
  | exact m1 ⟨by omega, by omega⟩
  | (show (0 : Int) < _; first | decide | omega | assumption)
  | exact ⟨by first | decide | omega, by first | decide | omega⟩
  | exact ⟨by decide, by decide, by decide⟩)
local macro_rules | `(tactic| walk_at "s1") => `(tactic| first
  | (with_reducible refine s_seq ?_)
  | (with_reducible refine s_asg ?_)
  | (with_reducible refine s_gname ?_)
  | (with_reducible refine s_ret ?_)
  | (with_reducible refine s_retn ?_)
  | (with_reducible refine s_next ?_)
  | (with_reducible refine s_drop ?_)
  | (with_reducible refine s_ifs ?_)
  | (with_reducible refine s_par ?_)
  | (with_reducible refine s_two ?_)
  | ((with_reducible refine' s_var ?sv ?_); (case sv => rfl))
  | (with_reducible refine s_c ?_)
  | (with_reducible refine s_op ?_)
  | (with_reducible refine s_un ?_)
  | (with_reducible refine s_test ?_)
  | (with_reducible refine s_tb ?_)
  | (with_reducible refine s_bl ?_)
  | (with_reducible refine s_and ?_)
  | (with_reducible refine s_or ?_)
  | (with_reducible refine s_not ?_)
  | (with_reducible refine s_andv ?_)
  | (with_reducible refine s_orv ?_)
  | (with_reducible refine s_notv ?_)
  | (with_reducible refine s_if ?_)
  | (with_reducible refine s_nil ?_)
  | (with_reducible refine s_cons ?_)
  | (with_reducible refine s_tup ?_)
  | (with_reducible refine s_lst ?_)
  | ((with_reducible refine' s_few ?sv ?_); (case sv => rfl))
  | (with_reducible refine s_m0 ?_)
  | (with_reducible refine s_m1 ?_)
  | (with_reducible refine s_str ?_)
  | (with_reducible refine s_cb ?_)
  | (with_reducible refine s_calld ?_)
  | (with_reducible refine s_callw ?_)
  | (with_reducible refine s_callk ?_)
  | (with_reducible refine s_callkw ?_)
  | (with_reducible refine s_sl ?_)
  | (with_reducible refine s_part ?_)
  | (with_reducible refine s_nopart ?_)
  | (with_reducible refine s_int ?_)
  | (with_reducible refine s_i2 ?_)
  | (with_reducible refine s_addi ?_)
  | ((with_reducible refine' s_adds ?sv ?_); (case sv => walk_at "sz"))
  | ((with_reducible refine' s_eqs ?sv ?_); (case sv => rfl))
  | ((with_reducible refine' s_nes ?sv ?_); (case sv => rfl))
  | (with_reducible refine s_ins ?_)
  | ((with_reducible refine' s_lens ?sv ?_); (case sv => walk_at "sz"))
  | ((with_reducible refine' s_lenl ?sv ?_); (case sv => walk_at "hp"))
  | ((with_reducible refine' s_lent ?sv ?_); (case sv => walk_at "hp"))
  | ((with_reducible refine' s_sls ?sv ?_); (case sv => walk_at "sz"))
  | (with_reducible refine w_tt ?_)
  | (with_reducible refine w_ff ?_)
  | (with_reducible refine s_ex2 ?_)
  | (with_reducible refine s_bm ?_)
  | (with_reducible refine s_bm0 ?_)
  | (with_reducible refine s_tys ?_)
  | ((with_reducible refine' s_tyl ?sv ?_); (case sv => walk_at "hp"))
  | ((with_reducible refine' s_app ?sv ?sw ?_); (case sv => walk_at "hp"); (case sw => walk_at "sz"))
  | (with_reducible refine s_gsub ?_)
  | ((with_reducible refine' s_ixt ?sv ?sw ?_); (case sv => walk_at "hp"); (case sw => rfl))
  | ((with_reducible refine' s_ixl ?sv ?sw ?_); (case sv => walk_at "hp"); (case sw => rfl))
  | (with_reducible refine s_pnx ?_)
  | (with_reducible refine s_prt ?_)
  | (with_reducible refine s_turn ?_)
  | (with_reducible refine s_for ?_)
  | (with_reducible refine s_ilist ?_)
  | (with_reducible refine s_itup ?_)
  | (with_reducible refine s_rng1 ?_)
  | (with_reducible refine s_rng2 ?_)
  | (with_reducible refine s_isStr ?_)
  | (with_reducible refine n_isn ?_)
  | ((with_reducible refine' s_gseqT ?sv ?sw ?_); (case sv => walk_at "hp"); (case sw => rfl))
  | ((with_reducible refine' s_gseqL ?sv ?sw ?_); (case sv => walk_at "hp"); (case sw => rfl))
  | (with_reducible refine c_chain ?_)
  | ((with_reducible refine' s_rng1' ?sv ?sw ?_); (case sv => omega); (case sw => omega))
  | ((with_reducible refine' s_rng2' ?sv ?_); (case sv => refine ⟨?_, ?_, ?_, ?_⟩ <;> omega))
  | (with_reducible refine s_callx ?_)
  | ((with_reducible refine' w_t ?sv ?_); (case sv => rfl))
  | ((with_reducible refine' w_f ?sv ?_); (case sv => rfl))
  | ((with_reducible refine' x_one ?sv ?sw ?_); (case sv => walk_at "hp"); (case sw => assumption))
  | (with_reducible refine x_at ?_)
  | ((with_reducible refine' x_get ?sv ?sw ?_); (case sv => walk_at "hp"); (case sw => rfl))
  | ((with_reducible refine' s_addl ?sv ?sw ?su ?_); (case sv => walk_at "hp"); (case sw => walk_at "hp"); (case su => walk_at "sz"))
  | (with_reducible refine c_lrv ?_)
  | ((with_reducible refine' c_rvl ?sv ?_); (case sv => walk_at "hp"))
  | ((with_reducible refine' s_setl ?sv ?sw ?_); (case sv => walk_at "hp"); (case sw => rfl))
  | ((with_reducible refine' c_ri ?sv ?_); (case sv => walk_at "ci"))
  | ((with_reducible refine' c_mul ?sv ?_); (case sv => walk_at "ci"))
  | ((with_reducible refine' c_neNil ?sv ?sw ?_); (case sv => walk_at "hp"); (case sw => walk_at "hp"))
  | (with_reducible refine c_u ?_)
  | ((with_reducible refine' c_wipe ?sv ?_); (case sv => rfl))
  | ((with_reducible refine' s_gtup ?sv ?sw ?_); (case sv => walk_at "hp"); (case sw => rfl))
  | (with_reducible refine s_gcons ?_)
  | (with_reducible refine s_gnil ?_)
  | ((with_reducible refine' c_tupL ?sv ?_); (case sv => walk_at "hp"))
  | ((with_reducible refine' c_tupT ?sv ?_); (case sv => walk_at "hp"))
  | ((with_reducible refine' c_lstL ?sv ?_); (case sv => walk_at "hp"))
  | ((with_reducible refine' c_lstT ?sv ?_); (case sv => walk_at "hp"))
  | (with_reducible refine c_max ?_)
  | (with_reducible refine c_min ?_)
  | (with_reducible refine c_abs ?_)
  | (with_reducible refine c_int ?_)
  | (with_reducible refine c_intb ?_)
  | (with_reducible refine c_lrg ?_)
  | (with_reducible refine c_rg2 ?_)
  | (with_reducible refine c_ii ?_)
  | (with_reducible refine c_lc ?_)
  | ((with_reducible refine' c_seql' ?sv ?_); (case sv => walk_at "hp"))
  | ((with_reducible refine' c_seqt' ?sv ?_); (case sv => walk_at "hp"))
  | (with_reducible refine c_yes ?_)
  | ((with_reducible refine' s_sll ?sv ?_); (case sv => walk_at "hp"))
  | (with_reducible refine n_isr ?_)
  | (with_reducible refine n_isi ?_)
  | (with_reducible refine n_iss ?_)
  | (with_reducible refine n_non ?_)
  | (with_reducible refine n_nor ?_)
  | (with_reducible refine n_noi ?_)
  | (with_reducible refine n_nos ?_))
local macro_rules | `(tactic| walk_at "st") => `(tactic| repeat1' walk_at "s1")
section
variable {P : Program} {w : World} {K : PySem.W.Frag} {mg : Str → Option Value} {base : Heap}
def TokV (H : Hp) (v : V) (t : Tok) : Prop := ∃ a, v = .ref a ∧ H a = some (.tup [.str t.k, .str (mk t.w), .int (t.p : Nat)])
theorem TokV.ext {H H' : Hp} {v : V} {t : Tok} (h : TokV H v t) (e : Ext H H') : TokV H' v t := let ⟨a, h1, h2⟩ := h; ⟨a, h1, e _ _ h2⟩
theorem TokV.up {H : Hp} {v : V} {t : Tok} {p : Addr} {L L' : List V} (h : TokV H v t) (e : H p = some (.lst L)) : TokV (upd H p (.lst L')) v t := by
  obtain ⟨a, h1, h2⟩ := h
  refine ⟨a, h1, ?_⟩
  rw [upd_ne (fun z => by rw [z, e] at h2; cases h2)]
  exact h2
def badV : Option Nat → V | none => .non | some p => .int (p : Int)
def allT (l : List Nat) : List Tok := (toks l 0).1 ++ (match (toks l 0).2 with | none => [⟨"end", [], l.length⟩] | some _ => [])

/-! ## tokens_till -/
abbrev s_tokens_till : Stmt := top 19
abbrev N_tokens_till : List Str := ["text", "found", "place", "token"]
theorem sc_tokens_till : FnScope ["text", "found", "place", "token"] ["text"] (defScope s_tokens_till) := ⟨rfl, rfl, rfl, by decide +kernel, rfl, by decide +kernel, by decide +kernel⟩
def sp_tokens_till (K : PySem.W.Frag) : Sp := fun vs H Q E => ∃ (z : Str), vs = [.str z] ∧ (z.length ≤ 4000) ∧ (∀ q pf L H', Ext H H' → H' pf = some (.lst L) → H' q = some (.tup [.ref pf, badV (toks (tl z) 0).2]) → All2 (TokV H') L (allT (tl z)) → Q (.ref q) H')
theorem use_tokens_till {K : PySem.W.Frag} {H : Hp} {Q : VK} {E : XK} {z : Str} (pre : z.length ≤ 4000) (post : ∀ q pf L H', Ext H H' → H' pf = some (.lst L) → H' q = some (.tup [.ref pf, badV (toks (tl z) 0).2]) → All2 (TokV H') L (allT (tl z)) → Q (.ref q) H') : sp_tokens_till K [.str z] H Q E := ⟨z, rfl, pre, post⟩
theorem ok_tokens_till (R : RawFn K mg "tokens_till" s_tokens_till) (d_token_at : DefOk P w K mg base CX0 "token_at" s_token_at 2 ["text", "place"] (sp_token_at K)) (n_len : mg "len" = none) : DefOk P w K mg base CX0 "tokens_till" s_tokens_till 3 ["text"] (sp_tokens_till K) := by
  refine R.ok sc_tokens_till (fun _ _ _ _ _ _ us hl => match us, hl with | [_], _ => rfl) (fun vs H Q E h => by obtain ⟨_, rfl, _⟩ := h; rfl) (fun f cdv A outer s H vs Q E hr h => ?_)
  have hu := units64 hr
  obtain ⟨z, rfl, pre, q⟩ := h
  refine ⟨_, (pss_cons (ps_par (i := 1) (j := 2) rfl sc_tokens_till.nd rfl rfl (by decide) rfl rfl (pa_cons (pe_lst pa_nil) (pa_cons pe_int pa_nil)) (by rfl))
      (pss_cons (ps_while PassesOwn.never (pt_cmpR op_lt (pv 2) (pe_callB call_lenA (by rfl) n_len (by decide +kernel) (pa_cons (pv 0) pa_nil)) (nomark _))
      (pss_one (ps_if (pt_cmpR op_inA (pe_ix ix_seq (pv 0) (pv 2) (fun _ _ => rfl)) pe_str (by rfl))
      (pss_one (ps_set (i := 2) sc_tokens_till.nd rfl (Or.inl rfl) (pe_op op_addA (pv 2) pe_int)))
      (pss_cons (ps_set (i := 3) sc_tokens_till.nd rfl (Or.inl rfl) (pe_callD (E := E0) d_token_at (hr.mono (by decide)) pass0 (pa_cons (pv 0) (pa_cons (pv 2) pa_nil))))
      (pss_cons (ps_if (pt_cmpR op_isNA (pv 3) pe_non (nomark _))
      (pss_one (ps_ret (pe_tup (pa_cons (pv 1) (pa_cons (pv 2) pa_nil)))))
      pss_nil)
      (pss_cons (ps_expr (pe_bm PySem.F.plainAttrs_list PySem.F.slot_list_append PySem.F.type_list_append mt_append (pv 1) (pa_cons (pe_op op_addA (pv 3) (pe_tup (pa_cons (pv 2) pa_nil))) pa_nil)))
      (pss_one (ps_set (i := 2) sc_tokens_till.nd rfl (Or.inl rfl) (pe_op op_addA (pv 2) (pe_callB call_lenA (by rfl) n_len (by decide +kernel) (pa_cons (pe_ix ix_seq (pv 3) pe_int (fun _ _ => rfl)) pa_nil)))))))))))
      (pss_cons (ps_expr (pe_bm PySem.F.plainAttrs_list PySem.F.slot_list_append PySem.F.type_list_append mt_append (pv 1) (pa_cons (pe_tup (pa_cons pe_str (pa_cons pe_str (pa_cons (pv 2) pa_nil)))) pa_nil)))
      (pss_one (ps_ret (pe_tup (pa_cons (pv 1) (pa_cons pe_non pa_nil)))))))), ?_⟩
  walk_at "st"
  intro pf hpf
  walk_at "st"
  obtain ⟨l, hl⟩ : ∃ l, l = tl z := ⟨_, rfl⟩
  have hll : l.length = z.length := by rw [hl, len_tl]
  rw [← hl] at q
  refine ⟨fun m σ H' => ∃ (p : Nat) (L : List V) (F : List Tok) (o : Option V), σ = [some (.str z), some (.ref pf), some (.int (p : Int)), o] ∧ Ext H H' ∧ H' pf = some (.lst L) ∧ All2 (TokV H') L F ∧ F ++ (toks l p).1 = (toks l 0).1 ∧ (toks l p).2 = (toks l 0).2 ∧ p ≤ l.length ∧ F.length ≤ p ∧ m = l.length - p,
    ⟨_, 0, [], [], none, rfl, Ext.new hpf _, upd_same, .nil, rfl, rfl, Nat.zero_le _, Nat.le_refl _, rfl⟩, ?_⟩
  rintro m σ H1 ⟨p, L, F, o, rfl, x1, h1, a1, e1, e2, hp, hF, rfl⟩
  have hLF := a1.length
  walk_at "st"
  refine w_if (fun hlt => ?_) (fun hlt => ?_)
  · have hpl : p < l.length := by omega
    have hpl' : p < (tl z).length := by rw [← hl]; exact hpl
    have hgl : (tl z)[p] = l[p] := by simp only [hl]
    walk_at "st"
    refine s_ixs (by walk_at "sz") (atI_nat' (List.getElem?_eq_getElem hpl')) ?_
    rw [hgl]
    walk_at "st"
    refine w_if (fun hb => ?_) (fun hb => ?_)
    · have hb' : l[p] ∈ blanks := hb
      walk_at "st"
      rw [toks_blank hpl hb'] at e1 e2
      exact ⟨_, (by omega : l.length - (p + 1) < l.length - p), p + 1, L, F, o, rfl, x1, h1, a1, e1, e2, by omega, by omega, rfl⟩
    · have hb' : l[p] ∉ blanks := hb
      walk_at "st"
      refine use_token_at ⟨by omega, pre⟩ ?_
      rw [← hl]
      refine fun a H2 x2 => ⟨fun kw ht ha => ?_, fun ht => ?_⟩
      · obtain ⟨k, W⟩ := kw
        have hne := tokAt_ne ht
        rw [List.length_drop] at hne
        rw [toks_tok hpl hb' ht] at e1 e2
        walk_at "st"
        have h2 : H2 pf = some (.lst L) := x2 _ _ h1
        walk_at "st"
        intro b hb1
        have hab : a ≠ b := by grind [upd]
        refine s_addt (xs := [.str k, .str (mk W)]) (ys := [.int (p : Int)]) (by walk_at "hp") upd_same (by simp) (by simp) (by simp [sizeLine_eq]) ?_
        intro c hc
        have hpc : pf ≠ c := by grind [upd]
        have hWl : (mk W).length = W.length := by rw [len_tl, tl_mk]
        have hpb : pf ≠ b := by grind [upd]
        have hac : a ≠ c := by grind [upd]
        walk_at "st"
        rw [show (((mk (k, W).2).length : Nat) : Int) = (W.length : Int) from by show ((mk W).length : Int) = _; rw [hWl]]
        refine ⟨_, (by omega : l.length - (p + W.length) < l.length - p), p + W.length, L ++ [.ref c], F ++ [⟨k, W, p⟩], some (.ref a), rfl, (((x1.trans x2).up hb1 _).up hc _).up0 hpf _, upd_same, ?_, ?_, e2, by omega, by simp; omega, rfl⟩
        · refine (a1.mono fun v t z => ((z.ext ((x2.up hb1 _).up hc _)).up (by walk_at "hp"))).snoc ⟨c, rfl, by walk_at "hp"⟩
        · rw [← e1]; simp
      · rw [toks_bad hpl hb' ht] at e1 e2
        walk_at "st"
        intro b hb1
        have h2 := x2 _ _ h1
        refine q b pf L _ (x1.trans (x2.up hb1 _)) (by walk_at "hp") (by rw [← e2]; exact upd_same) ?_
        have : allT l = F := by unfold allT; rw [← e1, ← e2]; simp
        rw [this]
        exact a1.mono fun v t z => z.ext (x2.up hb1 _)
  · have hpe : p = l.length := by omega
    rw [toks_end l p (by omega)] at e1 e2
    walk_at "st"
    intro b hb1
    have hpb : pf ≠ b := by grind [upd]
    walk_at "st"
    intro c hc
    have hpc : pf ≠ c := by grind [upd]
    refine q c pf (L ++ [.ref b]) _ (((x1.up hb1 _).up0 hpf _).up hc _) (by walk_at "hp") (by rw [← e2]; exact upd_same) ?_
    have : allT l = F ++ [⟨"end", [], p⟩] := by unfold allT; rw [← e1, ← e2, hpe]; simp
    rw [this]
    have y : ∀ v t, TokV (upd (upd H1 b (.tup [.str "end", .str "", .int (p : Int)])) pf (.lst (L ++ [.ref b]))) v t → TokV (upd (upd (upd H1 b (.tup [.str "end", .str "", .int (p : Int)])) pf (.lst (L ++ [.ref b]))) c (.tup [.ref pf, .non])) v t := fun v t z => z.ext (Ext.new hc _)
    refine (a1.mono fun v t z => y v t ((z.ext (Ext.new hb1 _)).up (by walk_at "hp"))).snoc (y _ _ ⟨b, rfl, by walk_at "hp"⟩)
end
end K04

set_option Elab.async false
set_option linter.all false
set_option maxRecDepth 100000
set_option maxHeartbeats 2000000
set_option autoImplicit false
namespace K04
open PySem PySem.Spec PyProof.Rows L2 TN
open L2H (cxH RoomH)
local macro_rules | `(tactic| walk_at "nq") => `(tactic| first
  | assumption
  | (apply Ne.symm; assumption)
  | grind [upd])
local macro_rules | `(tactic| walk_at "hp") => `(tactic| first
  | assumption
  | exact upd_same
  | (refine up_next ?nq0 ?hp0; (case nq0 => walk_at "nq"); (case hp0 => walk_at "hp")))
local macro_rules | `(tactic| walk_at "ex") => `(tactic| first
  | assumption
  | exact Ext.rfl'
  | (refine Ext.up ?xa ?xb _; (case xb => assumption); (case xa => walk_at "ex"))
  | (refine Ext.up0 ?xa ?xb _; (case xb => assumption); (case xa => walk_at "ex"))
  | (refine Ext.trans ?xb ?xa; (case xb => assumption); (case xa => walk_at "ex")))
local macro_rules | `(tactic| walk_at "eb") => `(tactic| first
  | assumption
  | exact ExtB.rfl'
  | (refine ExtB.up ?xa ?xb _; (case xb => assumption); (case xa => walk_at "eb"))
  | (refine ExtB.up0 ?xa ?xb _; (case xb => assumption); (case xa => walk_at "eb"))
  | (refine ExtB.trans ?xb ?xa; (case xa => assumption); (case xb => walk_at "eb"))
  | (refine ExtB.trans ?xb (ExtB.of ?xa); (case xa => assumption); (case xb => walk_at "eb")))
local macro_rules | `(tactic| walk_at "bg") => `(tactic| first
  | assumption
  | (refine BagAt.up ?xa ?xb _; (case xb => assumption); (case xa => walk_at "bg"))
  | (refine BagAt.ext ?xb ?xa; (case xa => assumption); (case xb => walk_at "bg")))
local macro_rules | `(tactic| walk_at "sz") => `(tactic| first
  | assumption
  | decide
  | (simp only [sizeLine_eq, List.length_append, List.length_cons, List.length_nil, List.length_map] at *; omega))
local macro_rules | `(tactic| walk_at "ci") => `(tactic| first
  | exact m2 (by decide)
  | exact m1 (by decide)
  | exact m1 ⟨by omega, by omega⟩
  | (show (0 : Int) < _; first | decide | omega | assumption)
  | exact ⟨by first | decide | omega, by first | decide | omega⟩
  | exact ⟨by decide, by decide, by decide⟩)
local macro_rules | `(tactic| walk_at "s1") => `(tactic| first
  | (with_reducible refine s_seq ?_)
  | (with_reducible refine s_asg ?_)
  | (with_reducible refine s_gname ?_)
  | (with_reducible refine s_ret ?_)
  | (with_reducible refine s_retn ?_)
  | (with_reducible refine s_next ?_)
  | (with_reducible refine s_drop ?_)
  | (with_reducible refine s_ifs ?_)
  | (with_reducible refine s_par ?_)
  | (with_reducible refine s_two ?_)
  | ((with_reducible refine' s_var ?sv ?_); (case sv => rfl))
  | (with_reducible refine s_c ?_)
  | (with_reducible refine s_op ?_)
  | (with_reducible refine s_un ?_)
  | (with_reducible refine s_test ?_)
  | (with_reducible refine s_tb ?_)
  | (with_reducible refine s_bl ?_)
  | (with_reducible refine s_and ?_)
  | (with_reducible refine s_or ?_)
  | (with_reducible refine s_not ?_)
  | (with_reducible refine s_andv ?_)
  | (with_reducible refine s_orv ?_)
  | (with_reducible refine s_notv ?_)
  | (with_reducible refine s_if ?_)
  | (with_reducible refine s_nil ?_)
  | (with_reducible refine s_cons ?_)
  | (with_reducible refine s_tup ?_)
  | (with_reducible refine s_lst ?_)
  | ((with_reducible refine' s_few ?sv ?_); (case sv => rfl))
  | (with_reducible refine s_m0 ?_)
  | (with_reducible refine s_m1 ?_)
  | (with_reducible refine s_str ?_)
  | (with_reducible refine s_cb ?_)
  | (with_reducible refine s_calld ?_)
  | (with_reducible refine s_callw ?_)
  | (with_reducible refine s_callk ?_)
  | (with_reducible refine s_callkw ?_)
  | (with_reducible refine s_sl ?_)
  | (with_reducible refine s_part ?_)
  | (with_reducible refine s_nopart ?_)
  | (with_reducible refine s_int ?_)
  | (with_reducible refine s_i2 ?_)
  | (with_reducible refine s_addi ?_)
  | ((with_reducible refine' s_adds ?sv ?_); (case sv => walk_at "sz"))
  | ((with_reducible refine' s_eqs ?sv ?_); (case sv => rfl))
  | ((with_reducible refine' s_nes ?sv ?_); (case sv => rfl))
  | (with_reducible refine s_ins ?_)
  | ((with_reducible refine' s_lens ?sv ?_); (case sv => walk_at "sz"))
  | ((with_reducible refine' s_lenl ?sv ?_); (case sv => walk_at "hp"))
  | ((with_reducible refine' s_lent ?sv ?_); (case sv => walk_at "hp"))
  | ((with_reducible refine' s_sls ?sv ?_); (case sv => walk_at "sz"))
  | (with_reducible refine w_tt ?_)
  | (with_reducible refine w_ff ?_)
  | (with_reducible refine s_ex2 ?_)
  | (with_reducible refine s_bm ?_)
  | (with_reducible refine s_bm0 ?_)
  | (with_reducible refine s_tys ?_)
  | ((with_reducible refine' s_tyl ?sv ?_); (case sv => walk_at "hp"))
  | ((with_reducible refine' s_app ?sv ?sw ?_); (case sv => walk_at "hp"); (case sw => walk_at "sz"))
  | (with_reducible refine s_gsub ?_)
  | ((with_reducible refine' s_ixt ?sv ?sw ?_); (case sv => walk_at "hp"); (case sw => rfl))
  | ((with_reducible refine' s_ixl ?sv ?sw ?_); (case sv => walk_at "hp"); (case sw => rfl))
  | (with_reducible refine s_pnx ?_)
  | (with_reducible refine s_prt ?_)
  | (with_reducible refine s_turn ?_)
  | (with_reducible refine s_for ?_)
  | (with_reducible refine s_ilist ?_)
  | (with_reducible refine s_itup ?_)
  | (with_reducible refine s_rng1 ?_)
  | (with_reducible refine s_rng2 ?_)
  | (with_reducible refine s_isStr ?_)
  | (with_reducible refine n_isn ?_)
  | ((with_reducible refine' s_gseqT ?sv ?sw ?_); (case sv => walk_at "hp"); (case sw => rfl))
  | ((with_reducible refine' s_gseqL ?sv ?sw ?_); (case sv => walk_at "hp"); (case sw => rfl))
  | (with_reducible refine c_chain ?_)
  | ((with_reducible refine' s_rng1' ?sv ?sw ?_); (case sv => omega); (case sw => omega))
  | ((with_reducible refine' s_rng2' ?sv ?_); (case sv => refine ⟨?_, ?_, ?_, ?_⟩ <;> omega))
  | (with_reducible refine s_callx ?_)
  | ((with_reducible refine' w_t ?sv ?_); (case sv => rfl))
  | ((with_reducible refine' w_f ?sv ?_); (case sv => rfl))
  | ((with_reducible refine' x_one ?sv ?sw ?_); (case sv => walk_at "hp"); (case sw => assumption))
  | (with_reducible refine x_at ?_)
  | ((with_reducible refine' x_get ?sv ?sw ?_); (case sv => walk_at "hp"); (case sw => rfl))
  | ((with_reducible refine' s_addl ?sv ?sw ?su ?_); (case sv => walk_at "hp"); (case sw => walk_at "hp"); (case su => walk_at "sz"))
  | (with_reducible refine c_lrv ?_)
  | ((with_reducible refine' c_rvl ?sv ?_); (case sv => walk_at "hp"))
  | ((with_reducible refine' s_setl ?sv ?sw ?_); (case sv => walk_at "hp"); (case sw => rfl))
  | ((with_reducible refine' c_ri ?sv ?_); (case sv => walk_at "ci"))
  | ((with_reducible refine' c_mul ?sv ?_); (case sv => walk_at "ci"))
  | ((with_reducible refine' c_neNil ?sv ?sw ?_); (case sv => walk_at "hp"); (case sw => walk_at "hp"))
  | (with_reducible refine c_u ?_)
  | ((with_reducible refine' c_wipe ?sv ?_); (case sv => rfl))
  | ((with_reducible refine' s_gtup ?sv ?sw ?_); (case sv => walk_at "hp"); (case sw => rfl))
  | (with_reducible refine s_gcons ?_)
  | (with_reducible refine s_gnil ?_)
  | ((with_reducible refine' c_tupL ?sv ?_); (case sv => walk_at "hp"))
  | ((with_reducible refine' c_tupT ?sv ?_); (case sv => walk_at "hp"))
  | ((with_reducible refine' c_lstL ?sv ?_); (case sv => walk_at "hp"))
  | ((with_reducible refine' c_lstT ?sv ?_); (case sv => walk_at "hp"))
  | (with_reducible refine c_max ?_)
  | (with_reducible refine c_min ?_)
  | (with_reducible refine c_abs ?_)
  | (with_reducible refine c_int ?_)
  | (with_reducible refine c_intb ?_)
  | (with_reducible refine c_lrg ?_)
  | (with_reducible refine c_rg2 ?_)
  | (with_reducible refine c_ii ?_)
  | (with_reducible refine c_lc ?_)
  | ((with_reducible refine' c_seql' ?sv ?_); (case sv => walk_at "hp"))
  | ((with_reducible refine' c_seqt' ?sv ?_); (case sv => walk_at "hp"))
  | (with_reducible refine c_yes ?_)
  | ((with_reducible refine' s_sll ?sv ?_); (case sv => walk_at "hp"))
  | (with_reducible refine n_isr ?_)
  | (with_reducible refine n_isi ?_)
  | (with_reducible refine n_iss ?_)
  | (with_reducible refine n_non ?_)
  | (with_reducible refine n_nor ?_)
  | (with_reducible refine n_noi ?_)
  | (with_reducible refine n_nos ?_))
local macro_rules | `(tactic| walk_at "st") => `(tactic| repeat1' walk_at "s1")
section
variable {P : Program} {w : World} {K : PySem.W.Frag} {mg : Str → Option Value} {base : Heap}

/-! ## tokens_of -/
abbrev s_tokens_of : Stmt := top 20
abbrev N_tokens_of : List Str := ["value", "found", "place"]
theorem sc_tokens_of : FnScope ["value", "found", "place"] ["value"] (defScope s_tokens_of) := ⟨rfl, rfl, rfl, by decide +kernel, rfl, by decide +kernel, by decide +kernel⟩
def sp_tokens_of (K : PySem.W.Frag) (a_BadText : Addr) : Sp := fun vs H Q E => ∃ (z : Str), vs = [.str z] ∧ (z.length ≤ 4000) ∧ ((∀ q L H', Ext H H' → (toks (tl z) 0).2 = none → H' q = some (.tup L) → All2 (TokV H') L (allT (tl z)) → Q (.ref q) H') ∧ (∀ p d H', (toks (tl z) 0).2 = some p → Ext H H' → H' d = some (.xd [("place", .int (p : Nat))]) → E (.ref a_BadText) (some d) H'))
theorem use_tokens_of {K : PySem.W.Frag} {H : Hp} {Q : VK} {E : XK} {a_BadText : Addr} {z : Str} (pre : z.length ≤ 4000) (post : (∀ q L H', Ext H H' → (toks (tl z) 0).2 = none → H' q = some (.tup L) → All2 (TokV H') L (allT (tl z)) → Q (.ref q) H') ∧ (∀ p d H', (toks (tl z) 0).2 = some p → Ext H H' → H' d = some (.xd [("place", .int (p : Nat))]) → E (.ref a_BadText) (some d) H')) : sp_tokens_of K a_BadText [.str z] H Q E := ⟨z, rfl, pre, post⟩
theorem ok_tokens_of (R : RawFn K mg "tokens_of" s_tokens_of) {a_BadText : Addr} (d_is_text : DefOk P w K mg base CX0 "is_text" s_is_text 1 ["value"] (sp_is_text K)) (d_tokens_till : DefOk P w K mg base CX0 "tokens_till" s_tokens_till 3 ["text"] (sp_tokens_till K)) (n_tuple : mg "tuple" = none) (r_BadText : RaiseC P K mg "BadText" "place" a_BadText) : DefOk P w K mg base (L2.CX P w) "tokens_of" s_tokens_of 4 ["value"] (sp_tokens_of K a_BadText) := by
  refine R.okX sc_tokens_of (fun _ _ _ _ _ _ us hl => match us, hl with | [_], _ => rfl) (fun vs H Q E h => by obtain ⟨_, rfl, _⟩ := h; rfl) (fun f cdv A outer s H vs Q E hr h => ?_)
  have hu := units64 hr
  obtain ⟨z, rfl, pre, q⟩ := h
  have tk : Takes (cxOf (L2.CX P w) P w K mg base N_tokens_of "tokens_of" (defScope s_tokens_of) f cdv A outer s H E) (fun cls d _ H => E cls d H) := takes_of rfl rfl rfl rfl
  refine ⟨_, (pss_cons (ps_if (pt_not (pt_val (pe_callD (E := E0) d_is_text (hr.mono (by decide)) pass0 (pa_cons (pv 0) pa_nil))))
      (pss_one (ps_raise1 rfl tk r_BadText (j := 0) (hr.mono (by decide)) (pa_cons pe_int pa_nil)))
      pss_nil)
      (pss_cons (ps_asg (pe_callD (E := E0) d_tokens_till (hr.mono (by decide)) pass0 (pa_cons (pv 0) pa_nil)) (pg_seq rfl (pgs_cons (pg_name (i := 1) sc_tokens_of.nd rfl (Or.inl rfl)) (pgs_cons (pg_name (i := 2) sc_tokens_of.nd rfl (Or.inl rfl)) pgs_nil))))
      (pss_cons (ps_if (pt_cmpR op_notNA (pv 2) pe_non (nomark _))
      (pss_one (ps_raise1 rfl tk r_BadText (j := 0) (hr.mono (by decide)) (pa_cons (pv 2) pa_nil)))
      pss_nil)
      (pss_one (ps_ret (pe_callTy call_tupleOf (by rfl) n_tuple (by decide +kernel) (pa_cons (pv 1) pa_nil))))))), ?_⟩
  obtain ⟨q1, q2⟩ := q
  walk_at "st"
  refine use_is_text (by omega) ?_
  walk_at "st"
  rw [decide_eq_true pre]
  refine w_ff ?_
  walk_at "st"
  refine use_tokens_till pre fun q pf L H' x h1 h2 a => ?_
  walk_at "st"
  cases hb : (toks (tl z) 0).2 with
  | none =>
    dsimp only [badV]
    walk_at "st"
    intro t ht
    refine q1 t L _ (by walk_at "ex") hb upd_same (a.mono fun v t z => z.ext (Ext.new ht _))
  | some p =>
    dsimp only [badV]
    walk_at "st"
    refine s_raise1 ?_ (m_one m_var)
    walk_at "st"
    refine ⟨_, rfl, fun d hd => q2 p d _ hb (by walk_at "ex") upd_same⟩
/-! ## lines_number -/
abbrev s_lines_number : Stmt := top 22
abbrev N_lines_number : List Str := ["value"]
theorem sc_lines_number : FnScope ["value"] ["value"] (defScope s_lines_number) := ⟨rfl, rfl, rfl, by decide +kernel, rfl, by decide +kernel, by decide +kernel⟩
def sp_lines_number (K : PySem.W.Frag) : Sp := fun vs H Q E => ∃ (z : Str), vs = [.str z] ∧ (True) ∧ (Q (.int (((tl z).count 10 : Nat) + 1)) H)
theorem use_lines_number {K : PySem.W.Frag} {H : Hp} {Q : VK} {E : XK} {z : Str} (pre : True) (post : Q (.int (((tl z).count 10 : Nat) + 1)) H) : sp_lines_number K [.str z] H Q E := ⟨z, rfl, pre, post⟩
theorem ok_lines_number (R : RawFn K mg "lines_number" s_lines_number) : DefOk P w K mg base CX0 "lines_number" s_lines_number 1 ["value"] (sp_lines_number K) := by
  refine R.ok sc_lines_number (fun _ _ _ _ _ _ us hl => match us, hl with | [_], _ => rfl) (fun vs H Q E h => by obtain ⟨_, rfl, _⟩ := h; rfl) (fun f cdv A outer s H vs Q E hr h => ?_)
  have hu := units64 hr
  obtain ⟨z, rfl, pre, q⟩ := h
  refine ⟨_, (pss_one (ps_ret (pe_op op_addA (pe_m1 PySem.F.slot_str_count PySem.F.type_str_count mt_count (pv 0) pe_str) pe_int))), ?_⟩
  walk_at "st"
  rw [show Txt.count z "\n" = _ from count_one z 10]
  exact q
/-! ## line_of -/
abbrev s_line_of : Stmt := top 23
abbrev N_line_of : List Str := ["value", "line"]
theorem sc_line_of : FnScope ["value", "line"] ["value", "line"] (defScope s_line_of) := ⟨rfl, rfl, rfl, by decide +kernel, rfl, by decide +kernel, by decide +kernel⟩
def sp_line_of (K : PySem.W.Frag) : Sp := fun vs H Q E => ∃ (z : Str) (i : Nat), vs = [.str z, .int ((i : Int) + 1)] ∧ (z.length ≤ 4000 ∧ i < (parted 10 (tl z)).length) ∧ (∀ h H', (parted 10 (tl z))[i]? = some h → Ext H H' → Q (.str (mk h)) H')
theorem use_line_of {K : PySem.W.Frag} {H : Hp} {Q : VK} {E : XK} {z : Str} {i : Nat} (pre : z.length ≤ 4000 ∧ i < (parted 10 (tl z)).length) (post : ∀ h H', (parted 10 (tl z))[i]? = some h → Ext H H' → Q (.str (mk h)) H') : sp_line_of K [.str z, .int ((i : Int) + 1)] H Q E := ⟨z, i, rfl, pre, post⟩
theorem ok_line_of (R : RawFn K mg "line_of" s_line_of) : DefOk P w K mg base CX0 "line_of" s_line_of 1 ["value", "line"] (sp_line_of K) := by
  refine R.ok sc_line_of (fun _ _ _ _ _ _ us hl => match us, hl with | [_, _], _ => rfl) (fun vs H Q E h => by obtain ⟨_, _, rfl, _⟩ := h; rfl) (fun f cdv A outer s H vs Q E hr h => ?_)
  have hu := units64 hr
  obtain ⟨z, i, rfl, pre, q⟩ := h
  refine ⟨_, (pss_one (ps_ret (pe_ix ix_seq (pe_m1 PySem.F.slot_str_split PySem.F.type_str_split mt_split (pv 0) pe_str) (pe_op op_sub (pv 1) pe_int) (fun _ _ => rfl)))), ?_⟩
  obtain ⟨hz, hi⟩ := pre
  walk_at "st"
  refine ⟨rfl, by rw [sizeLine_eq]; omega, fun a ha => ?_⟩
  walk_at "st"
  obtain ⟨h, hh⟩ : ∃ h, (parted 10 (tl z))[i]? = some h := ⟨_, List.getElem?_eq_getElem hi⟩
  have e := split_one z 10 (by decide)
  have e2 : ((Txt.split z "\n").map V.str)[i]? = some (.str (mk h)) := by
    rw [← e, List.getElem?_map] at hh
    rw [List.getElem?_map]
    cases hx : (Txt.split z (one 10))[i]? with
    | none => rw [hx] at hh; cases hh
    | some y => rw [hx] at hh; rw [show (Txt.split z "\n")[i]? = some y from hx]; injection hh with hh; rw [← hh, mk_tl]; rfl
  rw [show (i : Int) + 1 - 1 = (i : Int) from by omega]
  refine s_ixl upd_same (atI_nat' e2) ?_
  exact q h _ hh (by walk_at "ex")
/-! ## line_and_sign -/
abbrev s_line_and_sign : Stmt := top 24
abbrev N_line_and_sign : List Str := ["value", "place", "ahead"]
theorem sc_line_and_sign : FnScope ["value", "place", "ahead"] ["value", "place"] (defScope s_line_and_sign) := ⟨rfl, rfl, rfl, by decide +kernel, rfl, by decide +kernel, by decide +kernel⟩
def sp_line_and_sign (K : PySem.W.Frag) : Sp := fun vs H Q E => ∃ (z : Str) (p : Nat), vs = [.str z, .int p] ∧ (z.length ≤ 4000 ∧ p ≤ z.length) ∧ (∀ a H', Ext H H' → H' a = some (.tup [.int ((((tl z).take p).count 10 : Nat) + 1), .int ((p : Int) - (begins (parted 10 (tl z)) (((tl z).take p).count 10) : Nat) + 1)]) → Q (.ref a) H')
theorem use_line_and_sign {K : PySem.W.Frag} {H : Hp} {Q : VK} {E : XK} {z : Str} {p : Nat} (pre : z.length ≤ 4000 ∧ p ≤ z.length) (post : ∀ a H', Ext H H' → H' a = some (.tup [.int ((((tl z).take p).count 10 : Nat) + 1), .int ((p : Int) - (begins (parted 10 (tl z)) (((tl z).take p).count 10) : Nat) + 1)]) → Q (.ref a) H') : sp_line_and_sign K [.str z, .int p] H Q E := ⟨z, p, rfl, pre, post⟩
theorem ok_line_and_sign (R : RawFn K mg "line_and_sign" s_line_and_sign) : DefOk P w K mg base CX0 "line_and_sign" s_line_and_sign 1 ["value", "place"] (sp_line_and_sign K) := by
  refine R.ok sc_line_and_sign (fun _ _ _ _ _ _ us hl => match us, hl with | [_, _], _ => rfl) (fun vs H Q E h => by obtain ⟨_, _, rfl, _⟩ := h; rfl) (fun f cdv A outer s H vs Q E hr h => ?_)
  have hu := units64 hr
  obtain ⟨z, p, rfl, pre, q⟩ := h
  refine ⟨_, (pss_cons (ps_set (i := 2) sc_line_and_sign.nd rfl (Or.inl rfl) (pe_slice sl_A (pv 0) po_none (po_some (pv 1))))
      (pss_one (ps_ret (pe_tup (pa_cons (pe_op op_addA (pe_m1 PySem.F.slot_str_count PySem.F.type_str_count mt_count (pv 2) pe_str) pe_int) (pa_cons (pe_op op_addA (pe_op op_sub (pv 1) (pe_op op_addA (pe_m1 PySem.F.slot_str_rfind PySem.F.type_str_rfind mt_rfind (pv 2) pe_str) pe_int)) pe_int) pa_nil)))))), ?_⟩
  obtain ⟨hz, hp⟩ := pre
  have hp' : p ≤ (tl z).length := by rw [← len_tl]; exact hp
  have S := spot 10 (tl z) p hp'
  have e : tl (cutS z none (some (p : Int))) = (tl z).take p := tl_cut_to z p
  walk_at "st"
  intro a ha
  refine q a _ (by walk_at "ex") ?_
  rw [upd_same, show Txt.count (cutS z none (some (p : Int))) "\n" = _ from count_one _ 10, e, show Txt.rfind (cutS z none (some (p : Int))) "\n" = _ from S.last _ e]
  congr 5
  omega
end
end K04

set_option Elab.async false
set_option linter.all false
set_option maxRecDepth 100000
set_option maxHeartbeats 2000000
set_option autoImplicit false
namespace K04
open PySem PySem.Spec PyProof.Rows L2 TN
open L2H (cxH RoomH)
local macro_rules | `(tactic| walk_at "nq") => `(tactic| first
  | assumption
  | (apply Ne.symm; assumption)
  | grind [upd])
local macro_rules | `(tactic| walk_at "hp") => `(tactic| first
  | assumption
  | exact upd_same
  | (refine up_next ?nq0 ?hp0; (case nq0 => walk_at "nq"); (case hp0 => walk_at "hp")))
local macro_rules | `(tactic| walk_at "ex") => `(tactic| first
  | assumption
  | exact Ext.rfl'
  | (refine Ext.up ?xa ?xb _; (case xb => assumption); (case xa => walk_at "ex"))
  | (refine Ext.up0 ?xa ?xb _; (case xb => assumption); (case xa => walk_at "ex"))
  | (refine Ext.trans ?xb ?xa; (case xb => assumption); (case xa => walk_at "ex")))
local macro_rules | `(tactic| walk_at "eb") => `(tactic| first
  | assumption
  | exact ExtB.rfl'
  | (refine ExtB.up ?xa ?xb _; (case xb => assumption); (case xa => walk_at "eb"))
  | (refine ExtB.up0 ?xa ?xb _; (case xb => assumption); (case xa => walk_at "eb"))
  | (refine ExtB.trans ?xb ?xa; (case xa => assumption); (case xb => walk_at "eb"))
  | (refine ExtB.trans ?xb (ExtB.of ?xa); (case xa => assumption); (case xb => walk_at "eb")))
local macro_rules | `(tactic| walk_at "bg") => `(tactic| first
  | assumption
  | (refine BagAt.up ?xa ?xb _; (case xb => assumption); (case xa => walk_at "bg"))
  | (refine BagAt.ext ?xb ?xa; (case xa => assumption); (case xb => walk_at "bg")))
local macro_rules | `(tactic| walk_at "sz") => `(tactic| first
  | assumption
  | decide
  | (simp only [sizeLine_eq, List.length_append, List.length_cons, List.length_nil, List.length_map] at *; omega))
local macro_rules | `(tactic| walk_at "ci") => `(tactic| first
  | exact m2 (by decide)
  | exact m1 (by decide)
  | exact m1 ⟨by omega, by omega⟩
  | (show (0 : Int) < _; first | decide | omega | assumption)
  | exact ⟨by first | decide | omega, by first | decide | omega⟩
  | exact ⟨by decide, by decide, by decide⟩)
local macro_rules | `(tactic| walk_at "s1") => `(tactic| first
  | (with_reducible refine s_seq ?_)
  | (with_reducible refine s_asg ?_)
  | (with_reducible refine s_gname ?_)
  | (with_reducible refine s_ret ?_)
  | (with_reducible refine s_retn ?_)
  | (with_reducible refine s_next ?_)
  | (with_reducible refine s_drop ?_)
  | (with_reducible refine s_ifs ?_)
  | (with_reducible refine s_par ?_)
  | (with_reducible refine s_two ?_)
  | ((with_reducible refine' s_var ?sv ?_); (case sv => rfl))
  | (with_reducible refine s_c ?_)
  | (with_reducible refine s_op ?_)
  | (with_reducible refine s_un ?_)
  | (with_reducible refine s_test ?_)
  | (with_reducible refine s_tb ?_)
  | (with_reducible refine s_bl ?_)
  | (with_reducible refine s_and ?_)
  | (with_reducible refine s_or ?_)
  | (with_reducible refine s_not ?_)
  | (with_reducible refine s_andv ?_)
  | (with_reducible refine s_orv ?_)
  | (with_reducible refine s_notv ?_)
  | (with_reducible refine s_if ?_)
  | (with_reducible refine s_nil ?_)
  | (with_reducible refine s_cons ?_)
  | (with_reducible refine s_tup ?_)
  | (with_reducible refine s_lst ?_)
  | ((with_reducible refine' s_few ?sv ?_); (case sv => rfl))
  | (with_reducible refine s_m0 ?_)
  | (with_reducible refine s_m1 ?_)
  | (with_reducible refine s_str ?_)
  | (with_reducible refine s_cb ?_)
  | (with_reducible refine s_calld ?_)
  | (with_reducible refine s_callw ?_)
  | (with_reducible refine s_callk ?_)
  | (with_reducible refine s_callkw ?_)
  | (with_reducible refine s_sl ?_)
  | (with_reducible refine s_part ?_)
  | (with_reducible refine s_nopart ?_)
  | (with_reducible refine s_int ?_)
  | (with_reducible refine s_i2 ?_)
  | (with_reducible refine s_addi ?_)
  | ((with_reducible refine' s_adds ?sv ?_); (case sv => walk_at "sz"))
  | ((with_reducible refine' s_eqs ?sv ?_); (case sv => rfl))
  | ((with_reducible refine' s_nes ?sv ?_); (case sv => rfl))
  | (with_reducible refine s_ins ?_)
  | ((with_reducible refine' s_lens ?sv ?_); (case sv => walk_at "sz"))
  | ((with_reducible refine' s_lenl ?sv ?_); (case sv => walk_at "hp"))
  | ((with_reducible refine' s_lent ?sv ?_); (case sv => walk_at "hp"))
  | ((with_reducible refine' s_sls ?sv ?_); (case sv => walk_at "sz"))
  | (with_reducible refine w_tt ?_)
  | (with_reducible refine w_ff ?_)
  | (with_reducible refine s_ex2 ?_)
  | (with_reducible refine s_bm ?_)
  | (with_reducible refine s_bm0 ?_)
  | (with_reducible refine s_tys ?_)
  | ((with_reducible refine' s_tyl ?sv ?_); (case sv => walk_at "hp"))
  | ((with_reducible refine' s_app ?sv ?sw ?_); (case sv => walk_at "hp"); (case sw => walk_at "sz"))
  | (with_reducible refine s_gsub ?_)
  | ((with_reducible refine' s_ixt ?sv ?sw ?_); (case sv => walk_at "hp"); (case sw => rfl))
  | ((with_reducible refine' s_ixl ?sv ?sw ?_); (case sv => walk_at "hp"); (case sw => rfl))
  | (with_reducible refine s_pnx ?_)
  | (with_reducible refine s_prt ?_)
  | (with_reducible refine s_turn ?_)
  | (with_reducible refine s_for ?_)
  | (with_reducible refine s_ilist ?_)
  | (with_reducible refine s_itup ?_)
  | (with_reducible refine s_rng1 ?_)
  | (with_reducible refine s_rng2 ?_)
  | (with_reducible refine s_isStr ?_)
  | (with_reducible refine n_isn ?_)
  | ((with_reducible refine' s_gseqT ?sv ?sw ?_); (case sv => walk_at "hp"); (case sw => rfl))
  | ((with_reducible refine' s_gseqL ?sv ?sw ?_); (case sv => walk_at "hp"); (case sw => rfl))
  | (with_reducible refine c_chain ?_)
  | ((with_reducible refine' s_rng1' ?sv ?sw ?_); (case sv => omega); (case sw => omega))
  | ((with_reducible refine' s_rng2' ?sv ?_); (case sv => refine ⟨?_, ?_, ?_, ?_⟩ <;> omega))
  | (with_reducible refine s_callx ?_)
  | ((with_reducible refine' w_t ?sv ?_); (case sv => rfl))
  | ((with_reducible refine' w_f ?sv ?_); (case sv => rfl))
  | ((with_reducible refine' x_one ?sv ?sw ?_); (case sv => walk_at "hp"); (case sw => assumption))
  | (with_reducible refine x_at ?_)
  | ((with_reducible refine' x_get ?sv ?sw ?_); (case sv => walk_at "hp"); (case sw => rfl))
  | ((with_reducible refine' s_addl ?sv ?sw ?su ?_); (case sv => walk_at "hp"); (case sw => walk_at "hp"); (case su => walk_at "sz"))
  | (with_reducible refine c_lrv ?_)
  | ((with_reducible refine' c_rvl ?sv ?_); (case sv => walk_at "hp"))
  | ((with_reducible refine' s_setl ?sv ?sw ?_); (case sv => walk_at "hp"); (case sw => rfl))
  | ((with_reducible refine' c_ri ?sv ?_); (case sv => walk_at "ci"))
  | ((with_reducible refine' c_mul ?sv ?_); (case sv => walk_at "ci"))
  | ((with_reducible refine' c_neNil ?sv ?sw ?_); (case sv => walk_at "hp"); (case sw => walk_at "hp"))
  | (with_reducible refine c_u ?_)
  | ((with_reducible refine' c_wipe ?sv ?_); (case sv => rfl))
  | ((with_reducible refine' s_gtup ?sv ?sw ?_); (case sv => walk_at "hp"); (case sw => rfl))
  | (with_reducible refine s_gcons ?_)
  | (with_reducible refine s_gnil ?_)
  | ((with_reducible refine' c_tupL ?sv ?_); (case sv => walk_at "hp"))
  | ((with_reducible refine' c_tupT ?sv ?_); (case sv => walk_at "hp"))
  | ((with_reducible refine' c_lstL ?sv ?_); (case sv => walk_at "hp"))
  | ((with_reducible refine' c_lstT ?sv ?_); (case sv => walk_at "hp"))
  | (with_reducible refine c_max ?_)
  | (with_reducible refine c_min ?_)
  | (with_reducible refine c_abs ?_)
  | (with_reducible refine c_int ?_)
  | (with_reducible refine c_intb ?_)
  | (with_reducible refine c_lrg ?_)
  | (with_reducible refine c_rg2 ?_)
  | (with_reducible refine c_ii ?_)
  | (with_reducible refine c_lc ?_)
  | ((with_reducible refine' c_seql' ?sv ?_); (case sv => walk_at "hp"))
  | ((with_reducible refine' c_seqt' ?sv ?_); (case sv => walk_at "hp"))
  | (with_reducible refine c_yes ?_)
  | ((with_reducible refine' s_sll ?sv ?_); (case sv => walk_at "hp"))
  | (with_reducible refine n_isr ?_)
  | (with_reducible refine n_isi ?_)
  | (with_reducible refine n_iss ?_)
  | (with_reducible refine n_non ?_)
  | (with_reducible refine n_nor ?_)
  | (with_reducible refine n_noi ?_)
  | (with_reducible refine n_nos ?_))
local macro_rules | `(tactic| walk_at "st") => `(tactic| repeat1' walk_at "s1")
section
variable {P : Program} {w : World} {K : PySem.W.Frag} {mg : Str → Option Value} {base : Heap}

/-! ## place_of -/
abbrev s_place_of : Stmt := top 25
abbrev N_place_of : List Str := ["value", "line", "sign", "own"]
theorem sc_place_of : FnScope ["value", "line", "sign", "own"] ["value", "line", "sign"] (defScope s_place_of) := ⟨rfl, rfl, rfl, by decide +kernel, rfl, by decide +kernel, by decide +kernel⟩
def sp_place_of (K : PySem.W.Frag) : Sp := fun vs H Q E => ∃ (z : Str) (i : Nat) (s : Int), vs = [.str z, .int ((i : Int) + 1), .int s] ∧ (z.length ≤ 4000 ∧ i ≤ (parted 10 (tl z)).length) ∧ (∀ H', Ext H H' → Q (.int ((begins (parted 10 (tl z)) i : Nat) + s - 1)) H')
theorem use_place_of {K : PySem.W.Frag} {H : Hp} {Q : VK} {E : XK} {z : Str} {i : Nat} {s : Int} (pre : z.length ≤ 4000 ∧ i ≤ (parted 10 (tl z)).length) (post : ∀ H', Ext H H' → Q (.int ((begins (parted 10 (tl z)) i : Nat) + s - 1)) H') : sp_place_of K [.str z, .int ((i : Int) + 1), .int s] H Q E := ⟨z, i, s, rfl, pre, post⟩
theorem ok_place_of (R : RawFn K mg "place_of" s_place_of) (n_len : mg "len" = none) (n_sum : mg "sum" = none) : DefOk P w K mg base CX0 "place_of" s_place_of 1 ["value", "line", "sign"] (sp_place_of K) := by
  refine R.ok sc_place_of (fun _ _ _ _ _ _ us hl => match us, hl with | [_, _, _], _ => rfl) (fun vs H Q E h => by obtain ⟨_, _, _, rfl, _⟩ := h; rfl) (fun f cdv A outer s H vs Q E hr h => ?_)
  have hu := units64 hr
  obtain ⟨z, i, s, rfl, pre, q⟩ := h
  refine ⟨_, (pss_one (ps_ret (pe_op op_sub (pe_op op_addA (pe_callB (cr_sum rfl) (by rfl) n_sum (by decide +kernel) (pa_cons (pe_lc (own := [("own", 3)]) (g := gName 3) (tt := tYes) rfl sc_place_of.nd (pi_seq (pe_slice sl_A (pe_m1 PySem.F.slot_str_split PySem.F.type_str_split mt_split (pv 0) pe_str) po_none (po_some (pe_op op_sub (pv 1) pe_int)))) (blkOk_by (N := N_place_of) (sc := defScope s_place_of) (by decide +kernel)) (fun _ _ _ _ _ => pg_name (i := 3) sc_place_of.nd rfl (Or.inl rfl)) (fun _ _ _ _ _ => pts_nil) (fun _ _ _ _ _ => (pe_op (op_addK K rfl) (pe_callB (call_lenK K rfl) (by rfl) n_len (by decide +kernel) (pa_cons (pv 3) pa_nil)) pe_int))) pa_nil)) (pv 2)) pe_int))), ?_⟩
  obtain ⟨hz, hi⟩ := pre
  walk_at "st"
  refine .inl ?_
  walk_at "st"
  refine ⟨rfl, by rw [sizeLine_eq]; omega, fun a ha => ?_⟩
  walk_at "st"
  intro b hb
  walk_at "st"
  intro D hD
  obtain ⟨Z, hZ⟩ : ∃ Z, Z = Txt.split z "\n" := ⟨_, rfl⟩
  have eZ : Z.map tl = parted 10 (tl z) := by rw [hZ]; exact split_one z 10 (by decide)
  rw [← hZ] at hb hD ⊢
  rw [show (i : Int) + 1 - 1 = (i : Int) from by omega, cutV_to, ← List.map_take] at hD ⊢
  obtain ⟨Y, hY⟩ : ∃ Y, Y = Z.take i := ⟨_, rfl⟩
  rw [← hY] at hD ⊢
  have hbD : b ≠ D := by grind [upd]
  have hD0 : H D = none := Ext.none (by walk_at "ex") hD
  have hYz : ∀ y ∈ Y, y.length ≤ 4000 := fun y hy => by
    have := part_le (eZ ▸ List.mem_map_of_mem (List.mem_of_mem_take (hY ▸ hy)))
    rw [len_tl]; rw [len_tl] at hz; omega
  have hYl : Y.length ≤ 4001 := by
    have h1 : Z.length = (tl z).count 10 + 1 := by rw [← List.length_map (f := tl), eZ, parted_length]
    have h2 : (tl z).count 10 ≤ (tl z).length := List.count_le_length
    rw [len_tl] at hz
    rw [hY, List.length_take]; omega
  refine lc_list (xs := Y.map V.str) (fun j H' => Ext H H' ∧ H' b = some (.lst (Y.map V.str)) ∧ H' D = some (.lst ((Y.take j).map fun y => V.int ((y.length : Int) + 1)))) ⟨by walk_at "ex", by walk_at "hp", upd_same⟩ (fun j H' _ h => sq_l h.2.1) (fun j x H' hx h => ?_) (fun H' h => ?_)
  · obtain ⟨x1, h1, h2⟩ := h
    rw [List.getElem?_map] at hx
    cases hy : Y[j]? with
    | none => rw [hy] at hx; cases hx
    | some y =>
      rw [hy] at hx
      injection hx with hx
      subst hx
      have hj : j < Y.length := (List.getElem?_eq_some_iff.mp hy).1
      have hyl := hYz y (List.mem_of_getElem? hy)
      walk_at "st"
      refine ⟨_, h2, by rw [List.length_map, List.length_take, sizeLine_eq]; omega, by walk_at "ex", by walk_at "hp", ?_⟩
      rw [upd_same, List.take_add_one, hy, List.map_append]
      rfl
  · obtain ⟨x1, h1, h2⟩ := h
    rw [List.length_map, List.take_length] at h2
    have h3 : H' D = some (.lst ((Y.map fun y => (y.length : Int) + 1).map V.int)) := by rw [h2, List.map_map]; rfl
    walk_at "st"
    refine c_sum h3 ?_
    walk_at "st"
    have e : (Y.map fun y => (y.length : Int) + 1).sum = (begins (parted 10 (tl z)) i : Nat) := by
      unfold begins
      rw [← eZ, ← List.map_take, ← hY]
      exact sum_len Y
    rw [e]
    exact q H' x1
/-! ## tokens_on -/
abbrev s_tokens_on : Stmt := top 26
abbrev N_tokens_on : List Str := ["value", "line", "tokens", "token"]
theorem sc_tokens_on : FnScope ["value", "line", "tokens", "token"] ["value", "line"] (defScope s_tokens_on) := ⟨rfl, rfl, rfl, by decide +kernel, rfl, by decide +kernel, by decide +kernel⟩
def sp_tokens_on (K : PySem.W.Frag) (a_BadText : Addr) : Sp := fun vs H Q E => ∃ (z : Str) (i : Nat), vs = [.str z, .int ((i : Int) + 1)] ∧ (z.length ≤ 4000) ∧ ((∀ q L H', Ext H H' → (toks (tl z) 0).2 = none → H' q = some (.tup L) → All2 (TokV H') L ((toks (tl z) 0).1.filter fun t => decide (((tl z).take t.p).count 10 = i)) → Q (.ref q) H') ∧ (∀ p d H', (toks (tl z) 0).2 = some p → Ext H H' → H' d = some (.xd [("place", .int (p : Nat))]) → E (.ref a_BadText) (some d) H'))
theorem use_tokens_on {K : PySem.W.Frag} {H : Hp} {Q : VK} {E : XK} {a_BadText : Addr} {z : Str} {i : Nat} (pre : z.length ≤ 4000) (post : (∀ q L H', Ext H H' → (toks (tl z) 0).2 = none → H' q = some (.tup L) → All2 (TokV H') L ((toks (tl z) 0).1.filter fun t => decide (((tl z).take t.p).count 10 = i)) → Q (.ref q) H') ∧ (∀ p d H', (toks (tl z) 0).2 = some p → Ext H H' → H' d = some (.xd [("place", .int (p : Nat))]) → E (.ref a_BadText) (some d) H')) : sp_tokens_on K a_BadText [.str z, .int ((i : Int) + 1)] H Q E := ⟨z, i, rfl, pre, post⟩
theorem ok_tokens_on (R : RawFn K mg "tokens_on" s_tokens_on) {a_BadText : Addr} (d_line_and_sign : DefOk P w K mg base CX0 "line_and_sign" s_line_and_sign 1 ["value", "place"] (sp_line_and_sign K)) (d_tokens_of : DefOk P w K mg base (L2.CX P w) "tokens_of" s_tokens_of 4 ["value"] (sp_tokens_of K a_BadText)) (n_tuple : mg "tuple" = none) : DefOk P w K mg base (L2.CX P w) "tokens_on" s_tokens_on 5 ["value", "line"] (sp_tokens_on K a_BadText) := by
  refine R.okX sc_tokens_on (fun _ _ _ _ _ _ us hl => match us, hl with | [_, _], _ => rfl) (fun vs H Q E h => by obtain ⟨_, _, rfl, _⟩ := h; rfl) (fun f cdv A outer s H vs Q E hr h => ?_)
  have hu := units64 hr
  obtain ⟨z, i, rfl, pre, q⟩ := h
  have tk : Takes (cxOf (L2.CX P w) P w K mg base N_tokens_on "tokens_on" (defScope s_tokens_on) f cdv A outer s H E) (fun cls d _ H => E cls d H) := takes_of rfl rfl rfl rfl
  refine ⟨_, (pss_cons (ps_set (i := 2) sc_tokens_on.nd rfl (Or.inl rfl) (pe_slice sl_A (pe_callW tk d_tokens_of (hr.mono (by decide)) (pa_cons (pv 0) pa_nil)) po_none (po_some (pe_un un_neg pe_int))))
      (pss_one (ps_ret (pe_callTy call_tupleOf (by rfl) n_tuple (by decide +kernel) (pa_cons (pe_lc (own := [("token", 3)]) (g := gName 3) rfl sc_tokens_on.nd (pi_seq (pv 2)) (blkOk_by (N := N_tokens_on) (sc := defScope s_tokens_on) (by decide +kernel)) (fun _ _ _ _ _ => pg_name (i := 3) sc_tokens_on.nd rfl (Or.inl rfl)) (fun _ _ _ _ _ => (pts_one (pt_cmpR (op_eqK K rfl hu) (pe_ix (ix_seqK K rfl) (pe_callD (E := E0) d_line_and_sign (hr.mono (by decide)) pass0 (pa_cons (pv 0) (pa_cons (pe_ix (ix_seqK K rfl) (pv 3) pe_int (fun _ _ => rfl)) pa_nil))) pe_int (fun _ _ => rfl)) (pv 1) (nomark _)))) (fun _ _ _ _ _ => (pv 3))) pa_nil))))), ?_⟩
  obtain ⟨q1, q2⟩ := q
  walk_at "st"
  refine use_tokens_of pre ⟨fun q L H1 x1 hb h1 a1 => ?_, fun p d H1 hb x1 h1 => ?_⟩
  · walk_at "st"
    have hall : allT (tl z) = (toks (tl z) 0).1 ++ [⟨"end", [], (tl z).length⟩] := by unfold allT; rw [hb]
    rw [hall] at a1
    have hLn : L ≠ [] := fun e => by have := a1.length; rw [e] at this; simp at this
    refine c_slInit h1 hLn ?_
    intro r hr1
    have a2 := a1.dropLast
    rw [List.dropLast_concat] at a2
    obtain ⟨M, hM⟩ : ∃ M, M = L.dropLast := ⟨_, rfl⟩
    obtain ⟨T, hT⟩ : ∃ T, T = (toks (tl z) 0).1 := ⟨_, rfl⟩
    have hTp : ∀ t ∈ T, t.p < (tl z).length := by rw [hT]; exact fun t ht => toks_at _ _ t ht
    rw [← hM] at a2 ⊢
    rw [← hT] at a2 q1
    have hlM : M.length = T.length := a2.length
    walk_at "st"
    refine .inr ?_
    walk_at "st"
    intro D hD
    have hrD : r ≠ D := by grind [upd]
    have hD1 : H1 D = none := Ext.none (by walk_at "ex") hD
    refine lc_tup (xs := M) (fun j H' => ∃ acc, Ext H1 H' ∧ H' r = some (.tup M) ∧ H' D = some (.lst acc) ∧ All2 (TokV H') acc ((T.take j).filter fun t => decide (((tl z).take t.p).count 10 = i)) ∧ acc.length ≤ j) ⟨[], by walk_at "ex", by walk_at "hp", upd_same, .nil, Nat.le_refl _⟩ (fun j H' _ h => by obtain ⟨acc, _, h1, _⟩ := h; exact sq_t h1) (fun j x H' hx h => ?_) (fun H' h => ?_)
    · obtain ⟨acc, x2, g1, g2, g3, g4⟩ := h
      obtain ⟨t, ht, ha⟩ := a2.get hx
      have htp := hTp t (List.mem_of_getElem? ht)
      have hjT : j < T.length := (List.getElem?_eq_some_iff.mp ht).1
      have hTl : T.length ≤ 4000 := by
        have := toks_len (tl z) 0
        rw [← hT, ← len_tl] at this
        omega
      obtain ⟨b, rfl, hb1⟩ := (ha.ext x2)
      walk_at "st"
      refine use_line_and_sign ⟨pre, by rw [len_tl]; omega⟩ fun c H2 x3 h3 => ?_
      walk_at "st"
      have e : decide (V.int ((((tl z).take t.p).count 10 : Nat) + 1) = V.int ((i : Int) + 1)) = decide (((tl z).take t.p).count 10 = i) := decide_eq_decide.mpr ⟨fun e => by injection e; omega, fun e => by rw [e]⟩
      rw [e]
      have k2 : H2 D = some (.lst acc) := x3 _ _ g2
      have k1 : H2 r = some (.tup M) := x3 _ _ g1
      have step : (T.take (j + 1)).filter (fun t => decide (((tl z).take t.p).count 10 = i)) = (T.take j).filter (fun t => decide (((tl z).take t.p).count 10 = i)) ++ (if ((tl z).take t.p).count 10 = i then [t] else []) := by
        rw [List.take_add_one, ht, List.filter_append]
        by_cases hy : ((tl z).take t.p).count 10 = i <;> simp [hy]
      refine w_if (fun hy => ?_) (fun hy => ?_)
      · rw [if_pos hy] at step
        walk_at "st"
        refine ⟨acc, k2, by rw [sizeLine_eq]; omega, acc ++ [.ref b], (x2.trans x3).up0 hD1 _, by walk_at "hp", upd_same, ?_, by simp; omega⟩
        rw [step]
        exact (g3.mono fun v t y => (y.ext x3).up k2).snoc (TokV.up ⟨b, rfl, x3 _ _ hb1⟩ k2)
      · rw [if_neg hy, List.append_nil] at step
        refine ⟨acc, x2.trans x3, k1, k2, ?_, by omega⟩
        rw [step]
        exact g3.mono fun v t y => y.ext x3
    · obtain ⟨acc, x2, g1, g2, g3, g4⟩ := h
      walk_at "st"
      intro c hc
      rw [hlM, List.take_length] at g3
      exact q1 c acc _ ((x1.trans x2).up hc _) hb upd_same (g3.mono fun v t y => y.ext (Ext.new hc _))
  · exact q2 p d H1 hb x1 h1
end
end K04

set_option Elab.async false
set_option linter.all false
set_option maxRecDepth 100000
set_option maxHeartbeats 2000000
set_option autoImplicit false
namespace K04
open PySem PySem.Spec PyProof.Rows L2 TN
open L2H (cxH RoomH)
local macro_rules | `(tactic| walk_at "nq") => `(tactic| first
  | assumption
  | (apply Ne.symm; assumption)
  | grind [upd])
local macro_rules | `(tactic| walk_at "hp") => `(tactic| first
  | assumption
  | exact upd_same
  | (refine up_next ?nq0 ?hp0; (case nq0 => walk_at "nq"); (case hp0 => walk_at "hp")))
local macro_rules | `(tactic| walk_at "ex") => `(tactic| first
  | assumption
  | exact Ext.rfl'
  | (refine Ext.up ?xa ?xb _; (case xb => assumption); (case xa => walk_at "ex"))
  | (refine Ext.up0 ?xa ?xb _; (case xb => assumption); (case xa => walk_at "ex"))
  | (refine Ext.trans ?xb ?xa; (case xb => assumption); (case xa => walk_at "ex")))
local macro_rules | `(tactic| walk_at "eb") => `(tactic| first
  | assumption
  | exact ExtB.rfl'
  | (refine ExtB.up ?xa ?xb _; (case xb => assumption); (case xa => walk_at "eb"))
  | (refine ExtB.up0 ?xa ?xb _; (case xb => assumption); (case xa => walk_at "eb"))
  | (refine ExtB.trans ?xb ?xa; (case xa => assumption); (case xb => walk_at "eb"))
  | (refine ExtB.trans ?xb (ExtB.of ?xa); (case xa => assumption); (case xb => walk_at "eb")))
local macro_rules | `(tactic| walk_at "bg") => `(tactic| first
  | assumption
  | (refine BagAt.up ?xa ?xb _; (case xb => assumption); (case xa => walk_at "bg"))
  | (refine BagAt.ext ?xb ?xa; (case xa => assumption); (case xb => walk_at "bg")))
local macro_rules | `(tactic| walk_at "sz") => `(tactic| first
  | assumption
  | decide
  | (simp only [sizeLine_eq, List.length_append, List.length_cons, List.length_nil, List.length_map] at *; omega))
local macro_rules | `(tactic| walk_at "ci") => `(tactic| first
  | exact m2 (by decide)
  | exact m1 (by decide)
  | exact m1 ⟨by omega, by omega⟩
  | (show (0 : Int) < _; first | decide | omega | assumption)
  | exact ⟨by first | decide | omega, by first | decide | omega⟩
  | exact ⟨by decide, by decide, by decide⟩)
local macro_rules | `(tactic| walk_at "s1") => `(tactic| first
  | (with_reducible refine s_seq ?_)
  | (with_reducible refine s_asg ?_)
  | (with_reducible refine s_gname ?_)
  | (with_reducible refine s_ret ?_)
  | (with_reducible refine s_retn ?_)
  | (with_reducible refine s_next ?_)
  | (with_reducible refine s_drop ?_)
  | (with_reducible refine s_ifs ?_)
  | (with_reducible refine s_par ?_)
  | (with_reducible refine s_two ?_)
  | ((with_reducible refine' s_var ?sv ?_); (case sv => rfl))
  | (with_reducible refine s_c ?_)
  | (with_reducible refine s_op ?_)
  | (with_reducible refine s_un ?_)
  | (with_reducible refine s_test ?_)
  | (with_reducible refine s_tb ?_)
  | (with_reducible refine s_bl ?_)
  | (with_reducible refine s_and ?_)
  | (with_reducible refine s_or ?_)
  | (with_reducible refine s_not ?_)
  | (with_reducible refine s_andv ?_)
  | (with_reducible refine s_orv ?_)
  | (with_reducible refine s_notv ?_)
  | (with_reducible refine s_if ?_)
  | (with_reducible refine s_nil ?_)
  | (with_reducible refine s_cons ?_)
  | (with_reducible refine s_tup ?_)
  | (with_reducible refine s_lst ?_)
  | ((with_reducible refine' s_few ?sv ?_); (case sv => rfl))
  | (with_reducible refine s_m0 ?_)
  | (with_reducible refine s_m1 ?_)
  | (with_reducible refine s_str ?_)
  | (with_reducible refine s_cb ?_)
  | (with_reducible refine s_calld ?_)
  | (with_reducible refine s_callw ?_)
  | (with_reducible refine s_callk ?_)
  | (with_reducible refine s_callkw ?_)
  | (with_reducible refine s_sl ?_)
  | (with_reducible refine s_part ?_)
  | (with_reducible refine s_nopart ?_)
  | (with_reducible refine s_int ?_)
  | (with_reducible refine s_i2 ?_)
  | (with_reducible refine s_addi ?_)
  | ((with_reducible refine' s_adds ?sv ?_); (case sv => walk_at "sz"))
  | ((with_reducible refine' s_eqs ?sv ?_); (case sv => rfl))
  | ((with_reducible refine' s_nes ?sv ?_); (case sv => rfl))
  | (with_reducible refine s_ins ?_)
  | ((with_reducible refine' s_lens ?sv ?_); (case sv => walk_at "sz"))
  | ((with_reducible refine' s_lenl ?sv ?_); (case sv => walk_at "hp"))
  | ((with_reducible refine' s_lent ?sv ?_); (case sv => walk_at "hp"))
  | ((with_reducible refine' s_sls ?sv ?_); (case sv => walk_at "sz"))
  | (with_reducible refine w_tt ?_)
  | (with_reducible refine w_ff ?_)
  | (with_reducible refine s_ex2 ?_)
  | (with_reducible refine s_bm ?_)
  | (with_reducible refine s_bm0 ?_)
  | (with_reducible refine s_tys ?_)
  | ((with_reducible refine' s_tyl ?sv ?_); (case sv => walk_at "hp"))
  | ((with_reducible refine' s_app ?sv ?sw ?_); (case sv => walk_at "hp"); (case sw => walk_at "sz"))
  | (with_reducible refine s_gsub ?_)
  | ((with_reducible refine' s_ixt ?sv ?sw ?_); (case sv => walk_at "hp"); (case sw => rfl))
  | ((with_reducible refine' s_ixl ?sv ?sw ?_); (case sv => walk_at "hp"); (case sw => rfl))
  | (with_reducible refine s_pnx ?_)
  | (with_reducible refine s_prt ?_)
  | (with_reducible refine s_turn ?_)
  | (with_reducible refine s_for ?_)
  | (with_reducible refine s_ilist ?_)
  | (with_reducible refine s_itup ?_)
  | (with_reducible refine s_rng1 ?_)
  | (with_reducible refine s_rng2 ?_)
  | (with_reducible refine s_isStr ?_)
  | (with_reducible refine n_isn ?_)
  | ((with_reducible refine' c_mulS ?sv ?sw ?su ?_); (case sv => rfl); (case sw => omega); (case su => omega))
  | ((with_reducible refine' s_isTup ?sv ?_); (case sv => walk_at "hp"))
  | ((with_reducible refine' s_extl ?sv ?sw ?su ?_); (case sv => walk_at "hp"); (case sw => walk_at "hp"); (case su => walk_at "sz"))
  | ((with_reducible refine' s_gseqT ?sv ?sw ?_); (case sv => walk_at "hp"); (case sw => rfl))
  | ((with_reducible refine' s_gseqL ?sv ?sw ?_); (case sv => walk_at "hp"); (case sw => rfl))
  | (with_reducible refine c_chain ?_)
  | ((with_reducible refine' s_rng1' ?sv ?sw ?_); (case sv => omega); (case sw => omega))
  | ((with_reducible refine' s_rng2' ?sv ?_); (case sv => refine ⟨?_, ?_, ?_, ?_⟩ <;> omega))
  | (with_reducible refine s_callx ?_)
  | ((with_reducible refine' w_t ?sv ?_); (case sv => rfl))
  | ((with_reducible refine' w_f ?sv ?_); (case sv => rfl))
  | ((with_reducible refine' x_one ?sv ?sw ?_); (case sv => walk_at "hp"); (case sw => assumption))
  | (with_reducible refine x_at ?_)
  | ((with_reducible refine' x_get ?sv ?sw ?_); (case sv => walk_at "hp"); (case sw => rfl))
  | ((with_reducible refine' s_addl ?sv ?sw ?su ?_); (case sv => walk_at "hp"); (case sw => walk_at "hp"); (case su => walk_at "sz"))
  | (with_reducible refine c_lrv ?_)
  | ((with_reducible refine' c_rvl ?sv ?_); (case sv => walk_at "hp"))
  | ((with_reducible refine' s_setl ?sv ?sw ?_); (case sv => walk_at "hp"); (case sw => rfl))
  | ((with_reducible refine' c_ri ?sv ?_); (case sv => walk_at "ci"))
  | ((with_reducible refine' c_mul ?sv ?_); (case sv => walk_at "ci"))
  | ((with_reducible refine' c_neNil ?sv ?sw ?_); (case sv => walk_at "hp"); (case sw => walk_at "hp"))
  | (with_reducible refine c_u ?_)
  | ((with_reducible refine' c_wipe ?sv ?_); (case sv => rfl))
  | ((with_reducible refine' s_gtup ?sv ?sw ?_); (case sv => walk_at "hp"); (case sw => rfl))
  | (with_reducible refine s_gcons ?_)
  | (with_reducible refine s_gnil ?_)
  | ((with_reducible refine' c_tupL ?sv ?_); (case sv => walk_at "hp"))
  | ((with_reducible refine' c_tupT ?sv ?_); (case sv => walk_at "hp"))
  | ((with_reducible refine' c_lstL ?sv ?_); (case sv => walk_at "hp"))
  | ((with_reducible refine' c_lstT ?sv ?_); (case sv => walk_at "hp"))
  | (with_reducible refine c_max ?_)
  | (with_reducible refine c_min ?_)
  | (with_reducible refine c_abs ?_)
  | (with_reducible refine c_int ?_)
  | (with_reducible refine c_intb ?_)
  | (with_reducible refine c_lrg ?_)
  | (with_reducible refine c_rg2 ?_)
  | (with_reducible refine c_ii ?_)
  | (with_reducible refine c_lc ?_)
  | ((with_reducible refine' c_seql' ?sv ?_); (case sv => walk_at "hp"))
  | ((with_reducible refine' c_seqt' ?sv ?_); (case sv => walk_at "hp"))
  | (with_reducible refine c_yes ?_)
  | ((with_reducible refine' s_sll ?sv ?_); (case sv => walk_at "hp"))
  | (with_reducible refine n_isr ?_)
  | (with_reducible refine n_isi ?_)
  | (with_reducible refine n_iss ?_)
  | (with_reducible refine n_non ?_)
  | (with_reducible refine n_nor ?_)
  | (with_reducible refine n_noi ?_)
  | (with_reducible refine n_nos ?_))
local macro_rules | `(tactic| walk_at "st") => `(tactic| repeat1' walk_at "s1")
section
variable {P : Program} {w : World} {K : PySem.W.Frag} {mg : Str → Option Value} {base : Heap}

/-! ## _law_bag -/
abbrev s__law_bag : Stmt := top 28
abbrev N__law_bag : List Str := ["script", "cells", "mixed", "cell"]
theorem sc__law_bag : FnScope ["script", "cells", "mixed", "cell"] ["script"] (defScope s__law_bag) := ⟨rfl, rfl, rfl, by decide +kernel, rfl, by decide +kernel, by decide +kernel⟩
def sp__law_bag (K : PySem.W.Frag) : Sp := fun vs H Q E => ∃ (a : Addr) (ns : List Int), vs = [.ref a] ∧ (SqL K H a (ns.map V.int) ∧ ns.length ≤ sizeLine) ∧ (∀ b l H', Ext H H' → H b = none → H l = none → BagAt b l H' → Q (.ref b) H')
theorem use__law_bag {K : PySem.W.Frag} {H : Hp} {Q : VK} {E : XK} {a : Addr} {ns : List Int} (pre : SqL K H a (ns.map V.int) ∧ ns.length ≤ sizeLine) (post : ∀ b l H', Ext H H' → H b = none → H l = none → BagAt b l H' → Q (.ref b) H') : sp__law_bag K [.ref a] H Q E := ⟨a, ns, rfl, pre, post⟩
theorem ok__law_bag (R : RawFn K mg "_law_bag" s__law_bag) (n_abs : mg "abs" = none) (n_int : mg "int" = none) (n_len : mg "len" = none) (n_list : mg "list" = none) (n_reversed : mg "reversed" = none) : DefOk P w K mg base CX0 "_law_bag" s__law_bag 1 ["script"] (sp__law_bag K) := by
  refine R.ok sc__law_bag (fun _ _ _ _ _ _ us hl => match us, hl with | [_], _ => rfl) (fun vs H Q E h => by obtain ⟨_, _, rfl, _⟩ := h; rfl) (fun f cdv A outer s H vs Q E hr h => ?_)
  have hu := units64 hr
  obtain ⟨a, ns, rfl, pre, q⟩ := h
  refine ⟨_, (pss_cons (ps_setLc (i := 1) (own := [("cell", 3)]) (g := gName 3) (tt := tYes) rfl sc__law_bag.nd rfl rfl (sw_true rfl rfl rfl (by decide +kernel)) (pi_seq (pe_slice sl_A (pv 0) po_none (po_some pe_int))) (blkOk_by (N := N__law_bag) (sc := defScope s__law_bag) (by decide +kernel)) (fun _ _ _ _ _ => pg_name (i := 3) sc__law_bag.nd rfl (Or.inl rfl)) (fun _ _ _ _ _ => pts_nil) (fun _ _ _ _ _ => (pe_op (op_addK K rfl) (pe_op op_mulA pe_int (pe_callB call_absN (by rfl) n_abs (by decide +kernel) (pa_cons (pv 3) pa_nil))) (pe_callTy call_intN (by rfl) n_int (by decide +kernel) (pa_cons (pe_cmpR op_lt (pv 3) pe_int (nomark _)) pa_nil)))))
      (pss_cons (ps_set (i := 2) sc__law_bag.nd rfl (Or.inl rfl) (pe_op op_addA pe_int (pe_op op_mulA pe_int (pe_callB call_lenA (by rfl) n_len (by decide +kernel) (pa_cons (pv 0) pa_nil)))))
      (pss_cons (ps_for PassesOwn.never rfl (pi_seq (pv 1)) (pg_name (i := 3) sc__law_bag.nd rfl (Or.inl rfl))
      (pss_one (ps_set (i := 2) sc__law_bag.nd rfl (Or.inl rfl) (pe_op op_mod (pe_op op_addA (pe_op op_addA (pe_op op_mulA (pv 2) pe_int) (pv 3)) pe_int) pe_int))))
      (pss_one (ps_ret (pe_lst (pa_cons (pe_listRev rfl n_list n_reversed (pe_callTy call_listOf (by rfl) n_list (by decide +kernel) (pa_cons (pv 1) pa_nil))) (pa_cons pe_int (pa_cons (pv 2) pa_nil))))))))), ?_⟩
  obtain ⟨ha, hn⟩ := pre
  walk_at "st"
  refine .inl ?_
  walk_at "st"
  refine .inl ⟨a, _, rfl, ha, fun c hc => ?_⟩
  rw [show (63 : Int) = ((63 : Nat) : Int) from rfl, cutV_to, ← List.map_take]
  obtain ⟨zs, hzs⟩ : ∃ zs, zs = ns.take 63 := ⟨_, rfl⟩
  have hzl : zs.length ≤ 63 := by rw [hzs, List.length_take]; omega
  rw [← hzs]
  walk_at "st"
  intro D hD
  have hcD : c ≠ D := by grind [upd]
  have hDn : H D = none := Ext.none (by walk_at "ex") hD
  refine lc_list (xs := zs.map V.int) (fun j H' => ∃ cs : List Int, Ext H H' ∧ H' c = some (.lst (zs.map V.int)) ∧ H' D = some (.lst (cs.map V.int)) ∧ (∀ x ∈ cs, 0 ≤ x) ∧ cs.length ≤ j) ⟨[], by walk_at "ex", by walk_at "hp", upd_same, by simp, Nat.le_refl _⟩ (fun j H' _ h => by obtain ⟨cs, h⟩ := h; exact sq_l h.2.1) (fun j x H' hx h => ?_) (fun H' h => ?_)
  · obtain ⟨cs, x1, h1, h2, h3, h4⟩ := h
    have hj : j < zs.length := by have := (List.getElem?_eq_some_iff.mp hx).1; rwa [List.length_map] at this
    rw [List.getElem?_map, List.getElem?_eq_getElem hj] at hx
    injection hx with hx
    subst hx
    walk_at "st"
    obtain ⟨y, hy⟩ : ∃ y, y = 2 * (if zs[j] < 0 then -zs[j] else zs[j]) + (if decide (zs[j] < 0) = true then 1 else 0) := ⟨_, rfl⟩
    have hy0 : 0 ≤ y := by rw [hy]; split <;> split <;> omega
    rw [← hy]
    refine ⟨_, h2, by rw [List.length_map, sizeLine_eq]; omega, cs ++ [y], x1.up0 hDn _, by walk_at "hp", ?_, ?_, by simp; omega⟩
    · rw [upd_same, List.map_append]; rfl
    · intro z hz
      rcases List.mem_append.mp hz with hz | hz
      · exact h3 z hz
      · have : z = y := by simpa using hz
        omega
  · obtain ⟨cs, x1, h1, h2, h3, h4⟩ := h
    have ha' := sqL_ext x1 ha
    walk_at "st"
    refine .inl ⟨a, _, rfl, .inl ha', ?_⟩
    walk_at "st"
    rw [List.length_map]
    refine .inl ?_
    walk_at "st"
    refine f_list (xs := cs.map V.int) (fun j σ H2 => ∃ (m : Int) (o : Option V), H2 = H' ∧ 0 ≤ m ∧ σ = [some (.ref a), some (.ref D), some (.int m), o]) ⟨_, _, rfl, ?_, rfl⟩ (fun j σ H2 h => by obtain ⟨_, _, e, _⟩ := h; rw [e]; exact sq_l h2) ?_ ?_
    · omega
    · rintro σ H2 ⟨m, o, rfl, hm, rfl⟩
      walk_at "st"
      intro d1 hd1
      have hDd1 : D ≠ d1 := by grind [upd]
      walk_at "st"
      intro d2 hd2
      have hd12 : d1 ≠ d2 := by grind [upd]
      walk_at "st"
      intro d3 hd3
      have hd23 : d2 ≠ d3 := by grind [upd]
      refine q d3 d2 _ (((x1.up hd1 _).up hd2 _).up hd3 _) (Ext.none ((x1.up hd1 _).up hd2 _) hd3) (Ext.none (x1.up hd1 _) hd2) ⟨cs.reverse, 0, m, upd_same, ?_, fun z hz => h3 z (List.mem_reverse.mp hz), Int.le_refl _, hm⟩
      rw [List.map_reverse]
      walk_at "hp"
    · rintro nx' fin j x σ H2 hx ⟨m, o, rfl, hm, rfl⟩
      have hj : j < cs.length := by have := (List.getElem?_eq_some_iff.mp hx).1; rwa [List.length_map] at this
      rw [List.getElem?_map, List.getElem?_eq_getElem hj] at hx
      injection hx with hx
      subst hx
      walk_at "st"
      exact ⟨_, _, rfl, Int.emod_nonneg _ (by decide), rfl⟩
/-! ## _law_draw -/
abbrev s__law_draw : Stmt := top 29
abbrev N__law_draw : List Str := ["bag", "below", "cell", "found"]
theorem sc__law_draw : FnScope ["bag", "below", "cell", "found"] ["bag", "below"] (defScope s__law_draw) := ⟨rfl, rfl, rfl, by decide +kernel, rfl, by decide +kernel, by decide +kernel⟩
def sp__law_draw (K : PySem.W.Frag) : Sp := fun vs H Q E => ∃ (b : Addr) (l : Addr) (n : Nat), vs = [.ref b, .int n] ∧ (BagAt b l H ∧ 0 < n ∧ n < 1073741824) ∧ (∀ (v : Nat) H', ExtB b l H H' → BagAt b l H' → v < n → Q (.int v) H')
theorem use__law_draw {K : PySem.W.Frag} {H : Hp} {Q : VK} {E : XK} {b : Addr} {l : Addr} {n : Nat} (pre : BagAt b l H ∧ 0 < n ∧ n < 1073741824) (post : ∀ (v : Nat) H', ExtB b l H H' → BagAt b l H' → v < n → Q (.int v) H') : sp__law_draw K [.ref b, .int n] H Q E := ⟨b, l, n, rfl, pre, post⟩
theorem ok__law_draw (R : RawFn K mg "_law_draw" s__law_draw) : DefOk P w K mg base CX0 "_law_draw" s__law_draw 1 ["bag", "below"] (sp__law_draw K) := by
  refine R.ok sc__law_draw (fun _ _ _ _ _ _ us hl => match us, hl with | [_, _], _ => rfl) (fun vs H Q E h => by obtain ⟨_, _, _, rfl, _⟩ := h; rfl) (fun f cdv A outer s H vs Q E hr h => ?_)
  have hu := units64 hr
  obtain ⟨b, l, n, rfl, pre, q⟩ := h
  refine ⟨_, (pss_cons (ps_while PassesOwn.never (PW.pt (pw_and (pt_cmpR (op_eqA hu) (pe_ix ix_seq (pv 0) pe_int (fun _ _ => rfl)) pe_int (nomark _)) (pw_and1 (pt_cmpR (op_neA hu) (pe_ix ix_seq (pv 0) pe_int (fun _ _ => rfl)) (pe_lst pa_nil) (nomark _)))))
      (pss_cons (ps_set (i := 2) sc__law_draw.nd rfl (Or.inl rfl) (pe_bm0 PySem.F.plainAttrs_list PySem.F.slot_list_pop PySem.F.type_list_pop mt_pop (pe_ix ix_seq (pv 0) pe_int (fun _ _ => rfl))))
      (pss_one (ps_asg (pe_ifExp (pt_cmpR op_gt (pv 2) (pe_op op_pow pe_int pe_int) (nomark _)) (pv 2) pe_int) (pg_sub (pv 0) pe_int set_list)))))
      (pss_cons (ps_if (pt_cmpR op_gt (pe_ix ix_seq (pv 0) pe_int (fun _ _ => rfl)) pe_int (nomark _))
      (pss_cons (ps_set (i := 3) sc__law_draw.nd rfl (Or.inl rfl) (pe_op op_mod (pe_ix ix_seq (pv 0) pe_int (fun _ _ => rfl)) (pv 1)))
      (pss_cons (ps_asg (pe_op op_fdiv (pe_ix ix_seq (pv 0) pe_int (fun _ _ => rfl)) (pv 1)) (pg_sub (pv 0) pe_int set_list))
      (pss_one (ps_ret (pv 3)))))
      pss_nil)
      (pss_cons (ps_asg (pe_op op_mod (pe_op op_addA (pe_op op_mulA (pe_ix ix_seq (pv 0) pe_int (fun _ _ => rfl)) pe_int) pe_int) pe_int) (pg_sub (pv 0) pe_int set_list))
      (pss_one (ps_ret (pe_op op_mod (pe_op op_fdiv (pe_op op_mod (pe_op op_mulA (pe_ix ix_seq (pv 0) pe_int (fun _ _ => rfl)) (pe_ix ix_seq (pv 0) pe_int (fun _ _ => rfl))) pe_int) pe_int) (pv 1))))))), ?_⟩
  obtain ⟨hB, hn0, hn1⟩ := pre
  have hbl := hB.ne
  walk_at "st"
  refine s_whileJ (fun m σ H' => ∃ (o1 o2 : Option V) (cells : List Int) (x y : Int), σ = [some (.ref b), some (.int n), o1, o2] ∧ ExtB b l H H' ∧ H' b = some (.lst [.ref l, .int x, .int y]) ∧ H' l = some (.lst (cells.map V.int)) ∧ (∀ c ∈ cells, 0 ≤ c) ∧ 0 ≤ x ∧ 0 ≤ y ∧ m = cells.length)
    (fun σ H' => ∃ (o1 o2 : Option V) (cells : List Int) (x y : Int), σ = [some (.ref b), some (.int n), o1, o2] ∧ ExtB b l H H' ∧ H' b = some (.lst [.ref l, .int x, .int y]) ∧ H' l = some (.lst (cells.map V.int)) ∧ (∀ c ∈ cells, 0 ≤ c) ∧ 0 ≤ x ∧ 0 ≤ y) ?_ ?_ ?_
  · obtain ⟨cells, x, y, h⟩ := hB.ex
    exact ⟨_, _, _, cells, x, y, rfl, ExtB.rfl', h.1, h.2.1, h.2.2.1, h.2.2.2.1, h.2.2.2.2, rfl⟩
  · rintro σ H1 ⟨o1, o2, cells, x, y, rfl, x1, h1, h2, h3, h4, h5⟩
    walk_at "st"
    refine w_if (fun hx => ?_) (fun hx => ?_)
    · walk_at "st"
      obtain ⟨v, hv, hvn⟩ := mod_nat (x := x) hn0
      rw [hv]
      refine q v _ (x1.upb _) ⟨cells, x / n, y, upd_same, by walk_at "hp", h3, Int.ediv_nonneg h4 (by omega), h5⟩ hvn
    · have m1 := Int.emod_nonneg (y * 48271 + 17) (show (2147483647 : Int) ≠ 0 by decide)
      have m2 := Int.emod_lt_of_pos (y * 48271 + 17) (show (0 : Int) < 2147483647 by decide)
      obtain ⟨y2, hy2⟩ : ∃ y2, y2 = (y * 48271 + 17) % 2147483647 := ⟨_, rfl⟩
      rw [← hy2] at m1 m2
      walk_at "st"
      rw [← hy2]
      obtain ⟨v, hv, hvn⟩ := mod_nat (x := y2 * y2 % 2147483629 / 11) hn0
      rw [hv]
      refine q v _ (x1.upb _) ⟨cells, x, y2, upd_same, by walk_at "hp", h3, h4, m1⟩ hvn
  · rintro nx' fin m σ H1 ⟨o1, o2, cells, x, y, rfl, x1, h1, h2, h3, h4, h5, rfl⟩
    walk_at "st"
    refine w_if (fun hx => ?_) (fun hx => ?_)
    · walk_at "st"
      intro e he
      have hbe : b ≠ e := by grind [upd]
      have hle : l ≠ e := by grind [upd]
      walk_at "st"
      refine w_ifn (fun hc => ?_) (fun hc => ?_)
      · obtain ⟨cs, c, rfl⟩ : ∃ cs c, cells = cs ++ [c] := ⟨cells.dropLast, cells.getLast hc, (List.dropLast_concat_getLast hc).symm⟩
        rw [List.map_append] at h2
        have hc0 : 0 ≤ c := h3 c (by simp)
        have hcs : ∀ d ∈ cs, 0 ≤ d := fun d hd => h3 d (by simp [hd])
        walk_at "st"
        refine s_pop (v := .int c) (xs := cs.map V.int) (by walk_at "hp") ?_
        walk_at "st"
        refine w_if (fun hb => ?_) (fun hb => ?_)
        · walk_at "st"
          exact ⟨_, (by simp : cs.length < (cs ++ [c]).length), _, _, cs, c, y, rfl, ((x1.up he _).upl _).upb _, upd_same, by walk_at "hp", hcs, hc0, h5, rfl⟩
        · walk_at "st"
          exact ⟨_, (by simp : cs.length < (cs ++ [c]).length), _, _, cs, 0, y, rfl, ((x1.up he _).upl _).upb _, upd_same, by walk_at "hp", hcs, Int.le_refl _, h5, rfl⟩
      · exact fin _ _ ⟨_, _, cells, x, y, rfl, x1.up he _, by walk_at "hp", by walk_at "hp", h3, h4, h5⟩
    · walk_at "st"
      exact fin _ _ ⟨_, _, cells, x, y, rfl, x1, h1, h2, h3, h4, h5⟩
end
end K04

set_option Elab.async false
set_option linter.all false
set_option maxRecDepth 100000
set_option maxHeartbeats 2000000
set_option autoImplicit false
namespace K04
open PySem PySem.Spec PyProof.Rows L2 TN
open L2H (cxH RoomH)
local macro_rules | `(tactic| walk_at "nq") => `(tactic| first
  | assumption
  | (apply Ne.symm; assumption)
  | grind [upd])
local macro_rules | `(tactic| walk_at "hp") => `(tactic| first
  | assumption
  | exact upd_same
  | (refine up_next ?nq0 ?hp0; (case nq0 => walk_at "nq"); (case hp0 => walk_at "hp")))
local macro_rules | `(tactic| walk_at "ex") => `(tactic| first
  | assumption
  | exact Ext.rfl'
  | (refine Ext.up ?xa ?xb _; (case xb => assumption); (case xa => walk_at "ex"))
  | (refine Ext.up0 ?xa ?xb _; (case xb => assumption); (case xa => walk_at "ex"))
  | (refine Ext.trans ?xb ?xa; (case xb => assumption); (case xa => walk_at "ex")))
local macro_rules | `(tactic| walk_at "eb") => `(tactic| first
  | assumption
  | exact ExtB.rfl'
  | (refine ExtB.up ?xa ?xb _; (case xb => assumption); (case xa => walk_at "eb"))
  | (refine ExtB.up0 ?xa ?xb _; (case xb => assumption); (case xa => walk_at "eb"))
  | (refine ExtB.trans ?xb ?xa; (case xa => assumption); (case xb => walk_at "eb"))
  | (refine ExtB.trans ?xb (ExtB.of ?xa); (case xa => assumption); (case xb => walk_at "eb")))
local macro_rules | `(tactic| walk_at "bg") => `(tactic| first
  | assumption
  | (refine BagAt.up ?xa ?xb _; (case xb => assumption); (case xa => walk_at "bg"))
  | (refine BagAt.ext ?xb ?xa; (case xa => assumption); (case xb => walk_at "bg")))
local macro_rules | `(tactic| walk_at "sz") => `(tactic| first
  | assumption
  | decide
  | (simp only [sizeLine_eq, List.length_append, List.length_cons, List.length_nil, List.length_map] at *; omega))
local macro_rules | `(tactic| walk_at "ci") => `(tactic| first
  | exact m2 (by decide)
  | exact m1 (by decide)
  | exact m1 ⟨by omega, by omega⟩
  | (show (0 : Int) < _; first | decide | omega | assumption)
  | exact ⟨by first | decide | omega, by first | decide | omega⟩
  | exact ⟨by decide, by decide, by decide⟩)
local macro_rules | `(tactic| walk_at "s1") => `(tactic| first
  | (with_reducible refine s_seq ?_)
  | (with_reducible refine s_asg ?_)
  | (with_reducible refine s_gname ?_)
  | (with_reducible refine s_ret ?_)
  | (with_reducible refine s_retn ?_)
  | (with_reducible refine s_next ?_)
  | (with_reducible refine s_drop ?_)
  | (with_reducible refine s_ifs ?_)
  | (with_reducible refine s_par ?_)
  | (with_reducible refine s_two ?_)
  | ((with_reducible refine' s_var ?sv ?_); (case sv => rfl))
  | (with_reducible refine s_c ?_)
  | (with_reducible refine s_op ?_)
  | (with_reducible refine s_un ?_)
  | (with_reducible refine s_test ?_)
  | (with_reducible refine s_tb ?_)
  | (with_reducible refine s_bl ?_)
  | (with_reducible refine s_and ?_)
  | (with_reducible refine s_or ?_)
  | (with_reducible refine s_not ?_)
  | (with_reducible refine s_andv ?_)
  | (with_reducible refine s_orv ?_)
  | (with_reducible refine s_notv ?_)
  | (with_reducible refine s_if ?_)
  | (with_reducible refine s_nil ?_)
  | (with_reducible refine s_cons ?_)
  | (with_reducible refine s_tup ?_)
  | (with_reducible refine s_lst ?_)
  | ((with_reducible refine' s_few ?sv ?_); (case sv => rfl))
  | (with_reducible refine s_m0 ?_)
  | (with_reducible refine s_m1 ?_)
  | (with_reducible refine s_str ?_)
  | (with_reducible refine s_cb ?_)
  | (with_reducible refine s_calld ?_)
  | (with_reducible refine s_callw ?_)
  | (with_reducible refine s_callk ?_)
  | (with_reducible refine s_callkw ?_)
  | (with_reducible refine s_sl ?_)
  | (with_reducible refine s_part ?_)
  | (with_reducible refine s_nopart ?_)
  | (with_reducible refine s_int ?_)
  | (with_reducible refine s_i2 ?_)
  | (with_reducible refine s_addi ?_)
  | ((with_reducible refine' s_adds ?sv ?_); (case sv => walk_at "sz"))
  | ((with_reducible refine' s_eqs ?sv ?_); (case sv => rfl))
  | ((with_reducible refine' s_nes ?sv ?_); (case sv => rfl))
  | (with_reducible refine s_ins ?_)
  | ((with_reducible refine' s_lens ?sv ?_); (case sv => walk_at "sz"))
  | ((with_reducible refine' s_lenl ?sv ?_); (case sv => walk_at "hp"))
  | ((with_reducible refine' s_lent ?sv ?_); (case sv => walk_at "hp"))
  | ((with_reducible refine' s_sls ?sv ?_); (case sv => walk_at "sz"))
  | (with_reducible refine w_tt ?_)
  | (with_reducible refine w_ff ?_)
  | (with_reducible refine s_ex2 ?_)
  | (with_reducible refine s_bm ?_)
  | (with_reducible refine s_bm0 ?_)
  | (with_reducible refine s_tys ?_)
  | ((with_reducible refine' s_tyl ?sv ?_); (case sv => walk_at "hp"))
  | ((with_reducible refine' s_app ?sv ?sw ?_); (case sv => walk_at "hp"); (case sw => walk_at "sz"))
  | (with_reducible refine s_gsub ?_)
  | ((with_reducible refine' s_ixt ?sv ?sw ?_); (case sv => walk_at "hp"); (case sw => rfl))
  | ((with_reducible refine' s_ixl ?sv ?sw ?_); (case sv => walk_at "hp"); (case sw => rfl))
  | (with_reducible refine s_pnx ?_)
  | (with_reducible refine s_prt ?_)
  | (with_reducible refine s_turn ?_)
  | (with_reducible refine s_for ?_)
  | (with_reducible refine s_ilist ?_)
  | (with_reducible refine s_itup ?_)
  | (with_reducible refine s_rng1 ?_)
  | (with_reducible refine s_rng2 ?_)
  | (with_reducible refine s_isStr ?_)
  | (with_reducible refine n_isn ?_)
  | ((with_reducible refine' c_mulS ?sv ?sw ?su ?_); (case sv => rfl); (case sw => omega); (case su => omega))
  | ((with_reducible refine' s_isTup ?sv ?_); (case sv => walk_at "hp"))
  | ((with_reducible refine' s_extl ?sv ?sw ?su ?_); (case sv => walk_at "hp"); (case sw => walk_at "hp"); (case su => walk_at "sz"))
  | ((with_reducible refine' s_gseqT ?sv ?sw ?_); (case sv => walk_at "hp"); (case sw => rfl))
  | ((with_reducible refine' s_gseqL ?sv ?sw ?_); (case sv => walk_at "hp"); (case sw => rfl))
  | (with_reducible refine c_chain ?_)
  | ((with_reducible refine' s_rng1' ?sv ?sw ?_); (case sv => omega); (case sw => omega))
  | ((with_reducible refine' s_rng2' ?sv ?_); (case sv => refine ⟨?_, ?_, ?_, ?_⟩ <;> omega))
  | (with_reducible refine s_callx ?_)
  | ((with_reducible refine' w_t ?sv ?_); (case sv => rfl))
  | ((with_reducible refine' w_f ?sv ?_); (case sv => rfl))
  | ((with_reducible refine' x_one ?sv ?sw ?_); (case sv => walk_at "hp"); (case sw => assumption))
  | (with_reducible refine x_at ?_)
  | ((with_reducible refine' x_get ?sv ?sw ?_); (case sv => walk_at "hp"); (case sw => rfl))
  | ((with_reducible refine' s_addl ?sv ?sw ?su ?_); (case sv => walk_at "hp"); (case sw => walk_at "hp"); (case su => walk_at "sz"))
  | (with_reducible refine c_lrv ?_)
  | ((with_reducible refine' c_rvl ?sv ?_); (case sv => walk_at "hp"))
  | ((with_reducible refine' s_setl ?sv ?sw ?_); (case sv => walk_at "hp"); (case sw => rfl))
  | ((with_reducible refine' c_ri ?sv ?_); (case sv => walk_at "ci"))
  | ((with_reducible refine' c_mul ?sv ?_); (case sv => walk_at "ci"))
  | ((with_reducible refine' c_neNil ?sv ?sw ?_); (case sv => walk_at "hp"); (case sw => walk_at "hp"))
  | (with_reducible refine c_u ?_)
  | ((with_reducible refine' c_wipe ?sv ?_); (case sv => rfl))
  | ((with_reducible refine' s_gtup ?sv ?sw ?_); (case sv => walk_at "hp"); (case sw => rfl))
  | (with_reducible refine s_gcons ?_)
  | (with_reducible refine s_gnil ?_)
  | ((with_reducible refine' c_tupL ?sv ?_); (case sv => walk_at "hp"))
  | ((with_reducible refine' c_tupT ?sv ?_); (case sv => walk_at "hp"))
  | ((with_reducible refine' c_lstL ?sv ?_); (case sv => walk_at "hp"))
  | ((with_reducible refine' c_lstT ?sv ?_); (case sv => walk_at "hp"))
  | (with_reducible refine c_max ?_)
  | (with_reducible refine c_min ?_)
  | (with_reducible refine c_abs ?_)
  | (with_reducible refine c_int ?_)
  | (with_reducible refine c_intb ?_)
  | (with_reducible refine c_lrg ?_)
  | (with_reducible refine c_rg2 ?_)
  | (with_reducible refine c_ii ?_)
  | (with_reducible refine c_lc ?_)
  | ((with_reducible refine' c_seql' ?sv ?_); (case sv => walk_at "hp"))
  | ((with_reducible refine' c_seqt' ?sv ?_); (case sv => walk_at "hp"))
  | (with_reducible refine c_yes ?_)
  | ((with_reducible refine' s_sll ?sv ?_); (case sv => walk_at "hp"))
  | (with_reducible refine n_isr ?_)
  | (with_reducible refine n_isi ?_)
  | (with_reducible refine n_iss ?_)
  | (with_reducible refine n_non ?_)
  | (with_reducible refine n_nor ?_)
  | (with_reducible refine n_noi ?_)
  | (with_reducible refine n_nos ?_))
local macro_rules | `(tactic| walk_at "st") => `(tactic| repeat1' walk_at "s1")
section
variable {P : Program} {w : World} {K : PySem.W.Frag} {mg : Str → Option Value} {base : Heap}

/-! ## _law_pick -/
abbrev s__law_pick : Stmt := top 30
abbrev N__law_pick : List Str := ["bag", "some"]
theorem sc__law_pick : FnScope ["bag", "some"] ["bag", "some"] (defScope s__law_pick) := ⟨rfl, rfl, rfl, by decide +kernel, rfl, by decide +kernel, by decide +kernel⟩
def sp__law_pick (K : PySem.W.Frag) : Sp := fun vs H Q E => ∃ (b : Addr) (l : Addr) (a : Addr) (xs : List V), vs = [.ref b, .ref a] ∧ (BagAt b l H ∧ H a = some (.lst xs) ∧ a ≠ b ∧ a ≠ l ∧ xs ≠ [] ∧ xs.length ≤ 1000000) ∧ (∀ x H', x ∈ xs → ExtB b l H H' → BagAt b l H' → Q x H')
theorem use__law_pick {K : PySem.W.Frag} {H : Hp} {Q : VK} {E : XK} {b : Addr} {l : Addr} {a : Addr} {xs : List V} (pre : BagAt b l H ∧ H a = some (.lst xs) ∧ a ≠ b ∧ a ≠ l ∧ xs ≠ [] ∧ xs.length ≤ 1000000) (post : ∀ x H', x ∈ xs → ExtB b l H H' → BagAt b l H' → Q x H') : sp__law_pick K [.ref b, .ref a] H Q E := ⟨b, l, a, xs, rfl, pre, post⟩
theorem ok__law_pick (R : RawFn K mg "_law_pick" s__law_pick) (d__law_draw : DefOk P w K mg base CX0 "_law_draw" s__law_draw 1 ["bag", "below"] (sp__law_draw K)) (n_len : mg "len" = none) : DefOk P w K mg base CX0 "_law_pick" s__law_pick 2 ["bag", "some"] (sp__law_pick K) := by
  refine R.ok sc__law_pick (fun _ _ _ _ _ _ us hl => match us, hl with | [_, _], _ => rfl) (fun vs H Q E h => by obtain ⟨_, _, _, _, rfl, _⟩ := h; rfl) (fun f cdv A outer s H vs Q E hr h => ?_)
  have hu := units64 hr
  obtain ⟨b, l, a, xs, rfl, pre, q⟩ := h
  refine ⟨_, (pss_one (ps_ret (pe_ix ix_seq (pv 1) (pe_callD (E := E0) d__law_draw (hr.mono (by decide)) pass0 (pa_cons (pv 0) (pa_cons (pe_callB call_lenA (by rfl) n_len (by decide +kernel) (pa_cons (pv 1) pa_nil)) pa_nil))) (fun _ _ => rfl)))), ?_⟩
  obtain ⟨hB, ha, n1, n2, hx, hl⟩ := pre
  have hl0 : 0 < xs.length := List.length_pos_iff.mpr hx
  walk_at "st"
  refine use__law_draw (l := l) ⟨hB, hl0, by omega⟩ fun v H' x1 B1 hv => ?_
  refine s_ixl (x1 _ _ n1 n2 ha) (atI_nat' (List.getElem?_eq_getElem hv)) ?_
  exact q _ _ (List.getElem_mem hv) x1 B1
/-! ## _law_how -/
abbrev s__law_how : Stmt := top 31
abbrev N__law_how : List Str := ["error", "found"]
theorem sc__law_how : FnScope ["error", "found"] ["error"] (defScope s__law_how) := ⟨rfl, rfl, rfl, by decide +kernel, rfl, by decide +kernel, by decide +kernel⟩
def sp__law_how (K : PySem.W.Frag) (a_BadText : Addr) : SpX := fun a cls d vs H Q E => ∃ (p : Nat), vs = [.ref a] ∧ (cls = .ref a_BadText ∧ ∃ dd, d = some dd ∧ H dd = some (.xd [("place", .int p)])) ∧ (∀ v H', Ext H H' → Dh H' v (.list [.str "refused", .bool false, .bool false, .bool true, .int p]) → Q v H')
theorem use__law_how {K : PySem.W.Frag} {a : Addr} {cls : Value} {d : Option Addr} {H : Hp} {Q : VK} {E : XK} {a_BadText : Addr} {p : Nat} (pre : cls = .ref a_BadText ∧ ∃ dd, d = some dd ∧ H dd = some (.xd [("place", .int p)])) (post : ∀ v H', Ext H H' → Dh H' v (.list [.str "refused", .bool false, .bool false, .bool true, .int p]) → Q v H') : sp__law_how K a_BadText a cls d [.ref a] H Q E := ⟨p, rfl, pre, post⟩
theorem ok__law_how (R : RawFn K mg "_law_how" s__law_how) {a_BadCode : Addr} {a_BadLog : Addr} {a_BadProgram : Addr} {a_BadSetting : Addr} {a_BadText : Addr} {a_NothingToUndo : Addr} {a_Refused : Addr} {a_TooMany : Addr} {a_Unfit : Addr} (c_BadCode : GlobV mg "BadCode" (.ref a_BadCode)) (c_BadLog : GlobV mg "BadLog" (.ref a_BadLog)) (c_BadProgram : GlobV mg "BadProgram" (.ref a_BadProgram)) (c_BadSetting : GlobV mg "BadSetting" (.ref a_BadSetting)) (c_BadText : GlobV mg "BadText" (.ref a_BadText)) (c_NothingToUndo : GlobV mg "NothingToUndo" (.ref a_NothingToUndo)) (c_Refused : GlobV mg "Refused" (.ref a_Refused)) (c_TooMany : GlobV mg "TooMany" (.ref a_TooMany)) (c_Unfit : GlobV mg "Unfit" (.ref a_Unfit)) (n_isinstance : mg "isinstance" = none) (no_BadText_limit : PySem.W.findIn K (.ref a_BadText) "limit" = some none) (no_BadText_place : PySem.W.findIn K (.ref a_BadText) "place" = some none) (x_BadText : ExcCls K a_BadText) (k_any : PySem.W.kitAny K (.ref a_BadText) ([a_BadProgram, a_BadCode, a_BadSetting, a_Refused, a_BadLog, a_NothingToUndo].map Value.ref) = some false) (k_Unfit : PySem.W.kitOne K (.ref a_BadText) (.ref a_Unfit) = some false) (k_TooMany : PySem.W.kitOne K (.ref a_BadText) (.ref a_TooMany) = some false) (k_BadText : PySem.W.kitOne K (.ref a_BadText) (.ref a_BadText) = some true) : DefX P w K mg base "_law_how" s__law_how 1 ["error"] (sp__law_how K a_BadText) := by
  refine R.okH sc__law_how (fun _ _ _ _ _ _ us hl => match us, hl with | [_], _ => rfl) (fun f cdv A outer s H vs Q p cls d hz hf hr h => ?_)
  obtain ⟨a, oe⟩ := p
  have hp : (a, oe) ∈ (cxH CX0 P w K mg base N__law_how "_law_how" (defScope s__law_how) f cdv A outer s H E0 (a, oe)).pn := List.mem_cons_self
  obtain ⟨p, rfl, pre, q⟩ := h
  obtain ⟨rfl, dd, rfl, hdd⟩ := pre
  refine ⟨_, (pss_cons (ps_if (pt_val (pe_callB (call_isX x_BadText hp hz hf) (by rfl) n_isinstance (by decide +kernel) (pa_cons (pv 0) (pa_cons (pe_tup (pa_cons (pe_gv c_BadProgram) (pa_cons (pe_gv c_BadCode) (pa_cons (pe_gv c_BadSetting) (pa_cons (pe_gv c_Refused) (pa_cons (pe_gv c_BadLog) (pa_cons (pe_gv c_NothingToUndo) pa_nil))))))) pa_nil))))
      (pss_one (ps_ret (pe_lst (pa_cons pe_str pa_nil))))
      pss_nil)
      (pss_cons (ps_set (i := 1) sc__law_how.nd rfl (Or.inl rfl) (pe_lst (pa_cons pe_str (pa_cons (pe_callB (call_isX x_BadText hp hz hf) (by rfl) n_isinstance (by decide +kernel) (pa_cons (pv 0) (pa_cons (pe_gv c_Unfit) pa_nil))) (pa_cons (pe_callB (call_isX x_BadText hp hz hf) (by rfl) n_isinstance (by decide +kernel) (pa_cons (pv 0) (pa_cons (pe_gv c_TooMany) pa_nil))) (pa_cons (pe_callB (call_isX x_BadText hp hz hf) (by rfl) n_isinstance (by decide +kernel) (pa_cons (pv 0) (pa_cons (pe_gv c_BadText) pa_nil))) pa_nil))))))
      (pss_cons (ps_if (pt_val (pe_ix ix_seq (pv 1) pe_int (fun _ _ => rfl)))
      (pss_one (ps_expr (pe_bm PySem.F.plainAttrs_list PySem.F.slot_list_append PySem.F.type_list_append mt_append (pv 1) (pa_cons (pe_xn x_BadText hp hz hf no_BadText_limit (pv 0)) pa_nil))))
      pss_nil)
      (pss_one (ps_ret (pe_ifExp (pt_val (pe_ix ix_seq (pv 1) pe_int (fun _ _ => rfl))) (pe_op op_addA (pv 1) (pe_lst (pa_cons (pe_xn x_BadText hp hz hf no_BadText_place (pv 0)) pa_nil))) (pv 1))))))), ?_⟩
  dsimp only at q ⊢
  walk_at "st"
  intro t ht
  have hdt : dd ≠ t := by grind [upd]
  walk_at "st"
  refine x_any (cs := [a_BadProgram, a_BadCode, a_BadSetting, a_Refused, a_BadLog, a_NothingToUndo]) (fs := [("place", .int (p : Int))]) (by walk_at "hp") upd_same k_any ?_
  walk_at "st"
  intro r hr'
  have hdr : dd ≠ r := by grind [upd]
  walk_at "st"
  intro r2 hr2
  have hdr2 : dd ≠ r2 := by grind [upd]
  have hrr2 : r ≠ r2 := by grind [upd]
  walk_at "st"
  intro r3 hr3
  have hrr3 : r ≠ r3 := by grind [upd]
  refine q _ _ (by walk_at "ex") (.lst upd_same (.cons (.str _) (.cons (.bl _) (.cons (.bl _) (.cons (.bl _) (.cons (.int _) .nil))))))
def tokD (t : Tok) : PyData := .tuple [.str t.k, .str (mk t.w), .int (t.p : Nat)]
theorem tok_dp {H : Hp} {v : V} {t : Tok} (h : TokV H v t) : Dh H v (tokD t) := by
  obtain ⟨a, rfl, h⟩ := h
  exact .tup h (.cons (.str _) (.cons (.str _) (.cons (.int _) .nil)))
theorem toks_dp {H : Hp} {vs : List V} {ts : List Tok} (h : All2 (TokV H) vs ts) : All2 (Dh H) vs (ts.map tokD) := by
  induction h with
  | nil => exact .nil
  | cons r _ ih => exact .cons (tok_dp r) ih
theorem list_ref {H : Hp} {v : V} {ds : List PyData} (h : Dh H v (.list ds)) : ∃ b, v = .ref b := by cases h; exact ⟨_, rfl⟩
def tokensOn (l : List Nat) (i : Nat) : List Tok := (toks l 0).1.filter fun t => decide ((l.take t.p).count 10 = i)
/-- what is asked and what it answers: a value, or the place of bad text -/
inductive AskV : Str → List V → PyData ⊕ Nat → Prop
  | number (z : Str) : okS z → z.length ≤ 4000 → AskV "number" [.str z] (.inl (.int (((tl z).count 10 : Nat) + 1)))
  | line (z : Str) (i : Nat) (h : List Nat) : okS z → z.length ≤ 4000 → (parted 10 (tl z))[i]? = some h → AskV "line" [.str z, .int ((i : Int) + 1)] (.inl (.str (mk h)))
  | spot (z : Str) (p : Nat) : okS z → z.length ≤ 4000 → p ≤ z.length → AskV "spot" [.str z, .int p] (.inl (.tuple [.int ((((tl z).take p).count 10 : Nat) + 1), .int ((p : Int) - (begins (parted 10 (tl z)) (((tl z).take p).count 10) : Nat) + 1)]))
  | good (z : Str) (i : Nat) : okS z → z.length ≤ 4000 → i ≤ 4000 → (toks (tl z) 0).2 = none → AskV "tokens" [.str z, .int ((i : Int) + 1)] (.inl (.tuple ((tokensOn (tl z) i).map tokD)))
  | bad (z : Str) (i p : Nat) : okS z → z.length ≤ 4000 → i ≤ 4000 → (toks (tl z) 0).2 = some p → AskV "tokens" [.str z, .int ((i : Int) + 1)] (.inr p)
  | place (z : Str) (i : Nat) (s : Int) : okS z → 0 ≤ s → s ≤ 10000 → z.length ≤ 4000 → i ≤ (parted 10 (tl z)).length → AskV "place" [.str z, .int ((i : Int) + 1), .int s] (.inl (.int ((begins (parted 10 (tl z)) i : Nat) + s - 1)))
/-! ## _law_call -/
abbrev s__law_call : Stmt := top 32
abbrev N__law_call : List Str := ["word", "some", "is_named"]
theorem sc__law_call : FnScope ["word", "some", "is_named"] ["word", "some", "is_named"] (defScope s__law_call) := ⟨rfl, rfl, rfl, by decide +kernel, rfl, by decide +kernel, by decide +kernel⟩
def sp__law_call (K : PySem.W.Frag) (a_BadText : Addr) : Sp := fun vs H Q E => ∃ (x : Str) (a : Addr) (xs : List V) (n : Bool) (r : PyData ⊕ Nat), vs = [.str x, .ref a, .bl n] ∧ (H a = some (.lst xs) ∧ AskV x xs r) ∧ ((∀ d v H', r = .inl d → Ext H H' → Dh H' v d → Q v H') ∧ (∀ p d H', r = .inr p → Ext H H' → H' d = some (.xd [("place", .int (p : Nat))]) → E (.ref a_BadText) (some d) H'))
theorem use__law_call {K : PySem.W.Frag} {H : Hp} {Q : VK} {E : XK} {a_BadText : Addr} {x : Str} {a : Addr} {xs : List V} {n : Bool} {r : PyData ⊕ Nat} (pre : H a = some (.lst xs) ∧ AskV x xs r) (post : (∀ d v H', r = .inl d → Ext H H' → Dh H' v d → Q v H') ∧ (∀ p d H', r = .inr p → Ext H H' → H' d = some (.xd [("place", .int (p : Nat))]) → E (.ref a_BadText) (some d) H')) : sp__law_call K a_BadText [.str x, .ref a, .bl n] H Q E := ⟨x, a, xs, n, r, rfl, pre, post⟩
theorem ok__law_call (R : RawFn K mg "_law_call" s__law_call) {a_BadText : Addr} (d_line_and_sign : DefOk P w K mg base CX0 "line_and_sign" s_line_and_sign 1 ["value", "place"] (sp_line_and_sign K)) (d_line_of : DefOk P w K mg base CX0 "line_of" s_line_of 1 ["value", "line"] (sp_line_of K)) (d_lines_number : DefOk P w K mg base CX0 "lines_number" s_lines_number 1 ["value"] (sp_lines_number K)) (d_place_of : DefOk P w K mg base CX0 "place_of" s_place_of 1 ["value", "line", "sign"] (sp_place_of K)) (d_tokens_on : DefOk P w K mg base (L2.CX P w) "tokens_on" s_tokens_on 5 ["value", "line"] (sp_tokens_on K a_BadText)) : DefOk P w K mg base (L2.CX P w) "_law_call" s__law_call 6 ["word", "some", "is_named"] (sp__law_call K a_BadText) := by
  refine R.okX sc__law_call (fun _ _ _ _ _ _ us hl => match us, hl with | [_, _, _], _ => rfl) (fun vs H Q E h => by obtain ⟨_, _, _, _, _, rfl, _⟩ := h; rfl) (fun f cdv A outer s H vs Q E hr h => ?_)
  have hu := units64 hr
  obtain ⟨x, a, xs, n, r, rfl, pre, q⟩ := h
  have tk : Takes (cxOf (L2.CX P w) P w K mg base N__law_call "_law_call" (defScope s__law_call) f cdv A outer s H E) (fun cls d _ H => E cls d H) := takes_of rfl rfl rfl rfl
  refine ⟨_, (pss_cons (ps_if (pt_cmpR (op_eqA hu) (pv 0) pe_str (nomark _))
      (pss_one (ps_ret (pe_ifExp (pt_val (pv 2)) (pe_callKw (ks := ["value"]) (g := (fun vs => match vs with | [v0] => [v0] | _ => [])) (gu := (fun vs => match vs with | [v0] => [v0] | _ => [])) (E := E0) d_lines_number (hr.mono (by decide)) pass0 (pk_cons (pe_ix ix_seq (pv 1) pe_int (fun _ _ => rfl)) pk_nil) (fun {zs ws} r hl => match zs, ws, r, hl with | [_], _, (.cons r0 .nil), _ => (.cons r0 .nil)) (fun _ _ _ _ _ _ ws hl => match ws, hl with | [_], _ => rfl)) (pe_callD (E := E0) d_lines_number (hr.mono (by decide)) pass0 (pa_cons (pe_ix ix_seq (pv 1) pe_int (fun _ _ => rfl)) pa_nil)))))
      pss_nil)
      (pss_cons (ps_if (pt_cmpR (op_eqA hu) (pv 0) pe_str (nomark _))
      (pss_one (ps_ret (pe_ifExp (pt_val (pv 2)) (pe_callKw (ks := ["line", "value"]) (g := (fun vs => match vs with | [v0, v1] => [v1, v0] | _ => [])) (gu := (fun vs => match vs with | [v0, v1] => [v1, v0] | _ => [])) (E := E0) d_line_of (hr.mono (by decide)) pass0 (pk_cons (pe_ix ix_seq (pv 1) pe_int (fun _ _ => rfl)) (pk_cons (pe_ix ix_seq (pv 1) pe_int (fun _ _ => rfl)) pk_nil)) (fun {zs ws} r hl => match zs, ws, r, hl with | [_, _], _, (.cons r0 (.cons r1 .nil)), _ => (.cons r1 (.cons r0 .nil))) (fun _ _ _ _ _ _ ws hl => match ws, hl with | [_, _], _ => rfl)) (pe_callD (E := E0) d_line_of (hr.mono (by decide)) pass0 (pa_cons (pe_ix ix_seq (pv 1) pe_int (fun _ _ => rfl)) (pa_cons (pe_ix ix_seq (pv 1) pe_int (fun _ _ => rfl)) pa_nil))))))
      pss_nil)
      (pss_cons (ps_if (pt_cmpR (op_eqA hu) (pv 0) pe_str (nomark _))
      (pss_one (ps_ret (pe_ifExp (pt_val (pv 2)) (pe_callKw (ks := ["place", "value"]) (g := (fun vs => match vs with | [v0, v1] => [v1, v0] | _ => [])) (gu := (fun vs => match vs with | [v0, v1] => [v1, v0] | _ => [])) (E := E0) d_line_and_sign (hr.mono (by decide)) pass0 (pk_cons (pe_ix ix_seq (pv 1) pe_int (fun _ _ => rfl)) (pk_cons (pe_ix ix_seq (pv 1) pe_int (fun _ _ => rfl)) pk_nil)) (fun {zs ws} r hl => match zs, ws, r, hl with | [_, _], _, (.cons r0 (.cons r1 .nil)), _ => (.cons r1 (.cons r0 .nil))) (fun _ _ _ _ _ _ ws hl => match ws, hl with | [_, _], _ => rfl)) (pe_callD (E := E0) d_line_and_sign (hr.mono (by decide)) pass0 (pa_cons (pe_ix ix_seq (pv 1) pe_int (fun _ _ => rfl)) (pa_cons (pe_ix ix_seq (pv 1) pe_int (fun _ _ => rfl)) pa_nil))))))
      pss_nil)
      (pss_cons (ps_if (pt_cmpR (op_eqA hu) (pv 0) pe_str (nomark _))
      (pss_one (ps_ret (pe_ifExp (pt_val (pv 2)) (pe_callKwW (ks := ["line", "value"]) (g := (fun vs => match vs with | [v0, v1] => [v1, v0] | _ => [])) (gu := (fun vs => match vs with | [v0, v1] => [v1, v0] | _ => [])) tk d_tokens_on (hr.mono (by decide)) (pk_cons (pe_ix ix_seq (pv 1) pe_int (fun _ _ => rfl)) (pk_cons (pe_ix ix_seq (pv 1) pe_int (fun _ _ => rfl)) pk_nil)) (fun {zs ws} r hl => match zs, ws, r, hl with | [_, _], _, (.cons r0 (.cons r1 .nil)), _ => (.cons r1 (.cons r0 .nil))) (fun _ _ _ _ _ _ ws hl => match ws, hl with | [_, _], _ => rfl)) (pe_callW tk d_tokens_on (hr.mono (by decide)) (pa_cons (pe_ix ix_seq (pv 1) pe_int (fun _ _ => rfl)) (pa_cons (pe_ix ix_seq (pv 1) pe_int (fun _ _ => rfl)) pa_nil))))))
      pss_nil)
      (pss_cons (ps_if (pt_val (pv 2))
      (pss_one (ps_ret (pe_callKw (ks := ["sign", "line", "value"]) (g := (fun vs => match vs with | [v0, v1, v2] => [v2, v1, v0] | _ => [])) (gu := (fun vs => match vs with | [v0, v1, v2] => [v2, v1, v0] | _ => [])) (E := E0) d_place_of (hr.mono (by decide)) pass0 (pk_cons (pe_ix ix_seq (pv 1) pe_int (fun _ _ => rfl)) (pk_cons (pe_ix ix_seq (pv 1) pe_int (fun _ _ => rfl)) (pk_cons (pe_ix ix_seq (pv 1) pe_int (fun _ _ => rfl)) pk_nil))) (fun {zs ws} r hl => match zs, ws, r, hl with | [_, _, _], _, (.cons r0 (.cons r1 (.cons r2 .nil))), _ => (.cons r2 (.cons r1 (.cons r0 .nil)))) (fun _ _ _ _ _ _ ws hl => match ws, hl with | [_, _, _], _ => rfl))))
      pss_nil)
      (pss_one (ps_ret (pe_callD (E := E0) d_place_of (hr.mono (by decide)) pass0 (pa_cons (pe_ix ix_seq (pv 1) pe_int (fun _ _ => rfl)) (pa_cons (pe_ix ix_seq (pv 1) pe_int (fun _ _ => rfl)) (pa_cons (pe_ix ix_seq (pv 1) pe_int (fun _ _ => rfl)) pa_nil))))))))))), ?_⟩
  obtain ⟨ha, hr'⟩ := pre
  obtain ⟨q1, q2⟩ := q
  cases hr' with
  | number z ho hz =>
    have q3 : Q (.int (((tl z).count 10 : Nat) + 1)) H := q1 _ _ H rfl Ext.rfl' (.int _)
    cases n
    · walk_at "st"
      exact use_lines_number trivial q3
    · walk_at "st"
      exact ⟨rfl, use_lines_number trivial q3⟩
  | line z i h ho hz hh =>
    have hi := (List.getElem?_eq_some_iff.mp hh).1
    have q3 : ∀ h' H', (parted 10 (tl z))[i]? = some h' → Ext H H' → Q (.str (mk h')) H' := fun h' H' e x => by rw [hh] at e; injection e with e; subst e; exact q1 _ _ H' rfl x (.str _)
    cases n
    · walk_at "st"
      exact use_line_of ⟨hz, hi⟩ q3
    · walk_at "st"
      exact ⟨rfl, use_line_of ⟨hz, hi⟩ q3⟩
  | spot z p ho hz hp =>
    have q3 := fun a' H' (x : Ext H H') (e : H' a' = some (.tup [.int ((((tl z).take p).count 10 : Nat) + 1), .int ((p : Int) - (begins (parted 10 (tl z)) (((tl z).take p).count 10) : Nat) + 1)])) => q1 _ (.ref a') H' rfl x (.tup e (.cons (.int _) (.cons (.int _) .nil)))
    cases n
    · walk_at "st"
      exact use_line_and_sign ⟨hz, hp⟩ q3
    · walk_at "st"
      exact ⟨rfl, use_line_and_sign ⟨hz, hp⟩ q3⟩
  | good z i ho hz hi hg =>
    have q3 := fun q' L H' (x : Ext H H') (_ : (toks (tl z) 0).2 = none) (e : H' q' = some (.tup L)) (al : All2 (TokV H') L (tokensOn (tl z) i)) => q1 _ (.ref q') H' rfl x (.tup e (dh_all (toks_dp al)))
    have q4 := fun (p : Nat) d H' (e : (toks (tl z) 0).2 = some p) (x : Ext H H') (hd : H' d = some (.xd [("place", .int (p : Nat))])) => (show E (.ref a_BadText) (some d) H' from by rw [hg] at e; cases e)
    cases n
    · walk_at "st"
      exact use_tokens_on hz ⟨q3, q4⟩
    · walk_at "st"
      exact ⟨rfl, use_tokens_on hz ⟨q3, q4⟩⟩
  | bad z i p ho hz hi hg =>
    have q3 := fun q' L H' (x : Ext H H') (e0 : (toks (tl z) 0).2 = none) (e : H' q' = some (.tup L)) (al : All2 (TokV H') L (tokensOn (tl z) i)) => (show Q (.ref q') H' from by rw [hg] at e0; cases e0)
    have q4 := fun (p' : Nat) d H' (e : (toks (tl z) 0).2 = some p') (x : Ext H H') (hd : H' d = some (.xd [("place", .int (p' : Nat))])) => q2 p' d H' (by rw [hg] at e; injection e with e; rw [e]) x hd
    cases n
    · walk_at "st"
      exact use_tokens_on hz ⟨q3, q4⟩
    · walk_at "st"
      exact ⟨rfl, use_tokens_on hz ⟨q3, q4⟩⟩
  | place z i s ho h0 h1 hz hi =>
    have q3 := fun H' (x : Ext H H') => q1 _ _ H' rfl x (.int _)
    cases n
    · walk_at "st"
      exact use_place_of ⟨hz, hi⟩ q3
    · walk_at "st"
      exact ⟨rfl, use_place_of ⟨hz, hi⟩ q3⟩
def toldD : PyData ⊕ Nat → PyData
  | .inl d => .list [.str "told", d]
  | .inr p => .list [.str "refused", .bool false, .bool false, .bool true, .int (p : Nat)]
theorem okS_small {l : List Nat} (h : ∀ c ∈ l, c < 128) {z : Str} (e : tl z = l) : okS z := fun c hc => by have := h c (e ▸ hc); omega
theorem tok_sh {l : List Nat} {t : Tok} (hl : l.length ≤ 4000) (h : t ∈ (toks l 0).1) : Sh (tokD t) 1 60 := by
  obtain ⟨⟨h1, h2⟩, h3, h4⟩ := toks_small l 0 t h
  have h5 := toks_at l 0 t h
  refine .tuple (.cons (.str (n := 8) (okS_small h2 rfl) (by rw [len_tl]; exact h1)) (.cons (.str (n := 8) (okS_small h4 rfl) (by rw [len_tl]; exact h3)) (.one (.int' (n := 41) (by omega) (by omega) (Nat.le_refl _)) (Nat.le_refl _)) (Nat.le_refl _)) (Nat.le_refl _))
/-- what is asked and answered is shown by repr -/
theorem ask_sh {x : Str} {xs : List V} {r : PyData ⊕ Nat} (h : AskV x xs r) : Sh (toldD r) 4 300000 ∧ ∃ ds, (∀ H, All2 (Dp K H) xs ds) ∧ Sh (.list ds) 1 10000 := by
  have told : ∀ {d : PyData} {n : Nat}, Sh d 3 n → n ≤ 290000 → Sh (.list [.str "told", d]) 4 300000 := fun {d n} h hn => .list (.cons (.str (n := 4) (okS_small (l := tl "told") (by decide) rfl) (by decide)) (.one h (Nat.le_refl _)) (by omega))
  have int3 : ∀ {k : Nat} {i : Int}, -100000 ≤ i → i ≤ 100000 → Sh (.int i) k 41 := fun h1 h2 => .int' (by omega) (by omega) (Nat.le_refl _)
  have S : ∀ {z : Str} {k : Nat}, okS z → z.length ≤ 4000 → Sh (.str z) k 4000 := fun h1 h2 => .str h1 h2
  have A1 : ∀ {z : Str}, okS z → z.length ≤ 4000 → Sh (.list [.str z]) 1 10000 := fun h1 h2 => .list (.one (S h1 h2) (by omega))
  have A2 : ∀ {z : Str} {i : Int}, okS z → z.length ≤ 4000 → -100000 ≤ i → i ≤ 100000 → Sh (.list [.str z, .int i]) 1 10000 := fun h1 h2 h3 h4 => .list (.cons (S h1 h2) (.one (int3 h3 h4) (Nat.le_refl _)) (by omega))
  have A3 : ∀ {z : Str} {i j : Int}, okS z → z.length ≤ 4000 → -100000 ≤ i → i ≤ 100000 → -100000 ≤ j → j ≤ 100000 → Sh (.list [.str z, .int i, .int j]) 1 10000 := fun h1 h2 h3 h4 h5 h6 => .list (.cons (S h1 h2) (.cons (int3 h3 h4) (.one (int3 h5 h6) (Nat.le_refl _)) (Nat.le_refl _)) (by omega))
  cases h with
  | number z ho hz =>
    have hc : (tl z).count 10 ≤ (tl z).length := List.count_le_length
    rw [← len_tl] at hc
    exact ⟨told (int3 (by omega) (by omega)) (by omega), _, fun H => .cons (.str _) .nil, A1 ho hz⟩
  | line z i h ho hz hh =>
    have hi := (List.getElem?_eq_some_iff.mp hh).1
    rw [parted_length] at hi
    have hc : (tl z).count 10 ≤ (tl z).length := List.count_le_length
    rw [← len_tl] at hc
    have hm := List.mem_of_getElem? hh
    have hl := part_le hm
    rw [← len_tl] at hl
    refine ⟨told (.str (n := 4000) (fun c hc => ho c (part_mem hm hc)) (by rw [len_tl, tl_mk]; omega)) (by omega), _, fun H => .cons (.str _) (.cons (.int _) .nil), A2 ho hz (by omega) (by omega)⟩
  | spot z p ho hz hp =>
    have hp' : p ≤ (tl z).length := by rw [← len_tl]; exact hp
    have sp := spot 10 (tl z) p hp'
    have hc : ((tl z).take p).count 10 ≤ ((tl z).take p).length := List.count_le_length
    rw [List.length_take] at hc
    have := sp.lo
    exact ⟨told (.mono (.tuple (.cons (int3 (by omega) (by omega)) (.one (int3 (by omega) (by omega)) (Nat.le_refl _)) (Nat.le_refl _))) (by decide : 1 ≤ 3) (Nat.le_refl _)) (by omega), _, fun H => .cons (.str _) (.cons (.int _) .nil), A2 ho hz (by omega) (by omega)⟩
  | good z i ho hz hi hg =>
    have hl : (tl z).length ≤ 4000 := by rw [← len_tl]; exact hz
    have hn : (tokensOn (tl z) i).length ≤ 4000 := by
      have h1 := toks_len (tl z) 0
      have h2 : (tokensOn (tl z) i).length ≤ (toks (tl z) 0).1.length := List.length_filter_le _ _
      omega
    have T : Sh (.tuple ((tokensOn (tl z) i).map tokD)) 2 _ := .tuple (.all (k := 1) (n := 60) fun d hd => by
      obtain ⟨t, ht, rfl⟩ := List.mem_map.mp hd
      exact tok_sh hl (List.mem_filter.mp ht).1)
    rw [List.length_map] at T
    exact ⟨told (T.mono (by decide : 2 ≤ 3) (Nat.le_refl _)) (by omega), _, fun H => .cons (.str _) (.cons (.int _) .nil), A2 ho hz (by omega) (by omega)⟩
  | bad z i p ho hz hi hg =>
    have hb := toks_bad_lt (tl z) 0 p hg
    rw [← len_tl] at hb
    refine ⟨.mono (.list (k := 0) (.cons (.str (n := 7) (okS_small (l := tl "refused") (by decide) rfl) (by decide)) (.cons (n := 0) .bool (.cons (n := 0) .bool (.cons (n := 0) .bool (.one (int3 (by omega) (by omega)) (Nat.le_refl _)) (Nat.le_refl _)) (Nat.le_refl _)) (Nat.le_refl _)) (Nat.le_refl _))) (by decide : 1 ≤ 4) (by decide), _, fun H => .cons (.str _) (.cons (.int _) .nil), A2 ho hz (by omega) (by omega)⟩
  | place z i s ho h0 h1 hz hi =>
    rw [parted_length] at hi
    have hc : (tl z).count 10 ≤ (tl z).length := List.count_le_length
    rw [← len_tl] at hc
    have hb : begins (parted 10 (tl z)) i ≤ (tl z).length + 1 := by
      rw [← parted_total 10 (tl z)]
      exact begins_mono _ (by rw [parted_length]; exact hi)
    rw [← len_tl] at hb
    exact ⟨told (int3 (by omega) (by omega)) (by omega), _, fun H => .cons (.str _) (.cons (.int _) (.cons (.int _) .nil)), A3 ho hz (by omega) (by omega) (by omega) (by omega)⟩
/-! ## _law_told -/
abbrev s__law_told : Stmt := top 33
abbrev N__law_told : List Str := ["word", "some", "is_named", "error"]
theorem sc__law_told : FnScope ["word", "some", "is_named", "error"] ["word", "some", "is_named"] (defScope s__law_told) := ⟨rfl, rfl, rfl, by decide +kernel, rfl, by decide +kernel, by decide +kernel⟩
def sp__law_told (K : PySem.W.Frag) : Sp := fun vs H Q E => ∃ (x : Str) (a : Addr) (xs : List V) (n : Bool) (r : PyData ⊕ Nat), vs = [.str x, .ref a, .bl n] ∧ (H a = some (.lst xs) ∧ AskV x xs r) ∧ (∀ b H', Ext H H' → Dh H' (.ref b) (toldD r) → Q (.ref b) H')
theorem use__law_told {K : PySem.W.Frag} {H : Hp} {Q : VK} {E : XK} {x : Str} {a : Addr} {xs : List V} {n : Bool} {r : PyData ⊕ Nat} (pre : H a = some (.lst xs) ∧ AskV x xs r) (post : ∀ b H', Ext H H' → Dh H' (.ref b) (toldD r) → Q (.ref b) H') : sp__law_told K [.str x, .ref a, .bl n] H Q E := ⟨x, a, xs, n, r, rfl, pre, post⟩
theorem ok__law_told (R : RawFn K mg "_law_told" s__law_told) {a_BadText : Addr} {a_TrustError : Addr} (c_TrustError : GlobV mg "TrustError" (.ref a_TrustError)) (d__law_call : DefOk P w K mg base (L2.CX P w) "_law_call" s__law_call 6 ["word", "some", "is_named"] (sp__law_call K a_BadText)) (d__law_how : DefX P w K mg base "_law_how" s__law_how 1 ["error"] (sp__law_how K a_BadText)) (names_TrustError : mg "TrustError" = some (.ref a_TrustError)) (m_BadText : PySem.W.exmOne K (.ref a_BadText) (.ref a_TrustError) = some true) : DefOk P w K mg base CX0 "_law_told" s__law_told 7 ["word", "some", "is_named"] (sp__law_told K) := by
  refine R.ok sc__law_told (fun _ _ _ _ _ _ us hl => match us, hl with | [_, _, _], _ => rfl) (fun vs H Q E h => by obtain ⟨_, _, _, _, _, rfl, _⟩ := h; rfl) (fun f cdv A outer s H vs Q E hr h => ?_)
  have hu := units64 hr
  obtain ⟨x, a, xs, n, r, rfl, pre, q⟩ := h
  refine ⟨_, (pss_one (ps_try_as (i := 3) rfl rfl sc__law_told.nd rfl rfl ⟨rfl, by decide, .inl names_TrustError⟩ takes0 (fun W pn xe tk po => (pss_one (ps_ret (pe_lst (pa_cons pe_str (pa_cons (pe_callW tk d__law_call (hr.mono (by decide)) (pa_cons (pv 0) (pa_cons (pv 1) (pa_cons (pv 2) pa_nil)))) pa_nil))))))
      (fun a oe cls d pn hz hf => (pss_one (ps_ret (pe_callX List.mem_cons_self hz hf d__law_how ⟨(RoomG.mono (j := 1) hr (by decide)).r.dp, (RoomG.mono (j := 1) hr (by decide)).r.un⟩ (pa_cons (pv 3) pa_nil))))))), ?_⟩
  obtain ⟨ha, hr0⟩ := pre
  walk_at "st"
  refine use__law_call ⟨ha, hr0⟩ ⟨fun d v H1 hA x1 hd => ?_, fun p dd H1 hA x1 hdd => ?_⟩
  · subst hA
    walk_at "st"
    intro t ht
    exact q _ _ (x1.up ht _) (.lst upd_same (.cons (.str _) (.cons (hd.ext (Ext.new ht _)) .nil)))
  · subst hA
    refine ⟨true, m_BadText, fun _ c hc => ?_, fun z => by cases z⟩
    walk_at "st"
    refine ⟨rfl, use__law_how ⟨rfl, dd, rfl, hdd⟩ fun v H2 x2 hv => ?_⟩
    obtain ⟨b, rfl⟩ := list_ref hv
    exact q _ _ (x1.trans x2) hv
end
end K04

set_option Elab.async false
set_option linter.all false
set_option maxRecDepth 100000
set_option maxHeartbeats 2000000
set_option autoImplicit false
namespace K04
open PySem PySem.Spec PyProof.Rows L2 TN
open L2H (cxH RoomH)
local macro_rules | `(tactic| walk_at "nq") => `(tactic| first
  | assumption
  | (apply Ne.symm; assumption)
  | grind [upd])
local macro_rules | `(tactic| walk_at "hp") => `(tactic| first
  | assumption
  | exact upd_same
  | (refine up_next ?nq0 ?hp0; (case nq0 => walk_at "nq"); (case hp0 => walk_at "hp")))
local macro_rules | `(tactic| walk_at "ex") => `(tactic| first
  | assumption
  | exact Ext.rfl'
  | (refine Ext.up ?xa ?xb _; (case xb => assumption); (case xa => walk_at "ex"))
  | (refine Ext.up0 ?xa ?xb _; (case xb => assumption); (case xa => walk_at "ex"))
  | (refine Ext.trans ?xb ?xa; (case xb => assumption); (case xa => walk_at "ex")))
local macro_rules | `(tactic| walk_at "eb") => `(tactic| first
  | assumption
  | exact ExtB.rfl'
  | (refine ExtB.up ?xa ?xb _; (case xb => assumption); (case xa => walk_at "eb"))
  | (refine ExtB.up0 ?xa ?xb _; (case xb => assumption); (case xa => walk_at "eb"))
  | (refine ExtB.trans ?xb ?xa; (case xa => assumption); (case xb => walk_at "eb"))
  | (refine ExtB.trans ?xb (ExtB.of ?xa); (case xa => assumption); (case xb => walk_at "eb")))
local macro_rules | `(tactic| walk_at "bg") => `(tactic| first
  | assumption
  | (refine BagAt.up ?xa ?xb _; (case xb => assumption); (case xa => walk_at "bg"))
  | (refine BagAt.ext ?xb ?xa; (case xa => assumption); (case xb => walk_at "bg")))
local macro_rules | `(tactic| walk_at "sz") => `(tactic| first
  | assumption
  | decide
  | (simp only [sizeLine_eq, List.length_append, List.length_cons, List.length_nil, List.length_map] at *; omega))
local macro_rules | `(tactic| walk_at "ci") => `(tactic| first
  | exact m2 (by decide)
  | exact m1 (by decide)
  | exact m1 ⟨by omega, by omega⟩
  | (show (0 : Int) < _; first | decide | omega | assumption)
  | exact ⟨by first | decide | omega, by first | decide | omega⟩
  | exact ⟨by decide, by decide, by decide⟩)
local macro_rules | `(tactic| walk_at "s1") => `(tactic| first
  | (with_reducible refine s_seq ?_)
  | (with_reducible refine s_asg ?_)
  | (with_reducible refine s_gname ?_)
  | (with_reducible refine s_ret ?_)
  | (with_reducible refine s_retn ?_)
  | (with_reducible refine s_next ?_)
  | (with_reducible refine s_drop ?_)
  | (with_reducible refine s_ifs ?_)
  | (with_reducible refine s_par ?_)
  | (with_reducible refine s_two ?_)
  | ((with_reducible refine' s_var ?sv ?_); (case sv => rfl))
  | (with_reducible refine s_c ?_)
  | (with_reducible refine s_op ?_)
  | (with_reducible refine s_un ?_)
  | (with_reducible refine s_test ?_)
  | (with_reducible refine s_tb ?_)
  | (with_reducible refine s_bl ?_)
  | (with_reducible refine s_and ?_)
  | (with_reducible refine s_or ?_)
  | (with_reducible refine s_not ?_)
  | (with_reducible refine s_andv ?_)
  | (with_reducible refine s_orv ?_)
  | (with_reducible refine s_notv ?_)
  | (with_reducible refine s_if ?_)
  | (with_reducible refine s_nil ?_)
  | (with_reducible refine s_cons ?_)
  | (with_reducible refine s_tup ?_)
  | (with_reducible refine s_lst ?_)
  | ((with_reducible refine' s_few ?sv ?_); (case sv => rfl))
  | (with_reducible refine s_m0 ?_)
  | (with_reducible refine s_m1 ?_)
  | (with_reducible refine s_str ?_)
  | (with_reducible refine s_cb ?_)
  | (with_reducible refine s_calld ?_)
  | (with_reducible refine s_callw ?_)
  | (with_reducible refine s_callk ?_)
  | (with_reducible refine s_callkw ?_)
  | (with_reducible refine s_sl ?_)
  | (with_reducible refine s_part ?_)
  | (with_reducible refine s_nopart ?_)
  | (with_reducible refine s_int ?_)
  | (with_reducible refine s_i2 ?_)
  | (with_reducible refine s_addi ?_)
  | ((with_reducible refine' s_adds ?sv ?_); (case sv => walk_at "sz"))
  | ((with_reducible refine' s_eqs ?sv ?_); (case sv => rfl))
  | ((with_reducible refine' s_nes ?sv ?_); (case sv => rfl))
  | (with_reducible refine s_ins ?_)
  | ((with_reducible refine' s_lens ?sv ?_); (case sv => walk_at "sz"))
  | ((with_reducible refine' s_lenl ?sv ?_); (case sv => walk_at "hp"))
  | ((with_reducible refine' s_lent ?sv ?_); (case sv => walk_at "hp"))
  | ((with_reducible refine' s_sls ?sv ?_); (case sv => walk_at "sz"))
  | (with_reducible refine w_tt ?_)
  | (with_reducible refine w_ff ?_)
  | (with_reducible refine s_ex2 ?_)
  | (with_reducible refine s_bm ?_)
  | (with_reducible refine s_bm0 ?_)
  | (with_reducible refine s_tys ?_)
  | ((with_reducible refine' s_tyl ?sv ?_); (case sv => walk_at "hp"))
  | ((with_reducible refine' s_app ?sv ?sw ?_); (case sv => walk_at "hp"); (case sw => walk_at "sz"))
  | (with_reducible refine s_gsub ?_)
  | ((with_reducible refine' s_ixt ?sv ?sw ?_); (case sv => walk_at "hp"); (case sw => rfl))
  | ((with_reducible refine' s_ixl ?sv ?sw ?_); (case sv => walk_at "hp"); (case sw => rfl))
  | (with_reducible refine s_pnx ?_)
  | (with_reducible refine s_prt ?_)
  | (with_reducible refine s_turn ?_)
  | (with_reducible refine s_for ?_)
  | (with_reducible refine s_ilist ?_)
  | (with_reducible refine s_itup ?_)
  | (with_reducible refine s_rng1 ?_)
  | (with_reducible refine s_rng2 ?_)
  | (with_reducible refine s_isStr ?_)
  | (with_reducible refine n_isn ?_)
  | ((with_reducible refine' c_mulS ?sv ?sw ?su ?_); (case sv => rfl); (case sw => omega); (case su => omega))
  | ((with_reducible refine' s_isTup ?sv ?_); (case sv => walk_at "hp"))
  | ((with_reducible refine' s_extl ?sv ?sw ?su ?_); (case sv => walk_at "hp"); (case sw => walk_at "hp"); (case su => walk_at "sz"))
  | ((with_reducible refine' s_gseqT ?sv ?sw ?_); (case sv => walk_at "hp"); (case sw => rfl))
  | ((with_reducible refine' s_gseqL ?sv ?sw ?_); (case sv => walk_at "hp"); (case sw => rfl))
  | (with_reducible refine c_chain ?_)
  | ((with_reducible refine' s_rng1' ?sv ?sw ?_); (case sv => omega); (case sw => omega))
  | ((with_reducible refine' s_rng2' ?sv ?_); (case sv => refine ⟨?_, ?_, ?_, ?_⟩ <;> omega))
  | (with_reducible refine s_callx ?_)
  | ((with_reducible refine' w_t ?sv ?_); (case sv => rfl))
  | ((with_reducible refine' w_f ?sv ?_); (case sv => rfl))
  | ((with_reducible refine' x_one ?sv ?sw ?_); (case sv => walk_at "hp"); (case sw => assumption))
  | (with_reducible refine x_at ?_)
  | ((with_reducible refine' x_get ?sv ?sw ?_); (case sv => walk_at "hp"); (case sw => rfl))
  | ((with_reducible refine' s_addl ?sv ?sw ?su ?_); (case sv => walk_at "hp"); (case sw => walk_at "hp"); (case su => walk_at "sz"))
  | (with_reducible refine c_lrv ?_)
  | ((with_reducible refine' c_rvl ?sv ?_); (case sv => walk_at "hp"))
  | ((with_reducible refine' s_setl ?sv ?sw ?_); (case sv => walk_at "hp"); (case sw => rfl))
  | ((with_reducible refine' c_ri ?sv ?_); (case sv => walk_at "ci"))
  | ((with_reducible refine' c_mul ?sv ?_); (case sv => walk_at "ci"))
  | ((with_reducible refine' c_neNil ?sv ?sw ?_); (case sv => walk_at "hp"); (case sw => walk_at "hp"))
  | (with_reducible refine c_u ?_)
  | ((with_reducible refine' c_wipe ?sv ?_); (case sv => rfl))
  | ((with_reducible refine' s_gtup ?sv ?sw ?_); (case sv => walk_at "hp"); (case sw => rfl))
  | (with_reducible refine s_gcons ?_)
  | (with_reducible refine s_gnil ?_)
  | ((with_reducible refine' c_tupL ?sv ?_); (case sv => walk_at "hp"))
  | ((with_reducible refine' c_tupT ?sv ?_); (case sv => walk_at "hp"))
  | ((with_reducible refine' c_lstL ?sv ?_); (case sv => walk_at "hp"))
  | ((with_reducible refine' c_lstT ?sv ?_); (case sv => walk_at "hp"))
  | (with_reducible refine c_max ?_)
  | (with_reducible refine c_min ?_)
  | (with_reducible refine c_abs ?_)
  | (with_reducible refine c_int ?_)
  | (with_reducible refine c_intb ?_)
  | (with_reducible refine c_lrg ?_)
  | (with_reducible refine c_rg2 ?_)
  | (with_reducible refine c_ii ?_)
  | (with_reducible refine c_lc ?_)
  | ((with_reducible refine' c_seql' ?sv ?_); (case sv => walk_at "hp"))
  | ((with_reducible refine' c_seqt' ?sv ?_); (case sv => walk_at "hp"))
  | (with_reducible refine c_yes ?_)
  | ((with_reducible refine' s_sll ?sv ?_); (case sv => walk_at "hp"))
  | (with_reducible refine n_isr ?_)
  | (with_reducible refine n_isi ?_)
  | (with_reducible refine n_iss ?_)
  | (with_reducible refine n_non ?_)
  | (with_reducible refine n_nor ?_)
  | (with_reducible refine n_noi ?_)
  | (with_reducible refine n_nos ?_))
local macro_rules | `(tactic| walk_at "st") => `(tactic| repeat1' walk_at "s1")
section
variable {P : Program} {w : World} {K : PySem.W.Frag} {mg : Str → Option Value} {base : Heap}

/-! ## _law_is -/
abbrev s__law_is : Stmt := top 34
abbrev N__law_is : List Str := ["word", "some", "due", "is_named", "shown", "right"]
theorem sc__law_is : FnScope ["word", "some", "due", "is_named", "shown", "right"] ["word", "some", "due"] (defScope s__law_is) := ⟨rfl, rfl, rfl, by decide +kernel, rfl, by decide +kernel, by decide +kernel⟩
def sp__law_is (K : PySem.W.Frag) : Sp := fun vs H Q E => ∃ (x : Str) (a : Addr) (xs : List V) (b : Addr) (r : PyData ⊕ Nat), vs = [.str x, .ref a, .ref b] ∧ (H a = some (.lst xs) ∧ AskV x xs r ∧ Dp K H (.ref b) (toldD r)) ∧ (∀ H', Ext H H' → Q (.bl true) H')
theorem use__law_is {K : PySem.W.Frag} {H : Hp} {Q : VK} {E : XK} {x : Str} {a : Addr} {xs : List V} {b : Addr} {r : PyData ⊕ Nat} (pre : H a = some (.lst xs) ∧ AskV x xs r ∧ Dp K H (.ref b) (toldD r)) (post : ∀ H', Ext H H' → Q (.bl true) H') : sp__law_is K [.str x, .ref a, .ref b] H Q E := ⟨x, a, xs, b, r, rfl, pre, post⟩
theorem ok__law_is (R : RawFn K mg "_law_is" s__law_is) (d__law_told : DefOk P w K mg base CX0 "_law_told" s__law_told 7 ["word", "some", "is_named"] (sp__law_told K)) (n_repr : mg "repr" = none) : DefOk P w K mg base CX0 "_law_is" s__law_is 8 ["word", "some", "due"] (sp__law_is K) := by
  refine R.ok sc__law_is (fun _ _ _ _ _ _ us hl => match us, hl with | [_, _, _], _ => rfl) (fun vs H Q E h => by obtain ⟨_, _, _, _, _, rfl, _⟩ := h; rfl) (fun f cdv A outer s H vs Q E hr h => ?_)
  have hu := units64 hr
  obtain ⟨x, a, xs, b, r, rfl, pre, q⟩ := h
  refine ⟨_, (pss_cons (ps_par (i := 4) (j := 5) rfl sc__law_is.nd rfl rfl (by decide) rfl rfl (pa_cons (pe_callB (call_reprD hr.g hu) (by rfl) n_repr (by decide +kernel) (pa_cons (pv 1) pa_nil)) (pa_cons (pe_callB (call_reprD hr.g hu) (by rfl) n_repr (by decide +kernel) (pa_cons (pv 2) pa_nil)) pa_nil)) (by rfl))
      (pss_cons (ps_for PassesOwn.never rfl (pi_tup (pe_tup (pa_cons pe_bl (pa_cons pe_bl pa_nil)))) (pg_name (i := 3) sc__law_is.nd rfl (Or.inl rfl))
      (pss_one (ps_if (pt_cmpR (op_neA hu) (pe_callB (call_reprD hr.g hu) (by rfl) n_repr (by decide +kernel) (pa_cons (pe_callD (E := E0) d__law_told (hr.mono (by decide)) pass0 (pa_cons (pv 0) (pa_cons (pv 1) (pa_cons (pv 3) pa_nil)))) pa_nil)) (pv 5) (nomark _))
      (pss_one (ps_ret pe_bl))
      pss_nil)))
      (pss_one (ps_ret (pe_cmpR (op_eqA hu) (pe_callB (call_reprD hr.g hu) (by rfl) n_repr (by decide +kernel) (pa_cons (pv 1) pa_nil)) (pv 4) (nomark _)))))), ?_⟩
  obtain ⟨ha, hA, hd⟩ := pre
  obtain ⟨hs, ds, hds, hs2⟩ := ask_sh (K := K) hA
  have hD : ∀ H', Ext H H' → Dp K H' (.ref a) (.list ds) := fun H' x => .lst (sq_l (x _ _ ha)) (dp_all (hds H'))
  walk_at "st"
  refine c_repr (hD H Ext.rfl') hs2 (by decide) (by decide) ?_
  walk_at "st"
  refine c_repr hd hs (by decide) (by decide) ?_
  walk_at "st"
  intro p hp
  walk_at "st"
  have haH : ∀ H', Ext H H' → H' a = some (.lst xs) := fun H' x => x _ _ ha
  refine f_tup (xs := [.bl false, .bl true]) (fun i σ H' => ∃ o, σ = [some (.str x), some (.ref a), some (.ref b), o, some (.str (PyData.list ds).shown), some (.str (toldD r).shown)] ∧ Ext H H' ∧ H' p = some (.tup [.bl false, .bl true]))
    ⟨_, rfl, by walk_at "ex", upd_same⟩ (fun i σ H' h => by obtain ⟨o, _, _, h⟩ := h; exact sq_t h) ?_ ?_
  · rintro σ H' ⟨o, rfl, x1, h1⟩
    walk_at "st"
    refine c_repr (hD H' x1) hs2 (by decide) (by decide) ?_
    walk_at "st"
    rw [decide_eq_true rfl]
    exact q H' x1
  · rintro nx' fin i y σ H' hy ⟨o, rfl, x1, h1⟩
    obtain ⟨n, rfl⟩ : ∃ n, y = .bl n := by
      have := List.mem_of_getElem? hy
      simp only [List.mem_cons, List.not_mem_nil, or_false] at this
      exact this.elim (fun e => ⟨_, e⟩) fun e => ⟨_, e⟩
    walk_at "st"
    refine use__law_told ⟨haH H' x1, hA⟩ fun c H2 x2 hc => ?_
    walk_at "st"
    refine c_repr hc.dp hs (by decide) (by decide) ?_
    walk_at "st"
    rw [decide_eq_true rfl]
    walk_at "st"
    exact ⟨_, rfl, x1.trans x2, x2 _ _ h1⟩
/-! ## _law_words -/
abbrev s__law_words : Stmt := top 35
abbrev N__law_words : List Str := []
theorem sc__law_words : FnScope [] [] (defScope s__law_words) := ⟨rfl, rfl, rfl, by decide +kernel, rfl, by decide +kernel, by decide +kernel⟩
def sp__law_words (K : PySem.W.Frag) : Sp := fun vs H Q E => vs = [] ∧ (True) ∧ (∀ p, H p = none → Q (.ref p) (upd H p (.tup (words.map V.str))))
theorem use__law_words {K : PySem.W.Frag} {H : Hp} {Q : VK} {E : XK}  (pre : True) (post : ∀ p, H p = none → Q (.ref p) (upd H p (.tup (words.map V.str)))) : sp__law_words K [] H Q E := ⟨rfl, pre, post⟩
theorem ok__law_words (R : RawFn K mg "_law_words" s__law_words) : DefOk P w K mg base CX0 "_law_words" s__law_words 1 [] (sp__law_words K) := by
  refine R.ok sc__law_words (fun _ _ _ _ _ _ us hl => match us, hl with | [], _ => rfl) (fun vs H Q E h => by obtain ⟨rfl, _⟩ := h; rfl) (fun f cdv A outer s H vs Q E hr h => ?_)
  have hu := units64 hr
  obtain ⟨rfl, pre, q⟩ := h
  refine ⟨_, (pss_one (ps_ret (pe_tup (pa_cons pe_str (pa_cons pe_str (pa_cons pe_str (pa_cons pe_str (pa_cons pe_str (pa_cons pe_str (pa_cons pe_str (pa_cons pe_str (pa_cons pe_str (pa_cons pe_str (pa_cons pe_str (pa_cons pe_str (pa_cons pe_str (pa_cons pe_str (pa_cons pe_str (pa_cons pe_str pa_nil))))))))))))))))))), ?_⟩
  walk_at "st"
  exact q
/-! ## _law_run_end -/
abbrev s__law_run_end : Stmt := top 36
abbrev N__law_run_end : List Str := ["text", "at", "signs"]
theorem sc__law_run_end : FnScope ["text", "at", "signs"] ["text", "at", "signs"] (defScope s__law_run_end) := ⟨rfl, rfl, rfl, by decide +kernel, rfl, by decide +kernel, by decide +kernel⟩
def sp__law_run_end (K : PySem.W.Frag) : Sp := fun vs H Q E => ∃ (z : Str) (p : Nat) (sg : Str), vs = [.str z, .int p, .str sg] ∧ (p ≤ z.length ∧ z.length ≤ 4000) ∧ (Q (.int ((p + (((tl z).drop p).takeWhile (isIn (tl sg))).length : Nat) : Int)) H)
theorem use__law_run_end {K : PySem.W.Frag} {H : Hp} {Q : VK} {E : XK} {z : Str} {p : Nat} {sg : Str} (pre : p ≤ z.length ∧ z.length ≤ 4000) (post : Q (.int ((p + (((tl z).drop p).takeWhile (isIn (tl sg))).length : Nat) : Int)) H) : sp__law_run_end K [.str z, .int p, .str sg] H Q E := ⟨z, p, sg, rfl, pre, post⟩
theorem ok__law_run_end (R : RawFn K mg "_law_run_end" s__law_run_end) (n_len : mg "len" = none) : DefOk P w K mg base CX0 "_law_run_end" s__law_run_end 1 ["text", "at", "signs"] (sp__law_run_end K) := by
  refine R.ok sc__law_run_end (fun _ _ _ _ _ _ us hl => match us, hl with | [_, _, _], _ => rfl) (fun vs H Q E h => by obtain ⟨_, _, _, rfl, _⟩ := h; rfl) (fun f cdv A outer s H vs Q E hr h => ?_)
  have hu := units64 hr
  obtain ⟨z, p, sg, rfl, pre, q⟩ := h
  refine ⟨_, (pss_one (ps_ret (pe_op op_sub (pe_callB call_lenA (by rfl) n_len (by decide +kernel) (pa_cons (pv 0) pa_nil)) (pe_callB call_lenA (by rfl) n_len (by decide +kernel) (pa_cons (pe_m1 PySem.F.slot_str_lstrip PySem.F.type_str_lstrip mt_lstripChars (pe_slice sl_A (pv 0) (po_some (pv 1)) po_none) (pv 2)) pa_nil))))), ?_⟩
  obtain ⟨hp, hz⟩ := pre
  have hc : tl (cutS z (some (p : Int)) none) = (tl z).drop p := tl_cut_from z p
  have hcl : (cutS z (some (p : Int)) none).length = z.length - p := by rw [len_tl, hc, List.length_drop, len_tl]
  walk_at "st"
  refine ⟨by rw [hcl, sizeLine_eq]; omega, ?_⟩
  have hl := lstrip_len (cutS z (some (p : Int)) none) sg
  rw [hc, hcl, show (fun c => sg.cps.contains c) = isIn (tl sg) from by funext c; simp [isIn, tl]] at hl
  obtain ⟨T, hT⟩ : ∃ T, T = ((tl z).drop p).takeWhile (isIn (tl sg)) := ⟨_, rfl⟩
  rw [← hT] at hl q
  have hTl : T.length ≤ z.length - p := by
    rw [hT]
    refine Nat.le_trans (List.takeWhile_prefix _).length_le ?_
    rw [List.length_drop, len_tl]
    exact Nat.le_refl _
  have hlz : (Txt.lstripChars (cutS z (some (p : Int)) none) sg).length ≤ 4000 := by rw [hl]; omega
  walk_at "st"
  rw [hl, show (z.length : Int) - ((z.length - p - T.length : Nat) : Int) = ((p + T.length : Nat) : Int) from by omega]
  exact q
end
end K04

set_option Elab.async false
set_option linter.all false
set_option maxRecDepth 100000
set_option maxHeartbeats 2000000
set_option autoImplicit false
namespace K04
open PySem PySem.Spec PyProof.Rows L2 TN
open L2H (cxH RoomH)
local macro_rules | `(tactic| walk_at "nq") => `(tactic| first
  | assumption
  | (apply Ne.symm; assumption)
  | grind [upd])
local macro_rules | `(tactic| walk_at "hp") => `(tactic| first
  | assumption
  | exact upd_same
  | (refine up_next ?nq0 ?hp0; (case nq0 => walk_at "nq"); (case hp0 => walk_at "hp")))
local macro_rules | `(tactic| walk_at "ex") => `(tactic| first
  | assumption
  | exact Ext.rfl'
  | (refine Ext.up ?xa ?xb _; (case xb => assumption); (case xa => walk_at "ex"))
  | (refine Ext.up0 ?xa ?xb _; (case xb => assumption); (case xa => walk_at "ex"))
  | (refine Ext.trans ?xb ?xa; (case xb => assumption); (case xa => walk_at "ex")))
local macro_rules | `(tactic| walk_at "eb") => `(tactic| first
  | assumption
  | exact ExtB.rfl'
  | (refine ExtB.up ?xa ?xb _; (case xb => assumption); (case xa => walk_at "eb"))
  | (refine ExtB.up0 ?xa ?xb _; (case xb => assumption); (case xa => walk_at "eb"))
  | (refine ExtB.trans ?xb ?xa; (case xa => assumption); (case xb => walk_at "eb"))
  | (refine ExtB.trans ?xb (ExtB.of ?xa); (case xa => assumption); (case xb => walk_at "eb")))
local macro_rules | `(tactic| walk_at "bg") => `(tactic| first
  | assumption
  | (refine BagAt.up ?xa ?xb _; (case xb => assumption); (case xa => walk_at "bg"))
  | (refine BagAt.ext ?xb ?xa; (case xa => assumption); (case xb => walk_at "bg")))
local macro_rules | `(tactic| walk_at "sz") => `(tactic| first
  | assumption
  | decide
  | (simp only [sizeLine_eq, List.length_append, List.length_cons, List.length_nil, List.length_map] at *; omega))
local macro_rules | `(tactic| walk_at "ci") => `(tactic| first
  | exact m2 (by decide)
  | exact m1 (by decide)
  | exact m1 ⟨by omega, by omega⟩
  | (show (0 : Int) < _; first | decide | omega | assumption)
  | exact ⟨by first | decide | omega, by first | decide | omega⟩
  | exact ⟨by decide, by decide, by decide⟩)
local macro_rules | `(tactic| walk_at "s1") => `(tactic| first
  | (with_reducible refine s_seq ?_)
  | (with_reducible refine s_asg ?_)
  | (with_reducible refine s_gname ?_)
  | (with_reducible refine s_ret ?_)
  | (with_reducible refine s_retn ?_)
  | (with_reducible refine s_next ?_)
  | (with_reducible refine s_drop ?_)
  | (with_reducible refine s_ifs ?_)
  | (with_reducible refine s_par ?_)
  | (with_reducible refine s_two ?_)
  | ((with_reducible refine' s_var ?sv ?_); (case sv => rfl))
  | (with_reducible refine s_c ?_)
  | (with_reducible refine s_op ?_)
  | (with_reducible refine s_un ?_)
  | (with_reducible refine s_test ?_)
  | (with_reducible refine s_tb ?_)
  | (with_reducible refine s_bl ?_)
  | (with_reducible refine s_and ?_)
  | (with_reducible refine s_or ?_)
  | (with_reducible refine s_not ?_)
  | (with_reducible refine s_andv ?_)
  | (with_reducible refine s_orv ?_)
  | (with_reducible refine s_notv ?_)
  | (with_reducible refine s_if ?_)
  | (with_reducible refine s_nil ?_)
  | (with_reducible refine s_cons ?_)
  | (with_reducible refine s_tup ?_)
  | (with_reducible refine s_lst ?_)
  | ((with_reducible refine' s_few ?sv ?_); (case sv => rfl))
  | (with_reducible refine s_m0 ?_)
  | (with_reducible refine s_m1 ?_)
  | (with_reducible refine s_str ?_)
  | (with_reducible refine s_cb ?_)
  | (with_reducible refine s_calld ?_)
  | (with_reducible refine s_callw ?_)
  | (with_reducible refine s_callk ?_)
  | (with_reducible refine s_callkw ?_)
  | (with_reducible refine s_sl ?_)
  | (with_reducible refine s_part ?_)
  | (with_reducible refine s_nopart ?_)
  | (with_reducible refine s_int ?_)
  | (with_reducible refine s_i2 ?_)
  | (with_reducible refine s_addi ?_)
  | ((with_reducible refine' s_adds ?sv ?_); (case sv => walk_at "sz"))
  | ((with_reducible refine' s_eqs ?sv ?_); (case sv => rfl))
  | ((with_reducible refine' s_nes ?sv ?_); (case sv => rfl))
  | (with_reducible refine s_ins ?_)
  | ((with_reducible refine' s_lens ?sv ?_); (case sv => walk_at "sz"))
  | ((with_reducible refine' s_lenl ?sv ?_); (case sv => walk_at "hp"))
  | ((with_reducible refine' s_lent ?sv ?_); (case sv => walk_at "hp"))
  | ((with_reducible refine' s_sls ?sv ?_); (case sv => walk_at "sz"))
  | (with_reducible refine w_tt ?_)
  | (with_reducible refine w_ff ?_)
  | (with_reducible refine s_ex2 ?_)
  | (with_reducible refine s_bm ?_)
  | (with_reducible refine s_bm0 ?_)
  | (with_reducible refine s_tys ?_)
  | ((with_reducible refine' s_tyl ?sv ?_); (case sv => walk_at "hp"))
  | ((with_reducible refine' s_app ?sv ?sw ?_); (case sv => walk_at "hp"); (case sw => walk_at "sz"))
  | (with_reducible refine s_gsub ?_)
  | ((with_reducible refine' s_ixt ?sv ?sw ?_); (case sv => walk_at "hp"); (case sw => rfl))
  | ((with_reducible refine' s_ixl ?sv ?sw ?_); (case sv => walk_at "hp"); (case sw => rfl))
  | (with_reducible refine s_pnx ?_)
  | (with_reducible refine s_prt ?_)
  | (with_reducible refine s_turn ?_)
  | (with_reducible refine s_for ?_)
  | (with_reducible refine s_ilist ?_)
  | (with_reducible refine s_itup ?_)
  | (with_reducible refine s_rng1 ?_)
  | (with_reducible refine s_rng2 ?_)
  | (with_reducible refine s_isStr ?_)
  | (with_reducible refine n_isn ?_)
  | ((with_reducible refine' c_mulS ?sv ?sw ?su ?_); (case sv => rfl); (case sw => omega); (case su => omega))
  | ((with_reducible refine' s_isTup ?sv ?_); (case sv => walk_at "hp"))
  | ((with_reducible refine' s_extl ?sv ?sw ?su ?_); (case sv => walk_at "hp"); (case sw => walk_at "hp"); (case su => walk_at "sz"))
  | ((with_reducible refine' s_gseqT ?sv ?sw ?_); (case sv => walk_at "hp"); (case sw => rfl))
  | ((with_reducible refine' s_gseqL ?sv ?sw ?_); (case sv => walk_at "hp"); (case sw => rfl))
  | (with_reducible refine c_chain ?_)
  | ((with_reducible refine' s_rng1' ?sv ?sw ?_); (case sv => omega); (case sw => omega))
  | ((with_reducible refine' s_rng2' ?sv ?_); (case sv => refine ⟨?_, ?_, ?_, ?_⟩ <;> omega))
  | (with_reducible refine s_callx ?_)
  | ((with_reducible refine' w_t ?sv ?_); (case sv => rfl))
  | ((with_reducible refine' w_f ?sv ?_); (case sv => rfl))
  | ((with_reducible refine' x_one ?sv ?sw ?_); (case sv => walk_at "hp"); (case sw => assumption))
  | (with_reducible refine x_at ?_)
  | ((with_reducible refine' x_get ?sv ?sw ?_); (case sv => walk_at "hp"); (case sw => rfl))
  | ((with_reducible refine' s_addl ?sv ?sw ?su ?_); (case sv => walk_at "hp"); (case sw => walk_at "hp"); (case su => walk_at "sz"))
  | (with_reducible refine c_lrv ?_)
  | ((with_reducible refine' c_rvl ?sv ?_); (case sv => walk_at "hp"))
  | ((with_reducible refine' s_setl ?sv ?sw ?_); (case sv => walk_at "hp"); (case sw => rfl))
  | ((with_reducible refine' c_ri ?sv ?_); (case sv => walk_at "ci"))
  | ((with_reducible refine' c_mul ?sv ?_); (case sv => walk_at "ci"))
  | ((with_reducible refine' c_neNil ?sv ?sw ?_); (case sv => walk_at "hp"); (case sw => walk_at "hp"))
  | (with_reducible refine c_u ?_)
  | ((with_reducible refine' c_wipe ?sv ?_); (case sv => rfl))
  | ((with_reducible refine' s_gtup ?sv ?sw ?_); (case sv => walk_at "hp"); (case sw => rfl))
  | (with_reducible refine s_gcons ?_)
  | (with_reducible refine s_gnil ?_)
  | ((with_reducible refine' c_tupL ?sv ?_); (case sv => walk_at "hp"))
  | ((with_reducible refine' c_tupT ?sv ?_); (case sv => walk_at "hp"))
  | ((with_reducible refine' c_lstL ?sv ?_); (case sv => walk_at "hp"))
  | ((with_reducible refine' c_lstT ?sv ?_); (case sv => walk_at "hp"))
  | (with_reducible refine c_max ?_)
  | (with_reducible refine c_min ?_)
  | (with_reducible refine c_abs ?_)
  | (with_reducible refine c_int ?_)
  | (with_reducible refine c_intb ?_)
  | (with_reducible refine c_lrg ?_)
  | (with_reducible refine c_rg2 ?_)
  | (with_reducible refine c_ii ?_)
  | (with_reducible refine c_lc ?_)
  | ((with_reducible refine' c_seql' ?sv ?_); (case sv => walk_at "hp"))
  | ((with_reducible refine' c_seqt' ?sv ?_); (case sv => walk_at "hp"))
  | (with_reducible refine c_yes ?_)
  | ((with_reducible refine' s_sll ?sv ?_); (case sv => walk_at "hp"))
  | (with_reducible refine n_isr ?_)
  | (with_reducible refine n_isi ?_)
  | (with_reducible refine n_iss ?_)
  | (with_reducible refine n_non ?_)
  | (with_reducible refine n_nor ?_)
  | (with_reducible refine n_noi ?_)
  | (with_reducible refine n_nos ?_))
local macro_rules | `(tactic| walk_at "st") => `(tactic| repeat1' walk_at "s1")
section
variable {P : Program} {w : World} {K : PySem.W.Frag} {mg : Str → Option Value} {base : Heap}
def LT (z : Str) (pf : Addr) (H : Hp) (m : Nat) (σ : L2.St) (H' : Hp) : Prop := ∃ (p : Nat) (L : List V) (F : List Tok) (o1 o2 o3 : Option V), σ = [some (.str z), some (.ref pf), some (.int (p : Int)), some (.str "abcdefghijklmnopqrstuvwxyz"), some (.str "0123456789"), o1, o2, o3] ∧ Ext H H' ∧ H' pf = some (.lst L) ∧ All2 (TokV H') L F ∧ F ++ (toks (tl z) p).1 = (toks (tl z) 0).1 ∧ (toks (tl z) p).2 = (toks (tl z) 0).2 ∧ p ≤ (tl z).length ∧ F.length ≤ p ∧ m = (tl z).length - p
theorem lt_step {z : Str} {pf b : Addr} {H H1 H2 : Hp} {p : Nat} {L : List V} {F : List Tok} {o1 o2 o3 : Option V} {k : Str} {W : List Nat} {e : Int} (hpl : p < (tl z).length) (hb : (tl z)[p] ∉ blanks) (ht : tokAt ((tl z).drop p) = some (k, W)) (hpf : H pf = none) (x1 : Ext H H1)
    (h1 : H1 pf = some (.lst L)) (a1 : All2 (TokV H1) L F) (e1 : F ++ (toks (tl z) p).1 = (toks (tl z) 0).1) (e2 : (toks (tl z) p).2 = (toks (tl z) 0).2) (hF : F.length ≤ p) (x2 : Ext H1 H2) (hn : H2 b = none) (he : e = ((p + W.length : Nat) : Int)) :
    ∃ m', m' < (tl z).length - p ∧ LT z pf H m' [some (.str z), some (.ref pf), some (.int e), some (.str "abcdefghijklmnopqrstuvwxyz"), some (.str "0123456789"), o1, o2, o3] (upd (upd H2 b (.tup [.str k, .str (mk W), .int (p : Int)])) pf (.lst (L ++ [.ref b]))) := by
  have hne := tokAt_ne ht
  rw [List.length_drop] at hne
  rw [toks_tok hpl hb ht] at e1 e2
  have h2 := x2 _ _ h1
  have hbp : pf ≠ b := by grind [upd]
  subst he
  refine ⟨_, (by omega : (tl z).length - (p + W.length) < (tl z).length - p), p + W.length, L ++ [.ref b], F ++ [⟨k, W, p⟩], o1, o2, o3, rfl, ((x1.trans x2).up hn _).up0 hpf _, upd_same, ?_, ?_, e2, by omega, by simp; omega, rfl⟩
  · refine (a1.mono fun v t y => ((y.ext (x2.up hn _)).up (by rw [upd_ne hbp]; exact h2))).snoc ⟨b, rfl, by rw [upd_ne (Ne.symm hbp), upd_same]⟩
  · rw [← e1]; simp
theorem lt_bad {z : Str} {p : Nat} {F : List Tok} (hpl : p < (tl z).length) (hb : (tl z)[p] ∉ blanks) (ht : tokAt ((tl z).drop p) = none) (e1 : F ++ (toks (tl z) p).1 = (toks (tl z) 0).1) (e2 : (toks (tl z) p).2 = (toks (tl z) 0).2) : (toks (tl z) 0).1 = F ∧ (toks (tl z) 0).2 = some p := by
  rw [toks_bad hpl hb ht] at e1 e2
  exact ⟨by rw [← e1, List.append_nil], e2.symm⟩
theorem strip_end (z sg : Str) (p : Nat) (hp : p ≤ z.length) : (cutS z (some (p : Int)) none).length ≤ z.length ∧ (Txt.lstripChars (cutS z (some (p : Int)) none) sg).length ≤ z.length ∧
    (z.length : Int) - ((Txt.lstripChars (cutS z (some (p : Int)) none) sg).length : Int) = ((p + (((tl z).drop p).takeWhile (isIn (tl sg))).length : Nat) : Int) ∧ p + (((tl z).drop p).takeWhile (isIn (tl sg))).length ≤ z.length := by
  have hc : tl (cutS z (some (p : Int)) none) = (tl z).drop p := tl_cut_from z p
  have hcl : (cutS z (some (p : Int)) none).length = z.length - p := by rw [len_tl, hc, List.length_drop, len_tl]
  have hl := lstrip_len (cutS z (some (p : Int)) none) sg
  rw [hc, hcl, show (fun c => sg.cps.contains c) = isIn (tl sg) from by funext c; simp [isIn, tl]] at hl
  have hTl : (((tl z).drop p).takeWhile (isIn (tl sg))).length ≤ z.length - p := by
    refine Nat.le_trans (List.takeWhile_prefix _).length_le ?_
    rw [List.length_drop, len_tl]
    exact Nat.le_refl _
  omega

/-! ## _law_tokens -/
abbrev s__law_tokens : Stmt := top 37
abbrev N__law_tokens : List Str := ["text", "found", "at", "letters", "digits", "sign", "end", "word"]
theorem sc__law_tokens : FnScope ["text", "found", "at", "letters", "digits", "sign", "end", "word"] ["text"] (defScope s__law_tokens) := ⟨rfl, rfl, rfl, by decide +kernel, rfl, by decide +kernel, by decide +kernel⟩
def sp__law_tokens (K : PySem.W.Frag) : Sp := fun vs H Q E => ∃ (z : Str), vs = [.str z] ∧ (z.length ≤ 4000) ∧ (∀ q pf L H', Ext H H' → H' q = some (.lst [.ref pf, badV (toks (tl z) 0).2]) → H' pf = some (.lst L) → All2 (TokV H') L (toks (tl z) 0).1 → Q (.ref q) H')
theorem use__law_tokens {K : PySem.W.Frag} {H : Hp} {Q : VK} {E : XK} {z : Str} (pre : z.length ≤ 4000) (post : ∀ q pf L H', Ext H H' → H' q = some (.lst [.ref pf, badV (toks (tl z) 0).2]) → H' pf = some (.lst L) → All2 (TokV H') L (toks (tl z) 0).1 → Q (.ref q) H') : sp__law_tokens K [.str z] H Q E := ⟨z, rfl, pre, post⟩
theorem ok__law_tokens (R : RawFn K mg "_law_tokens" s__law_tokens) (d__law_run_end : DefOk P w K mg base CX0 "_law_run_end" s__law_run_end 1 ["text", "at", "signs"] (sp__law_run_end K)) (d__law_words : DefOk P w K mg base CX0 "_law_words" s__law_words 1 [] (sp__law_words K)) (n_len : mg "len" = none) : DefOk P w K mg base CX0 "_law_tokens" s__law_tokens 2 ["text"] (sp__law_tokens K) := by
  refine R.ok sc__law_tokens (fun _ _ _ _ _ _ us hl => match us, hl with | [_], _ => rfl) (fun vs H Q E h => by obtain ⟨_, rfl, _⟩ := h; rfl) (fun f cdv A outer s H vs Q E hr h => ?_)
  have hu := units64 hr
  obtain ⟨z, rfl, pre, q⟩ := h
  refine ⟨_, (pss_cons (ps_asg (pe_tup (pa_cons (pe_lst pa_nil) (pa_cons pe_int (pa_cons pe_str (pa_cons pe_str pa_nil))))) (pg_seq rfl (pgs_cons (pg_name (i := 1) sc__law_tokens.nd rfl (Or.inl rfl)) (pgs_cons (pg_name (i := 2) sc__law_tokens.nd rfl (Or.inl rfl)) (pgs_cons (pg_name (i := 3) sc__law_tokens.nd rfl (Or.inl rfl)) (pgs_cons (pg_name (i := 4) sc__law_tokens.nd rfl (Or.inl rfl)) pgs_nil))))))
      (pss_cons (ps_while PassesOwn.never (pt_cmpR op_lt (pv 2) (pe_callB call_lenA (by rfl) n_len (by decide +kernel) (pa_cons (pv 0) pa_nil)) (nomark _))
      (pss_cons (ps_par (i := 5) (j := 6) rfl sc__law_tokens.nd rfl rfl (by decide) rfl rfl (pa_cons (pe_ix ix_seq (pv 0) (pv 2) (fun _ _ => rfl)) (pa_cons (pe_op op_addA (pv 2) pe_int) pa_nil)) (by rfl))
      (pss_cons (ps_if (pt_cmpR op_inA (pv 5) (pv 3) (by rfl))
      (pss_cons (ps_set (i := 6) sc__law_tokens.nd rfl (Or.inl rfl) (pe_callD (E := E0) d__law_run_end (hr.mono (by decide)) pass0 (pa_cons (pv 0) (pa_cons (pv 2) (pa_cons (pv 3) pa_nil)))))
      (pss_cons (ps_if (pt_cmpR op_gt (pv 6) (pe_op op_addA (pv 2) pe_int) (nomark _))
      (pss_one (ps_ret (pe_lst (pa_cons (pv 1) (pa_cons (pv 2) pa_nil)))))
      pss_nil)
      (pss_cons (ps_set (i := 7) sc__law_tokens.nd rfl (Or.inl rfl) (pe_slice sl_A (pv 0) (po_some (pv 2)) (po_some (pv 6))))
      (pss_one (ps_expr (pe_bm PySem.F.plainAttrs_list PySem.F.slot_list_append PySem.F.type_list_append mt_append (pv 1) (pa_cons (pe_tup (pa_cons (pe_ifExp (pt_cmpR op_inA (pv 7) (pe_callD0 (E := E0) d__law_words (hr.mono (by decide)) pass0) (by rfl)) (pv 7) pe_str) (pa_cons (pv 7) (pa_cons (pv 2) pa_nil)))) pa_nil)))))))
      (pss_one (ps_if (pt_cmpR op_inA (pv 5) (pv 4) (by rfl))
      (pss_cons (ps_set (i := 6) sc__law_tokens.nd rfl (Or.inl rfl) (pe_callD (E := E0) d__law_run_end (hr.mono (by decide)) pass0 (pa_cons (pv 0) (pa_cons (pv 2) (pa_cons (pv 4) pa_nil)))))
      (pss_cons (ps_if (PW.pt (pw_or (pt_cmpR op_gt (pv 6) (pe_op op_addA (pv 2) pe_int) (nomark _)) (pw_or1 (PW.pt (pw_and (pt_cmpR (op_eqA hu) (pv 5) pe_str (nomark _)) (pw_and1 (pt_cmpR op_gt (pv 6) (pe_op op_addA (pv 2) pe_int) (nomark _))))))))
      (pss_one (ps_ret (pe_lst (pa_cons (pv 1) (pa_cons (pv 2) pa_nil)))))
      pss_nil)
      (pss_one (ps_expr (pe_bm PySem.F.plainAttrs_list PySem.F.slot_list_append PySem.F.type_list_append mt_append (pv 1) (pa_cons (pe_tup (pa_cons pe_str (pa_cons (pe_slice sl_A (pv 0) (po_some (pv 2)) (po_some (pv 6))) (pa_cons (pv 2) pa_nil)))) pa_nil))))))
      (pss_one (ps_if (pt_cmpR op_inA (pv 5) pe_str (by rfl))
      (pss_one (ps_expr (pe_bm PySem.F.plainAttrs_list PySem.F.slot_list_append PySem.F.type_list_append mt_append (pv 1) (pa_cons (pe_tup (pa_cons (pv 5) (pa_cons (pv 5) (pa_cons (pv 2) pa_nil)))) pa_nil))))
      (pss_one (ps_if (pt_cmpR op_inA (pv 5) pe_str (by rfl))
      (pss_one (ps_set (i := 6) sc__law_tokens.nd rfl (Or.inl rfl) (pe_op op_sub (pe_callB call_lenA (by rfl) n_len (by decide +kernel) (pa_cons (pv 0) pa_nil)) (pe_callB call_lenA (by rfl) n_len (by decide +kernel) (pa_cons (pe_m1 PySem.F.slot_str_lstrip PySem.F.type_str_lstrip mt_lstripChars (pe_slice sl_A (pv 0) (po_some (pv 2)) po_none) pe_str) pa_nil)))))
      (pss_one (ps_ret (pe_lst (pa_cons (pv 1) (pa_cons (pv 2) pa_nil))))))))))))
      (pss_one (ps_set (i := 2) sc__law_tokens.nd rfl (Or.inl rfl) (pv 6))))))
      (pss_one (ps_ret (pe_lst (pa_cons (pv 1) (pa_cons pe_non pa_nil))))))), ?_⟩
  walk_at "st"
  intro pf hpf
  walk_at "st"
  intro t0 ht0
  have hft0 : pf ≠ t0 := by grind [upd]
  walk_at "st"
  have hll : (tl z).length = z.length := by rw [len_tl]
  refine s_whileJ (LT z pf H) (fun σ H' => ∃ (L : List V) (o1 o2 o3 o4 o5 o6 : Option V), σ = [some (.str z), some (.ref pf), o1, o2, o3, o4, o5, o6] ∧ Ext H H' ∧ H' pf = some (.lst L) ∧ All2 (TokV H') L (toks (tl z) 0).1 ∧ (toks (tl z) 0).2 = none)
    ⟨_, 0, [], [], none, none, none, rfl, by walk_at "ex", by walk_at "hp", .nil, rfl, rfl, Nat.zero_le _, Nat.le_refl _, rfl⟩ ?_ ?_
  · rintro σ H1 ⟨L, o1, o2, o3, o4, o5, o6, rfl, x1, h1, a1, hb⟩
    walk_at "st"
    intro r hr1
    exact q r pf L _ (x1.up hr1 _) (by rw [hb]; exact upd_same) (Ext.new hr1 _ _ _ h1) (a1.mono fun v t y => y.ext (Ext.new hr1 _))
  rintro nx' fin m σ H1 ⟨p, L, F, o1, o2, o3, rfl, x1, h1, a1, e1, e2, hp, hF, rfl⟩
  have hLF := a1.length
  have bad : ∀ (hpl : p < (tl z).length), (tl z)[p] ∉ blanks → tokAt ((tl z).drop p) = none → ∀ r, H1 r = none → Q (.ref r) (upd H1 r (.lst [.ref pf, .int p])) := fun hpl hb ht r hr1 => by
    obtain ⟨f1, f2⟩ := lt_bad hpl hb ht e1 e2
    exact q r pf L _ (x1.up hr1 _) (by rw [f2]; exact upd_same) (Ext.new hr1 _ _ _ h1) (by rw [f1]; exact a1.mono fun v t y => y.ext (Ext.new hr1 _))
  walk_at "st"
  refine w_if (fun hlt => ?_) (fun hlt => ?_)
  · have hpl : p < (tl z).length := by omega
    walk_at "st"
    refine s_ixs (by walk_at "sz") (atI_nat' (List.getElem?_eq_getElem hpl)) ?_
    have go := fun (k : Str) (W : List Nat) (H2 : Hp) (b : Addr) (o1 o2 o3 : Option V) (e : Int) hb ht x2 hn he => lt_step (o1 := o1) (o2 := o2) (o3 := o3) (k := k) (W := W) (H2 := H2) (b := b) (e := e) hpl hb ht hpf x1 h1 a1 e1 e2 hF x2 hn he
    have bad := bad hpl
    obtain ⟨c, hc⟩ : ∃ c, c = (tl z)[p] := ⟨_, rfl⟩
    have hr0 : (tl z).drop p = c :: (tl z).drop (p + 1) := by rw [hc]; exact List.drop_eq_getElem_cons hpl
    rw [← hc] at go bad ⊢
    obtain ⟨r', hr'⟩ : ∃ r', r' = (tl z).drop (p + 1) := ⟨_, rfl⟩
    rw [← hr'] at hr0
    have hrl : (c :: r').length ≤ 4000 := by rw [← hr0, List.length_drop]; omega
    rw [hr0] at go bad
    walk_at "st"
    refine w_if (fun h2 => ?_) (fun h2 => ?_)
    · have hcl : c ∈ letters := h2
      have hcb := letters_blanks c hcl
      walk_at "st"
      refine use__law_run_end ⟨by omega, pre⟩ ?_
      obtain ⟨W, hW⟩ : ∃ W, W = ((tl z).drop p).takeWhile (isIn (tl "abcdefghijklmnopqrstuvwxyz")) := ⟨_, rfl⟩
      rw [← hW]
      have hcut : cutS z (some (p : Int)) (some ((p + W.length : Nat) : Int)) = mk W := ext_tl (by
        rw [tl_cut, tl_mk, List.drop_take, show p + W.length - p = W.length from by omega, hW, tw_take])
      rw [hr0] at hW
      have hW' : (c :: r').takeWhile (isIn letters) = W := hW.symm
      have hT : tokAt (c :: r') = if mk W ∈ words then some (mk W, W) else if W.length ≤ 8 then some ("name", W) else none := by unfold tokAt; simp only; rw [if_pos hcl, hW']
      walk_at "st"
      refine w_if (fun h3 => ?_) (fun h3 => ?_)
      · rw [if_neg (big_words (by omega)), if_neg (by omega)] at hT
        walk_at "st"
        exact bad hcb hT
      · walk_at "st"
        rw [hcut]
        refine use__law_words trivial fun d hd => ?_
        have hpd : pf ≠ d := by grind [upd]
        refine s_inw words (.inr (sq_t upd_same)) ?_
        walk_at "st"
        refine w_if (fun h4 => ?_) (fun h4 => ?_)
        · rw [if_pos h4] at hT
          walk_at "st"
          intro b hb
          have hpb : pf ≠ b := by grind [upd]
          walk_at "st"
          exact go _ W _ b _ _ _ _ hcb hT (Ext.new hd _) hb rfl
        · rw [if_neg h4, if_pos (by omega)] at hT
          walk_at "st"
          intro b hb
          have hpb : pf ≠ b := by grind [upd]
          walk_at "st"
          exact go _ W _ b _ _ _ _ hcb hT (Ext.new hd _) hb rfl
    · have hcl : c ∉ letters := h2
      walk_at "st"
      refine w_if (fun h2 => ?_) (fun h2 => ?_)
      · have hcd : c ∈ digits := h2
        have hcb := digits_blanks c hcd
        walk_at "st"
        refine use__law_run_end ⟨by omega, pre⟩ ?_
        obtain ⟨W, hW⟩ : ∃ W, W = ((tl z).drop p).takeWhile (isIn (tl "0123456789")) := ⟨_, rfl⟩
        rw [← hW]
        have hcut : cutS z (some (p : Int)) (some ((p + W.length : Nat) : Int)) = mk W := ext_tl (by
          rw [tl_cut, tl_mk, List.drop_take, show p + W.length - p = W.length from by omega, hW, tw_take])
        rw [hr0] at hW
        have hW' : (c :: r').takeWhile (isIn digits) = W := hW.symm
        have hW0 : 0 < W.length := by rw [← hW', List.takeWhile_cons, if_pos (by simp [isIn, hcd])]; simp
        have hT : tokAt (c :: r') = if W.length = 1 ∨ (W.length ≤ 3 ∧ c ≠ 48) then some (("number" : Str), W) else none := by unfold tokAt; simp only; rw [if_neg hcl, if_pos hcd, hW']
        have e5 : decide (V.str ⟨#[c]⟩ = V.str "0") = decide (c = 48) := decide_eq_decide.mpr ⟨fun e => by injection e with e; have := congrArg tl e; rw [show tl "0" = [48] from rfl, show tl ⟨#[c]⟩ = [c] from rfl] at this; simpa using this, fun e => by rw [e]; rfl⟩
        have badW : ¬ (W.length = 1 ∨ (W.length ≤ 3 ∧ c ≠ 48)) → ∀ r, H1 r = none → Q (.ref r) (upd H1 r (.lst [.ref pf, .int p])) := fun h => bad hcb (by rw [if_neg h] at hT; exact hT)
        walk_at "st"
        refine w_if (fun h3 => ?_) (fun h3 => ?_)
        · walk_at "st"
          exact badW (by omega)
        · walk_at "st"
          rw [e5]
          have good : (W.length = 1 ∨ (W.length ≤ 3 ∧ c ≠ 48)) → tokAt (c :: r') = some (("number" : Str), W) := fun h => by rw [if_pos h] at hT; exact hT
          refine w_if (fun h4 => ?_) (fun h4 => ?_)
          · walk_at "st"
            refine w_if (fun h5 => ?_) (fun h5 => ?_)
            · walk_at "st"
              exact badW (by omega)
            · walk_at "st"
              rw [hcut]
              intro b hb
              have hpb : pf ≠ b := by grind [upd]
              walk_at "st"
              exact go _ W _ b _ _ _ _ hcb (good (by omega)) Ext.rfl' hb rfl
          · walk_at "st"
            rw [hcut]
            intro b hb
            have hpb : pf ≠ b := by grind [upd]
            walk_at "st"
            exact go _ W _ b _ _ _ _ hcb (good (by omega)) Ext.rfl' hb rfl
      · have hcd : c ∉ digits := h2
        have hT : tokAt (c :: r') = if c ∈ marks then some (one c, [c]) else none := by unfold tokAt; simp only; rw [if_neg hcl, if_neg hcd]
        walk_at "st"
        refine w_if (fun h2 => ?_) (fun h2 => ?_)
        · have hcm : c ∈ marks := h2
          rw [if_pos hcm] at hT
          walk_at "st"
          intro b hb
          have hpb : pf ≠ b := by grind [upd]
          walk_at "st"
          exact go _ [c] _ b _ _ _ _ (marks_blanks c hcm) hT Ext.rfl' hb rfl
        · have hcm : c ∉ marks := h2
          rw [if_neg hcm] at hT
          walk_at "st"
          refine w_if (fun h2 => ?_) (fun h2 => ?_)
          · have hcb : c ∈ blanks := h2
            obtain ⟨s1, s2, s3, s4⟩ := strip_end z " \n" p (by omega)
            walk_at "st"
            refine ⟨by rw [sizeLine_eq]; omega, ?_⟩
            walk_at "st"
            rw [s3]
            have hsk := toks_skip (tl z) p
            have h1W : 0 < (((tl z).drop p).takeWhile (isIn blanks)).length := by rw [hr0, List.takeWhile_cons, if_pos (by simp [isIn, hcb])]; simp
            have s4' : p + (((tl z).drop p).takeWhile (isIn blanks)).length ≤ z.length := s4
            exact ⟨_, (by omega : (tl z).length - (p + (((tl z).drop p).takeWhile (isIn blanks)).length) < (tl z).length - p), _, L, F, _, _, _, rfl, x1, h1, a1, (congrArg (fun t : List Tok × Option Nat => F ++ t.1) hsk).trans e1, (congrArg (fun t : List Tok × Option Nat => t.2) hsk).trans e2, by omega, by omega, rfl⟩
          · have hcb : c ∉ blanks := h2
            walk_at "st"
            exact bad hcb hT
  · rw [toks_end (tl z) p (by omega)] at e1 e2
    rw [List.append_nil] at e1
    exact fin _ _ ⟨L, _, _, _, _, _, _, rfl, x1, h1, by rw [← e1]; exact a1, e2.symm⟩
end
end K04

set_option Elab.async false
set_option linter.all false
set_option maxRecDepth 100000
set_option maxHeartbeats 2000000
set_option autoImplicit false
namespace K04
open PySem PySem.Spec PyProof.Rows L2 TN
open L2H (cxH RoomH)
local macro_rules | `(tactic| walk_at "nq") => `(tactic| first
  | assumption
  | (apply Ne.symm; assumption)
  | grind [upd])
local macro_rules | `(tactic| walk_at "hp") => `(tactic| first
  | assumption
  | exact upd_same
  | (refine up_next ?nq0 ?hp0; (case nq0 => walk_at "nq"); (case hp0 => walk_at "hp")))
local macro_rules | `(tactic| walk_at "ex") => `(tactic| first
  | assumption
  | exact Ext.rfl'
  | (refine Ext.up ?xa ?xb _; (case xb => assumption); (case xa => walk_at "ex"))
  | (refine Ext.up0 ?xa ?xb _; (case xb => assumption); (case xa => walk_at "ex"))
  | (refine Ext.trans ?xb ?xa; (case xb => assumption); (case xa => walk_at "ex")))
local macro_rules | `(tactic| walk_at "eb") => `(tactic| first
  | assumption
  | exact ExtB.rfl'
  | (refine ExtB.up ?xa ?xb _; (case xb => assumption); (case xa => walk_at "eb"))
  | (refine ExtB.up0 ?xa ?xb _; (case xb => assumption); (case xa => walk_at "eb"))
  | (refine ExtB.trans ?xb ?xa; (case xa => assumption); (case xb => walk_at "eb"))
  | (refine ExtB.trans ?xb (ExtB.of ?xa); (case xa => assumption); (case xb => walk_at "eb")))
local macro_rules | `(tactic| walk_at "bg") => `(tactic| first
  | assumption
  | (refine BagAt.up ?xa ?xb _; (case xb => assumption); (case xa => walk_at "bg"))
  | (refine BagAt.ext ?xb ?xa; (case xa => assumption); (case xb => walk_at "bg")))
local macro_rules | `(tactic| walk_at "sz") => `(tactic| first
  | assumption
  | decide
  | (simp only [sizeLine_eq, List.length_append, List.length_cons, List.length_nil, List.length_map] at *; omega))
local macro_rules | `(tactic| walk_at "ci") => `(tactic| first
  | exact m2 (by decide)
  | exact m1 (by decide)
  | exact m1 ⟨by omega, by omega⟩
  | (show (0 : Int) < _; first | decide | omega | assumption)
  | exact ⟨by first | decide | omega, by first | decide | omega⟩
  | exact ⟨by decide, by decide, by decide⟩)
local macro_rules | `(tactic| walk_at "s1") => `(tactic| first
  | (with_reducible refine s_seq ?_)
  | (with_reducible refine s_asg ?_)
  | (with_reducible refine s_gname ?_)
  | (with_reducible refine s_ret ?_)
  | (with_reducible refine s_retn ?_)
  | (with_reducible refine s_next ?_)
  | (with_reducible refine s_drop ?_)
  | (with_reducible refine s_ifs ?_)
  | (with_reducible refine s_par ?_)
  | (with_reducible refine s_two ?_)
  | ((with_reducible refine' s_var ?sv ?_); (case sv => rfl))
  | (with_reducible refine s_c ?_)
  | (with_reducible refine s_op ?_)
  | (with_reducible refine s_un ?_)
  | (with_reducible refine s_test ?_)
  | (with_reducible refine s_tb ?_)
  | (with_reducible refine s_bl ?_)
  | (with_reducible refine s_and ?_)
  | (with_reducible refine s_or ?_)
  | (with_reducible refine s_not ?_)
  | (with_reducible refine s_andv ?_)
  | (with_reducible refine s_orv ?_)
  | (with_reducible refine s_notv ?_)
  | (with_reducible refine s_if ?_)
  | (with_reducible refine s_nil ?_)
  | (with_reducible refine s_cons ?_)
  | (with_reducible refine s_tup ?_)
  | (with_reducible refine s_lst ?_)
  | ((with_reducible refine' s_few ?sv ?_); (case sv => rfl))
  | (with_reducible refine s_m0 ?_)
  | (with_reducible refine s_m1 ?_)
  | (with_reducible refine s_str ?_)
  | (with_reducible refine s_cb ?_)
  | (with_reducible refine s_calld ?_)
  | (with_reducible refine s_callw ?_)
  | (with_reducible refine s_callk ?_)
  | (with_reducible refine s_callkw ?_)
  | (with_reducible refine s_sl ?_)
  | (with_reducible refine s_part ?_)
  | (with_reducible refine s_nopart ?_)
  | (with_reducible refine s_int ?_)
  | (with_reducible refine s_i2 ?_)
  | (with_reducible refine s_addi ?_)
  | ((with_reducible refine' s_adds ?sv ?_); (case sv => walk_at "sz"))
  | ((with_reducible refine' s_eqs ?sv ?_); (case sv => rfl))
  | ((with_reducible refine' s_nes ?sv ?_); (case sv => rfl))
  | (with_reducible refine s_ins ?_)
  | ((with_reducible refine' s_lens ?sv ?_); (case sv => walk_at "sz"))
  | ((with_reducible refine' s_lenl ?sv ?_); (case sv => walk_at "hp"))
  | ((with_reducible refine' s_lent ?sv ?_); (case sv => walk_at "hp"))
  | ((with_reducible refine' s_sls ?sv ?_); (case sv => walk_at "sz"))
  | (with_reducible refine w_tt ?_)
  | (with_reducible refine w_ff ?_)
  | (with_reducible refine s_ex2 ?_)
  | (with_reducible refine s_bm ?_)
  | (with_reducible refine s_bm0 ?_)
  | (with_reducible refine s_tys ?_)
  | ((with_reducible refine' s_tyl ?sv ?_); (case sv => walk_at "hp"))
  | ((with_reducible refine' s_app ?sv ?sw ?_); (case sv => walk_at "hp"); (case sw => walk_at "sz"))
  | (with_reducible refine s_gsub ?_)
  | ((with_reducible refine' s_ixt ?sv ?sw ?_); (case sv => walk_at "hp"); (case sw => rfl))
  | ((with_reducible refine' s_ixl ?sv ?sw ?_); (case sv => walk_at "hp"); (case sw => rfl))
  | (with_reducible refine s_pnx ?_)
  | (with_reducible refine s_prt ?_)
  | (with_reducible refine s_turn ?_)
  | (with_reducible refine s_for ?_)
  | (with_reducible refine s_ilist ?_)
  | (with_reducible refine s_itup ?_)
  | (with_reducible refine s_rng1 ?_)
  | (with_reducible refine s_rng2 ?_)
  | (with_reducible refine s_isStr ?_)
  | (with_reducible refine n_isn ?_)
  | ((with_reducible refine' c_mulS ?sv ?sw ?su ?_); (case sv => rfl); (case sw => omega); (case su => omega))
  | ((with_reducible refine' s_isTup ?sv ?_); (case sv => walk_at "hp"))
  | ((with_reducible refine' s_extl ?sv ?sw ?su ?_); (case sv => walk_at "hp"); (case sw => walk_at "hp"); (case su => walk_at "sz"))
  | ((with_reducible refine' s_gseqT ?sv ?sw ?_); (case sv => walk_at "hp"); (case sw => rfl))
  | ((with_reducible refine' s_gseqL ?sv ?sw ?_); (case sv => walk_at "hp"); (case sw => rfl))
  | (with_reducible refine c_chain ?_)
  | ((with_reducible refine' s_rng1' ?sv ?sw ?_); (case sv => omega); (case sw => omega))
  | ((with_reducible refine' s_rng2' ?sv ?_); (case sv => refine ⟨?_, ?_, ?_, ?_⟩ <;> omega))
  | (with_reducible refine s_callx ?_)
  | ((with_reducible refine' w_t ?sv ?_); (case sv => rfl))
  | ((with_reducible refine' w_f ?sv ?_); (case sv => rfl))
  | ((with_reducible refine' x_one ?sv ?sw ?_); (case sv => walk_at "hp"); (case sw => assumption))
  | (with_reducible refine x_at ?_)
  | ((with_reducible refine' x_get ?sv ?sw ?_); (case sv => walk_at "hp"); (case sw => rfl))
  | ((with_reducible refine' s_addl ?sv ?sw ?su ?_); (case sv => walk_at "hp"); (case sw => walk_at "hp"); (case su => walk_at "sz"))
  | (with_reducible refine c_lrv ?_)
  | ((with_reducible refine' c_rvl ?sv ?_); (case sv => walk_at "hp"))
  | ((with_reducible refine' s_setl ?sv ?sw ?_); (case sv => walk_at "hp"); (case sw => rfl))
  | ((with_reducible refine' c_ri ?sv ?_); (case sv => walk_at "ci"))
  | ((with_reducible refine' c_mul ?sv ?_); (case sv => walk_at "ci"))
  | ((with_reducible refine' c_neNil ?sv ?sw ?_); (case sv => walk_at "hp"); (case sw => walk_at "hp"))
  | (with_reducible refine c_u ?_)
  | ((with_reducible refine' c_wipe ?sv ?_); (case sv => rfl))
  | ((with_reducible refine' s_gtup ?sv ?sw ?_); (case sv => walk_at "hp"); (case sw => rfl))
  | (with_reducible refine s_gcons ?_)
  | (with_reducible refine s_gnil ?_)
  | ((with_reducible refine' c_tupL ?sv ?_); (case sv => walk_at "hp"))
  | ((with_reducible refine' c_tupT ?sv ?_); (case sv => walk_at "hp"))
  | ((with_reducible refine' c_lstL ?sv ?_); (case sv => walk_at "hp"))
  | ((with_reducible refine' c_lstT ?sv ?_); (case sv => walk_at "hp"))
  | (with_reducible refine c_max ?_)
  | (with_reducible refine c_min ?_)
  | (with_reducible refine c_abs ?_)
  | (with_reducible refine c_int ?_)
  | (with_reducible refine c_intb ?_)
  | (with_reducible refine c_lrg ?_)
  | (with_reducible refine c_rg2 ?_)
  | (with_reducible refine c_ii ?_)
  | (with_reducible refine c_lc ?_)
  | ((with_reducible refine' c_seql' ?sv ?_); (case sv => walk_at "hp"))
  | ((with_reducible refine' c_seqt' ?sv ?_); (case sv => walk_at "hp"))
  | (with_reducible refine c_yes ?_)
  | ((with_reducible refine' s_sll ?sv ?_); (case sv => walk_at "hp"))
  | (with_reducible refine n_isr ?_)
  | (with_reducible refine n_isi ?_)
  | (with_reducible refine n_iss ?_)
  | (with_reducible refine n_non ?_)
  | (with_reducible refine n_nor ?_)
  | (with_reducible refine n_noi ?_)
  | (with_reducible refine n_nos ?_))
local macro_rules | `(tactic| walk_at "st") => `(tactic| repeat1' walk_at "s1")
section
variable {P : Program} {w : World} {K : PySem.W.Frag} {mg : Str → Option Value} {base : Heap}
def startsTo (z : Str) (n : Nat) : List V := (List.range n).map fun i => V.int (begins (parted 10 (tl z)) i : Nat)
abbrev startsV (z : Str) : List V := startsTo z ((parted 10 (tl z)).length + 1)
theorem startsTo_succ (z : Str) (n : Nat) : startsTo z (n + 1) = startsTo z n ++ [.int (begins (parted 10 (tl z)) n : Nat)] := by
  unfold startsTo
  rw [List.range_succ, List.map_append]
  rfl
theorem startsTo_length (z : Str) (n : Nat) : (startsTo z n).length = n := by unfold startsTo; rw [List.length_map, List.length_range]
theorem startsTo_get (z : Str) {n i : Nat} (h : i < n) : (startsTo z n)[i]? = some (.int (begins (parted 10 (tl z)) i : Nat)) := by
  unfold startsTo
  rw [List.getElem?_map, List.getElem?_range h]
  rfl
theorem many_le {z : Str} (hz : z.length ≤ 4000) : (parted 10 (tl z)).length ≤ 4001 := by
  have hc : (tl z).count 10 ≤ (tl z).length := List.count_le_length
  rw [parted_length]
  rw [← len_tl] at hc
  omega
theorem many_pos (z : Str) : 0 < (parted 10 (tl z)).length := by rw [parted_length]; omega
theorem begins_le {z : Str} {i : Nat} (h : i ≤ (parted 10 (tl z)).length) : begins (parted 10 (tl z)) i ≤ z.length + 1 := by
  rw [len_tl, ← parted_total 10 (tl z)]
  exact begins_mono _ h
theorem begins_in {z : Str} {i : Nat} (h : i < (parted 10 (tl z)).length) : begins (parted 10 (tl z)) i ≤ z.length := by
  have h1 := begins_lt (parted 10 (tl z)) h (Nat.le_refl _)
  rw [parted_total, ← len_tl] at h1
  omega

/-! ## _law_starts -/
abbrev s__law_starts : Stmt := top 38
abbrev N__law_starts : List Str := ["text", "found", "at"]
theorem sc__law_starts : FnScope ["text", "found", "at"] ["text"] (defScope s__law_starts) := ⟨rfl, rfl, rfl, by decide +kernel, rfl, by decide +kernel, by decide +kernel⟩
def sp__law_starts (K : PySem.W.Frag) : Sp := fun vs H Q E => ∃ (z : Str), vs = [.str z] ∧ (z.length ≤ 4000) ∧ (∀ q H', Ext H H' → H q = none → H' q = some (.lst (startsV z)) → Q (.ref q) H')
theorem use__law_starts {K : PySem.W.Frag} {H : Hp} {Q : VK} {E : XK} {z : Str} (pre : z.length ≤ 4000) (post : ∀ q H', Ext H H' → H q = none → H' q = some (.lst (startsV z)) → Q (.ref q) H') : sp__law_starts K [.str z] H Q E := ⟨z, rfl, pre, post⟩
theorem ok__law_starts (R : RawFn K mg "_law_starts" s__law_starts) (n_len : mg "len" = none) : DefOk P w K mg base CX0 "_law_starts" s__law_starts 1 ["text"] (sp__law_starts K) := by
  refine R.ok sc__law_starts (fun _ _ _ _ _ _ us hl => match us, hl with | [_], _ => rfl) (fun vs H Q E h => by obtain ⟨_, rfl, _⟩ := h; rfl) (fun f cdv A outer s H vs Q E hr h => ?_)
  have hu := units64 hr
  obtain ⟨z, rfl, pre, q⟩ := h
  refine ⟨_, (pss_cons (ps_par (i := 1) (j := 2) rfl sc__law_starts.nd rfl rfl (by decide) rfl rfl (pa_cons (pe_lst (pa_cons pe_int pa_nil)) (pa_cons (pe_m1 PySem.F.slot_str_find PySem.F.type_str_find mt_find (pv 0) pe_str) pa_nil)) (by rfl))
      (pss_cons (ps_while PassesOwn.never (pt_cmpR op_ge (pv 2) pe_int (nomark _))
      (pss_cons (ps_expr (pe_bm PySem.F.plainAttrs_list PySem.F.slot_list_append PySem.F.type_list_append mt_append (pv 1) (pa_cons (pe_op op_addA (pv 2) pe_int) pa_nil)))
      (pss_one (ps_set (i := 2) sc__law_starts.nd rfl (Or.inl rfl) (pe_bm PySem.F.plainAttrs_str PySem.F.slot_str_find PySem.F.type_str_find mt_find3 (pv 0) (pa_cons pe_str (pa_cons (pe_op op_addA (pv 2) pe_int) pa_nil)))))))
      (pss_one (ps_ret (pe_op op_addA (pv 1) (pe_lst (pa_cons (pe_op op_addA (pe_callB call_lenA (by rfl) n_len (by decide +kernel) (pa_cons (pv 0) pa_nil)) pe_int) pa_nil))))))), ?_⟩
  have hm := many_le pre
  walk_at "st"
  intro pf hpf
  walk_at "st"
  rw [show Txt.find z "\n" = findFrom (tl z) 10 0 from find_one z 10]
  have fl := find_line 10 (tl z)
  refine s_whileJ (fun m σ H' => ∃ i, i < (parted 10 (tl z)).length ∧ σ = [some (.str z), some (.ref pf), some (.int (findFrom (tl z) 10 (begins (parted 10 (tl z)) i)))] ∧ Ext H H' ∧ H' pf = some (.lst (startsTo z (i + 1))) ∧ m = (parted 10 (tl z)).length - i)
    (fun σ H' => ∃ o, σ = [some (.str z), some (.ref pf), o] ∧ Ext H H' ∧ H' pf = some (.lst (startsTo z (parted 10 (tl z)).length)))
    ⟨_, 0, many_pos z, rfl, by walk_at "ex", upd_same, rfl⟩ ?_ ?_
  · rintro σ H1 ⟨o, rfl, x1, h1⟩
    walk_at "st"
    intro r hr1
    have hpr : pf ≠ r := by grind [upd]
    have hsl := startsTo_length z (parted 10 (tl z)).length
    walk_at "st"
    intro t ht
    have ht1 : H1 t = none := (Ext.new hr1 _).none ht
    refine q t _ ((x1.up hr1 _).up ht _) (x1.none ht1) ?_
    have e : startsV z = startsTo z (parted 10 (tl z)).length ++ [.int ((z.length : Int) + 1)] := by
      show startsTo z ((parted 10 (tl z)).length + 1) = _
      rw [startsTo_succ, parted_total, len_tl]
      rfl
    rw [upd_same, e]
  rintro nx' fin m σ H1 ⟨i, hi, rfl, x1, h1, rfl⟩
  have hsl := startsTo_length z (i + 1)
  have hb := begins_le (z := z) (i := i + 1) hi
  by_cases h2 : i + 1 < (parted 10 (tl z)).length
  · have f1 := fl i hi
    rw [if_pos h2] at f1
    have h3 : begins (parted 10 (tl z)) 0 < begins (parted 10 (tl z)) (i + 1) := begins_lt _ (Nat.zero_lt_succ i) (Nat.le_of_lt h2)
    rw [begins_zero] at h3
    rw [f1]
    walk_at "st"
    rw [decide_eq_true (show (0 : Int) ≤ (begins (parted 10 (tl z)) (i + 1) : Int) - 1 by omega)]
    walk_at "st"
    refine ⟨_, _, _, rfl, rfl, ?_⟩
    have hb2 := begins_in h2
    rw [show (begins (parted 10 (tl z)) (i + 1) : Int) - 1 + 1 = ((begins (parted 10 (tl z)) (i + 1) : Nat) : Int) from by omega]
    rw [show Txt.find3 z "\n" ((begins (parted 10 (tl z)) (i + 1) : Nat) : Int) = _ from find3_one z 10 _ hb2]
    walk_at "st"
    exact ⟨_, (by omega : (parted 10 (tl z)).length - (i + 1) < (parted 10 (tl z)).length - i), i + 1, h2, rfl, x1.up0 hpf _, by rw [upd_same, startsTo_succ z (i + 1)], rfl⟩
  · have f1 := fl i hi
    rw [if_neg h2] at f1
    rw [f1]
    walk_at "st"
    have e : i + 1 = (parted 10 (tl z)).length := by omega
    exact fin _ _ ⟨_, rfl, x1, by rw [← e]; exact h1⟩
/-! ## _law_line_at -/
abbrev s__law_line_at : Stmt := top 39
abbrev N__law_line_at : List Str := ["starts", "place", "line"]
theorem sc__law_line_at : FnScope ["starts", "place", "line"] ["starts", "place"] (defScope s__law_line_at) := ⟨rfl, rfl, rfl, by decide +kernel, rfl, by decide +kernel, by decide +kernel⟩
def sp__law_line_at (K : PySem.W.Frag) : Sp := fun vs H Q E => ∃ (a : Addr) (z : Str) (p : Nat), vs = [.ref a, .int p] ∧ (z.length ≤ 4000 ∧ p ≤ z.length ∧ H a = some (.lst (startsV z))) ∧ (Q (.int ((((tl z).take p).count 10 : Nat) + 1)) H)
theorem use__law_line_at {K : PySem.W.Frag} {H : Hp} {Q : VK} {E : XK} {a : Addr} {z : Str} {p : Nat} (pre : z.length ≤ 4000 ∧ p ≤ z.length ∧ H a = some (.lst (startsV z))) (post : Q (.int ((((tl z).take p).count 10 : Nat) + 1)) H) : sp__law_line_at K [.ref a, .int p] H Q E := ⟨a, z, p, rfl, pre, post⟩
theorem ok__law_line_at (R : RawFn K mg "_law_line_at" s__law_line_at) (n_len : mg "len" = none) : DefOk P w K mg base CX0 "_law_line_at" s__law_line_at 1 ["starts", "place"] (sp__law_line_at K) := by
  refine R.ok sc__law_line_at (fun _ _ _ _ _ _ us hl => match us, hl with | [_, _], _ => rfl) (fun vs H Q E h => by obtain ⟨_, _, _, rfl, _⟩ := h; rfl) (fun f cdv A outer s H vs Q E hr h => ?_)
  have hu := units64 hr
  obtain ⟨a, z, p, rfl, pre, q⟩ := h
  refine ⟨_, (pss_cons (ps_set (i := 2) sc__law_line_at.nd rfl (Or.inl rfl) pe_int)
      (pss_cons (ps_while PassesOwn.never (PW.pt (pw_and (pt_cmpR op_lt (pe_op op_addA (pv 2) pe_int) (pe_callB call_lenA (by rfl) n_len (by decide +kernel) (pa_cons (pv 0) pa_nil)) (nomark _)) (pw_and1 (pt_cmpR op_le (pe_ix ix_seq (pv 0) (pv 2) (fun _ _ => rfl)) (pv 1) (nomark _)))))
      (pss_one (ps_set (i := 2) sc__law_line_at.nd rfl (Or.inl rfl) (pe_op op_addA (pv 2) pe_int))))
      (pss_one (ps_ret (pv 2))))), ?_⟩
  obtain ⟨hz, hp, ha⟩ := pre
  have hm := many_le hz
  have hp' : p ≤ (tl z).length := by rw [← len_tl]; exact hp
  have hsl := startsTo_length z ((parted 10 (tl z)).length + 1)
  walk_at "st"
  refine s_whileJ (fun m σ H' => ∃ i : Nat, i < (parted 10 (tl z)).length ∧ begins (parted 10 (tl z)) i ≤ p ∧ H' = H ∧ σ = [some (.ref a), some (.int p), some (.int ((i : Int) + 1))] ∧ m = (parted 10 (tl z)).length - i)
    (fun σ H' => H' = H ∧ σ = [some (.ref a), some (.int p), some (.int ((((tl z).take p).count 10 : Nat) + 1))])
    ⟨_, 0, many_pos z, by rw [begins_zero]; omega, rfl, rfl, rfl⟩ ?_ ?_
  · rintro σ H1 ⟨rfl, rfl⟩
    walk_at "st"
    exact q
  rintro nx' fin m σ H1 ⟨i, hi, hb, rfl, rfl, rfl⟩
  have done : p < begins (parted 10 (tl z)) (i + 1) → nx' [some (.ref a), some (.int p), some (.int ((i : Int) + 1))] H1 := fun h => by
    refine fin _ _ ⟨rfl, ?_⟩
    rw [spot_of hp' hi hb h]
  walk_at "st"
  rw [hsl]
  refine w_if (fun h2 => ?_) (fun h2 => ?_)
  · have h3 : i + 1 < (parted 10 (tl z)).length := by omega
    walk_at "st"
    have hg : (startsV z)[i + 1]? = some (.int (begins (parted 10 (tl z)) (i + 1) : Nat)) := startsTo_get z (by omega)
    refine s_ixl ha (atI_nat' (k := i + 1) hg) ?_
    walk_at "st"
    refine w_if (fun h4 => ?_) (fun h4 => ?_)
    · walk_at "st"
      exact ⟨_, (by omega : (parted 10 (tl z)).length - (i + 1) < (parted 10 (tl z)).length - i), i + 1, h3, by omega, rfl, rfl, rfl⟩
    · exact done (by omega)
  · have e : i + 1 = (parted 10 (tl z)).length := by omega
    refine done ?_
    rw [e, parted_total]
    omega
end
end K04

set_option Elab.async false
set_option linter.all false
set_option maxRecDepth 100000
set_option maxHeartbeats 2000000
set_option autoImplicit false
namespace K04
open PySem PySem.Spec PyProof.Rows L2 TN
open L2H (cxH RoomH)
local macro_rules | `(tactic| walk_at "nq") => `(tactic| first
  | assumption
  | (apply Ne.symm; assumption)
  | grind [upd])
local macro_rules | `(tactic| walk_at "hp") => `(tactic| first
  | assumption
  | exact upd_same
  | (refine up_next ?nq0 ?hp0; (case nq0 => walk_at "nq"); (case hp0 => walk_at "hp")))
local macro_rules | `(tactic| walk_at "ex") => `(tactic| first
  | assumption
  | exact Ext.rfl'
  | (refine Ext.up ?xa ?xb _; (case xb => assumption); (case xa => walk_at "ex"))
  | (refine Ext.up0 ?xa ?xb _; (case xb => assumption); (case xa => walk_at "ex"))
  | (refine Ext.trans ?xb ?xa; (case xb => assumption); (case xa => walk_at "ex")))
local macro_rules | `(tactic| walk_at "eb") => `(tactic| first
  | assumption
  | exact ExtB.rfl'
  | (refine ExtB.up ?xa ?xb _; (case xb => assumption); (case xa => walk_at "eb"))
  | (refine ExtB.up0 ?xa ?xb _; (case xb => assumption); (case xa => walk_at "eb"))
  | (refine ExtB.trans ?xb ?xa; (case xa => assumption); (case xb => walk_at "eb"))
  | (refine ExtB.trans ?xb (ExtB.of ?xa); (case xa => assumption); (case xb => walk_at "eb")))
local macro_rules | `(tactic| walk_at "bg") => `(tactic| first
  | assumption
  | (refine BagAt.up ?xa ?xb _; (case xb => assumption); (case xa => walk_at "bg"))
  | (refine BagAt.ext ?xb ?xa; (case xa => assumption); (case xb => walk_at "bg")))
local macro_rules | `(tactic| walk_at "sz") => `(tactic| first
  | assumption
  | decide
  | (simp only [sizeLine_eq, List.length_append, List.length_cons, List.length_nil, List.length_map] at *; omega))
local macro_rules | `(tactic| walk_at "ci") => `(tactic| first
  | exact m2 (by decide)
  | exact m1 (by decide)
  | exact m1 ⟨by omega, by omega⟩
  | (show (0 : Int) < _; first | decide | omega | assumption)
  | exact ⟨by first | decide | omega, by first | decide | omega⟩
  | exact ⟨by decide, by decide, by decide⟩)
local macro_rules | `(tactic| walk_at "s1") => `(tactic| first
  | (with_reducible refine s_seq ?_)
  | (with_reducible refine s_asg ?_)
  | (with_reducible refine s_gname ?_)
  | (with_reducible refine s_ret ?_)
  | (with_reducible refine s_retn ?_)
  | (with_reducible refine s_next ?_)
  | (with_reducible refine s_drop ?_)
  | (with_reducible refine s_ifs ?_)
  | (with_reducible refine s_par ?_)
  | (with_reducible refine s_two ?_)
  | ((with_reducible refine' s_var ?sv ?_); (case sv => rfl))
  | (with_reducible refine s_c ?_)
  | (with_reducible refine s_op ?_)
  | (with_reducible refine s_un ?_)
  | (with_reducible refine s_test ?_)
  | (with_reducible refine s_tb ?_)
  | (with_reducible refine s_bl ?_)
  | (with_reducible refine s_and ?_)
  | (with_reducible refine s_or ?_)
  | (with_reducible refine s_not ?_)
  | (with_reducible refine s_andv ?_)
  | (with_reducible refine s_orv ?_)
  | (with_reducible refine s_notv ?_)
  | (with_reducible refine s_if ?_)
  | (with_reducible refine s_nil ?_)
  | (with_reducible refine s_cons ?_)
  | (with_reducible refine s_tup ?_)
  | (with_reducible refine s_lst ?_)
  | ((with_reducible refine' s_few ?sv ?_); (case sv => rfl))
  | (with_reducible refine s_m0 ?_)
  | (with_reducible refine s_m1 ?_)
  | (with_reducible refine s_str ?_)
  | (with_reducible refine s_cb ?_)
  | (with_reducible refine s_calld ?_)
  | (with_reducible refine s_callw ?_)
  | (with_reducible refine s_callk ?_)
  | (with_reducible refine s_callkw ?_)
  | (with_reducible refine s_sl ?_)
  | (with_reducible refine s_part ?_)
  | (with_reducible refine s_nopart ?_)
  | (with_reducible refine s_int ?_)
  | (with_reducible refine s_i2 ?_)
  | (with_reducible refine s_addi ?_)
  | ((with_reducible refine' s_adds ?sv ?_); (case sv => walk_at "sz"))
  | ((with_reducible refine' s_eqs ?sv ?_); (case sv => rfl))
  | ((with_reducible refine' s_nes ?sv ?_); (case sv => rfl))
  | (with_reducible refine s_ins ?_)
  | ((with_reducible refine' s_lens ?sv ?_); (case sv => walk_at "sz"))
  | ((with_reducible refine' s_lenl ?sv ?_); (case sv => walk_at "hp"))
  | ((with_reducible refine' s_lent ?sv ?_); (case sv => walk_at "hp"))
  | ((with_reducible refine' s_sls ?sv ?_); (case sv => walk_at "sz"))
  | (with_reducible refine w_tt ?_)
  | (with_reducible refine w_ff ?_)
  | (with_reducible refine s_ex2 ?_)
  | (with_reducible refine s_bm ?_)
  | (with_reducible refine s_bm0 ?_)
  | (with_reducible refine s_tys ?_)
  | ((with_reducible refine' s_tyl ?sv ?_); (case sv => walk_at "hp"))
  | ((with_reducible refine' s_app ?sv ?sw ?_); (case sv => walk_at "hp"); (case sw => walk_at "sz"))
  | (with_reducible refine s_gsub ?_)
  | ((with_reducible refine' s_ixt ?sv ?sw ?_); (case sv => walk_at "hp"); (case sw => rfl))
  | ((with_reducible refine' s_ixl ?sv ?sw ?_); (case sv => walk_at "hp"); (case sw => rfl))
  | (with_reducible refine s_pnx ?_)
  | (with_reducible refine s_prt ?_)
  | (with_reducible refine s_turn ?_)
  | (with_reducible refine s_for ?_)
  | (with_reducible refine s_ilist ?_)
  | (with_reducible refine s_itup ?_)
  | (with_reducible refine s_rng1 ?_)
  | (with_reducible refine s_rng2 ?_)
  | (with_reducible refine s_isStr ?_)
  | (with_reducible refine n_isn ?_)
  | ((with_reducible refine' c_mulS ?sv ?sw ?su ?_); (case sv => rfl); (case sw => omega); (case su => omega))
  | ((with_reducible refine' s_isTup ?sv ?_); (case sv => walk_at "hp"))
  | ((with_reducible refine' s_extl ?sv ?sw ?su ?_); (case sv => walk_at "hp"); (case sw => walk_at "hp"); (case su => walk_at "sz"))
  | ((with_reducible refine' s_gseqT ?sv ?sw ?_); (case sv => walk_at "hp"); (case sw => rfl))
  | ((with_reducible refine' s_gseqL ?sv ?sw ?_); (case sv => walk_at "hp"); (case sw => rfl))
  | (with_reducible refine c_chain ?_)
  | ((with_reducible refine' s_rng1' ?sv ?sw ?_); (case sv => omega); (case sw => omega))
  | ((with_reducible refine' s_rng2' ?sv ?_); (case sv => refine ⟨?_, ?_, ?_, ?_⟩ <;> omega))
  | (with_reducible refine s_callx ?_)
  | ((with_reducible refine' w_t ?sv ?_); (case sv => rfl))
  | ((with_reducible refine' w_f ?sv ?_); (case sv => rfl))
  | ((with_reducible refine' x_one ?sv ?sw ?_); (case sv => walk_at "hp"); (case sw => assumption))
  | (with_reducible refine x_at ?_)
  | ((with_reducible refine' x_get ?sv ?sw ?_); (case sv => walk_at "hp"); (case sw => rfl))
  | ((with_reducible refine' s_addl ?sv ?sw ?su ?_); (case sv => walk_at "hp"); (case sw => walk_at "hp"); (case su => walk_at "sz"))
  | (with_reducible refine c_lrv ?_)
  | ((with_reducible refine' c_rvl ?sv ?_); (case sv => walk_at "hp"))
  | ((with_reducible refine' s_setl ?sv ?sw ?_); (case sv => walk_at "hp"); (case sw => rfl))
  | ((with_reducible refine' c_ri ?sv ?_); (case sv => walk_at "ci"))
  | ((with_reducible refine' c_mul ?sv ?_); (case sv => walk_at "ci"))
  | ((with_reducible refine' c_neNil ?sv ?sw ?_); (case sv => walk_at "hp"); (case sw => walk_at "hp"))
  | (with_reducible refine c_u ?_)
  | ((with_reducible refine' c_wipe ?sv ?_); (case sv => rfl))
  | ((with_reducible refine' s_gtup ?sv ?sw ?_); (case sv => walk_at "hp"); (case sw => rfl))
  | (with_reducible refine s_gcons ?_)
  | (with_reducible refine s_gnil ?_)
  | ((with_reducible refine' c_tupL ?sv ?_); (case sv => walk_at "hp"))
  | ((with_reducible refine' c_tupT ?sv ?_); (case sv => walk_at "hp"))
  | ((with_reducible refine' c_lstL ?sv ?_); (case sv => walk_at "hp"))
  | ((with_reducible refine' c_lstT ?sv ?_); (case sv => walk_at "hp"))
  | (with_reducible refine c_max ?_)
  | (with_reducible refine c_min ?_)
  | (with_reducible refine c_abs ?_)
  | (with_reducible refine c_int ?_)
  | (with_reducible refine c_intb ?_)
  | (with_reducible refine c_lrg ?_)
  | (with_reducible refine c_rg2 ?_)
  | (with_reducible refine c_ii ?_)
  | (with_reducible refine c_lc ?_)
  | ((with_reducible refine' c_seql' ?sv ?_); (case sv => walk_at "hp"))
  | ((with_reducible refine' c_seqt' ?sv ?_); (case sv => walk_at "hp"))
  | (with_reducible refine c_yes ?_)
  | ((with_reducible refine' s_sll ?sv ?_); (case sv => walk_at "hp"))
  | (with_reducible refine n_isr ?_)
  | (with_reducible refine n_isi ?_)
  | (with_reducible refine n_iss ?_)
  | (with_reducible refine n_non ?_)
  | (with_reducible refine n_nor ?_)
  | (with_reducible refine n_noi ?_)
  | (with_reducible refine n_nos ?_))
local macro_rules | `(tactic| walk_at "st") => `(tactic| repeat1' walk_at "s1")
section
variable {P : Program} {w : World} {K : PySem.W.Frag} {mg : Str → Option Value} {base : Heap}

/-! ## _law_signs -/
abbrev s__law_signs : Stmt := top 40
abbrev N__law_signs : List Str := ["bag", "some", "turn"]
theorem sc__law_signs : FnScope ["bag", "some", "turn"] ["bag"] (defScope s__law_signs) := ⟨rfl, rfl, rfl, by decide +kernel, rfl, by decide +kernel, by decide +kernel⟩
def sp__law_signs (K : PySem.W.Frag) : Sp := fun vs H Q E => ∃ (b : Addr) (l : Addr), vs = [.ref b] ∧ (BagAt b l H) ∧ (∀ q (ss : List Str) H', ExtB b l H H' → BagAt b l H' → H q = none → H' q = some (.lst (ss.map V.str)) → ss.length ≤ 30 → (∀ s ∈ ss, s ∈ someL) → Q (.ref q) H')
theorem use__law_signs {K : PySem.W.Frag} {H : Hp} {Q : VK} {E : XK} {b : Addr} {l : Addr} (pre : BagAt b l H) (post : ∀ q (ss : List Str) H', ExtB b l H H' → BagAt b l H' → H q = none → H' q = some (.lst (ss.map V.str)) → ss.length ≤ 30 → (∀ s ∈ ss, s ∈ someL) → Q (.ref q) H') : sp__law_signs K [.ref b] H Q E := ⟨b, l, rfl, pre, post⟩
theorem ok__law_signs (R : RawFn K mg "_law_signs" s__law_signs) (d__law_draw : DefOk P w K mg base CX0 "_law_draw" s__law_draw 1 ["bag", "below"] (sp__law_draw K)) (d__law_pick : DefOk P w K mg base CX0 "_law_pick" s__law_pick 2 ["bag", "some"] (sp__law_pick K)) (n_range : mg "range" = none) : DefOk P w K mg base CX0 "_law_signs" s__law_signs 3 ["bag"] (sp__law_signs K) := by
  refine R.ok sc__law_signs (fun _ _ _ _ _ _ us hl => match us, hl with | [_], _ => rfl) (fun vs H Q E h => by obtain ⟨_, _, rfl, _⟩ := h; rfl) (fun f cdv A outer s H vs Q E hr h => ?_)
  have hu := units64 hr
  obtain ⟨b, l, rfl, pre, q⟩ := h
  refine ⟨_, (pss_cons (ps_set (i := 1) sc__law_signs.nd rfl (Or.inr rfl) (pe_lst (pa_cons pe_str (pa_cons pe_str (pa_cons pe_str (pa_cons pe_str (pa_cons pe_str (pa_cons pe_str (pa_cons pe_str (pa_cons pe_str (pa_cons pe_str (pa_cons pe_str (pa_cons pe_str (pa_cons pe_str (pa_cons pe_str (pa_cons pe_str (pa_cons pe_str (pa_cons pe_str (pa_cons pe_str pa_nil)))))))))))))))))))
      (pss_one (ps_ret (pe_lc (own := [("turn", 2)]) (g := gName 2) (tt := tYes) rfl sc__law_signs.nd (pi_range1 rfl n_range (pa_cons (pe_callD (E := E0) d__law_pick (hr.mono (by decide)) pass0 (pa_cons (pv 0) (pa_cons (pe_lst (pa_cons pe_int (pa_cons pe_int (pa_cons pe_int (pa_cons pe_int (pa_cons (pe_callD (E := E0) d__law_draw (hr.mono (by decide)) pass0 (pa_cons (pv 0) (pa_cons pe_int pa_nil))) pa_nil)))))) pa_nil))) pa_nil)) (blkOk_by (N := N__law_signs) (sc := defScope s__law_signs) (by decide +kernel)) (fun _ _ _ _ _ => pg_name (i := 2) sc__law_signs.nd rfl (Or.inl rfl)) (fun _ _ _ _ _ => pts_nil) (fun _ _ _ _ _ => (pe_callD (E := E0) d__law_pick (hr.mono (by decide)) pass0 (pa_cons (pv 0) (pa_cons (pv 1) pa_nil)))))))), ?_⟩
  walk_at "st"
  intro a ha
  obtain ⟨nab, nal⟩ := pre.fresh ha
  have B0 := pre.up ha (.lst (someL.map V.str))
  walk_at "st"
  refine use__law_draw (l := l) (n := 30) ⟨B0, by decide, by decide⟩ fun v H1 x1 B1 hv => ?_
  have ha1 := x1 _ _ nab nal upd_same
  walk_at "st"
  intro c hc
  obtain ⟨ncb, ncl⟩ := B1.fresh hc
  walk_at "st"
  refine use__law_pick (l := l) ⟨B1.up hc _, upd_same, ncb, ncl, by simp, by simp⟩ fun x H2 hx x2 B2 => ?_
  obtain ⟨k, rfl, hk⟩ : ∃ k : Nat, x = .int k ∧ k ≤ 30 := by
    simp only [List.mem_cons, List.not_mem_nil, or_false] at hx
    rcases hx with rfl | rfl | rfl | rfl | rfl
    · exact ⟨0, rfl, by decide⟩
    · exact ⟨1, rfl, by decide⟩
    · exact ⟨3, rfl, by decide⟩
    · exact ⟨10, rfl, by decide⟩
    · exact ⟨v, rfl, by omega⟩
  have hca : a ≠ c := by grind [upd]
  have ha2 : H2 a = some (.lst (someL.map V.str)) := x2 _ _ nab nal (by rw [upd_ne hca]; exact ha1)
  walk_at "st"
  intro D hD
  obtain ⟨nDb, nDl⟩ := B2.fresh hD
  have haD : a ≠ D := by grind [upd]
  have xA : ExtB b l H H2 := ((ExtB.rfl'.up ha _).trans x1).trans ((ExtB.rfl'.up hc _).trans x2)
  have hDn : H D = none := xA.none nDb nDl hD
  refine lc_range (fun j H' => ∃ ss : List Str, ExtB b l H H' ∧ BagAt b l H' ∧ H' a = some (.lst (someL.map V.str)) ∧ H' D = some (.lst (ss.map V.str)) ∧ ss.length ≤ j ∧ ∀ s ∈ ss, s ∈ someL)
    ⟨[], xA.up hD _, B2.up hD _, by walk_at "hp", upd_same, by simp, by simp⟩ (fun j H' hj h => ?_) (fun H' h => ?_)
  · obtain ⟨ss, x3, B3, h1, h2, h3, h4⟩ := h
    walk_at "st"
    refine use__law_pick (l := l) ⟨B3, h1, nab, nal, by simp [someL], by decide⟩ fun x H4 hx x4 B4 => ?_
    obtain ⟨s, hs, rfl⟩ := List.mem_map.mp hx
    have h5 := x4 _ _ nDb nDl h2
    have h6 := x4 _ _ nab nal h1
    refine ⟨_, h5, by rw [List.length_map, sizeLine_eq]; omega, ss ++ [s], (x3.trans x4).up0 hDn _, B4.off nDb nDl _, by walk_at "hp", by rw [upd_same, List.map_append]; rfl, by simp; omega, ?_⟩
    · intro y hy
      rcases List.mem_append.mp hy with hy | hy
      · exact h4 y hy
      · have : y = s := by simpa using hy
        rw [this]; exact hs
  · obtain ⟨ss, x3, B3, h1, h2, h3, h4⟩ := h
    exact q D ss H' x3 B3 hDn h2 (by omega) h4
/-! texts of blanks -/
structure Joined (ss : List Str) (t : Str) : Prop where
  ex : ∃ (pre post : List Nat) (prs : List (Str × Str)), prs.map Prod.fst = ss ∧ (∀ pr ∈ prs, BlankT pr.2) ∧ (∀ c ∈ pre, c ∈ blanks) ∧ (∀ c ∈ post, c ∈ blanks) ∧ tl t = pre ++ flatP prs ++ post
  le : t.length ≤ 6 + 11 * ss.length
theorem flatP_len : ∀ (prs : List (Str × Str)), (∀ pr ∈ prs, pr.1.length ≤ 8 ∧ BlankT pr.2) → (flatP prs).length ≤ 11 * prs.length
  | [], _ => by simp [flatP]
  | pr :: prs, h => by
    have ih := flatP_len prs fun x hx => h x (List.mem_cons_of_mem _ hx)
    obtain ⟨h1, h2⟩ := h pr List.mem_cons_self
    have h3 := h2.le
    rw [len_tl] at h1 h3
    show ((tl pr.1 ++ tl pr.2) ++ flatP prs).length ≤ _
    rw [List.length_append, List.length_append, List.length_cons]
    omega
theorem flatP_snoc (prs : List (Str × Str)) (pr : Str × Str) : flatP (prs ++ [pr]) = flatP prs ++ (tl pr.1 ++ tl pr.2) := by simp [flatP]
/-! ## _law_joined -/
abbrev s__law_joined : Stmt := top 41
abbrev N__law_joined : List Str := ["bag", "signs", "blanks", "found", "sign"]
theorem sc__law_joined : FnScope ["bag", "signs", "blanks", "found", "sign"] ["bag", "signs", "blanks"] (defScope s__law_joined) := ⟨rfl, rfl, rfl, by decide +kernel, rfl, by decide +kernel, by decide +kernel⟩
def sp__law_joined (K : PySem.W.Frag) : Sp := fun vs H Q E => ∃ (b : Addr) (l : Addr) (a : Addr) (c : Addr) (ss : List Str) (bs : List Str), vs = [.ref b, .ref a, .ref c] ∧ (BagAt b l H ∧ (H a = some (.lst (ss.map V.str)) ∧ a ≠ b ∧ a ≠ l ∧ ss.length ≤ 30 ∧ ∀ s ∈ ss, s.length ≤ 8) ∧ (H c = some (.lst (bs.map V.str)) ∧ c ≠ b ∧ c ≠ l ∧ bs ≠ [] ∧ bs.length ≤ 1000 ∧ ∀ s ∈ bs, BlankT s)) ∧ (∀ t H', ExtB b l H H' → BagAt b l H' → Joined ss t → Q (.str t) H')
theorem use__law_joined {K : PySem.W.Frag} {H : Hp} {Q : VK} {E : XK} {b : Addr} {l : Addr} {a : Addr} {c : Addr} {ss : List Str} {bs : List Str} (pre : BagAt b l H ∧ (H a = some (.lst (ss.map V.str)) ∧ a ≠ b ∧ a ≠ l ∧ ss.length ≤ 30 ∧ ∀ s ∈ ss, s.length ≤ 8) ∧ (H c = some (.lst (bs.map V.str)) ∧ c ≠ b ∧ c ≠ l ∧ bs ≠ [] ∧ bs.length ≤ 1000 ∧ ∀ s ∈ bs, BlankT s)) (post : ∀ t H', ExtB b l H H' → BagAt b l H' → Joined ss t → Q (.str t) H') : sp__law_joined K [.ref b, .ref a, .ref c] H Q E := ⟨b, l, a, c, ss, bs, rfl, pre, post⟩
theorem ok__law_joined (R : RawFn K mg "_law_joined" s__law_joined) (d__law_pick : DefOk P w K mg base CX0 "_law_pick" s__law_pick 2 ["bag", "some"] (sp__law_pick K)) : DefOk P w K mg base CX0 "_law_joined" s__law_joined 3 ["bag", "signs", "blanks"] (sp__law_joined K) := by
  refine R.ok sc__law_joined (fun _ _ _ _ _ _ us hl => match us, hl with | [_, _, _], _ => rfl) (fun vs H Q E h => by obtain ⟨_, _, _, _, _, _, rfl, _⟩ := h; rfl) (fun f cdv A outer s H vs Q E hr h => ?_)
  have hu := units64 hr
  obtain ⟨b, l, a, c, ss, bs, rfl, pre, q⟩ := h
  refine ⟨_, (pss_cons (ps_set (i := 3) sc__law_joined.nd rfl (Or.inl rfl) (pe_callD (E := E0) d__law_pick (hr.mono (by decide)) pass0 (pa_cons (pv 0) (pa_cons (pe_lst (pa_cons pe_str (pa_cons pe_str (pa_cons pe_str (pa_cons pe_str (pa_cons pe_str (pa_cons pe_str pa_nil))))))) pa_nil))))
      (pss_cons (ps_for PassesOwn.never rfl (pi_seq (pv 1)) (pg_name (i := 4) sc__law_joined.nd rfl (Or.inl rfl))
      (pss_one (ps_set (i := 3) sc__law_joined.nd rfl (Or.inl rfl) (pe_op op_addA (pe_op op_addA (pv 3) (pv 4)) (pe_callD (E := E0) d__law_pick (hr.mono (by decide)) pass0 (pa_cons (pv 0) (pa_cons (pv 2) pa_nil)))))))
      (pss_one (ps_ret (pe_op op_addA (pv 3) (pe_callD (E := E0) d__law_pick (hr.mono (by decide)) pass0 (pa_cons (pv 0) (pa_cons (pe_lst (pa_cons pe_str (pa_cons pe_str (pa_cons pe_str (pa_cons pe_str (pa_cons pe_str pa_nil)))))) pa_nil)))))))), ?_⟩
  obtain ⟨B0, ⟨ha, nab, nal, hal, has⟩, ⟨hc, ncb, ncl, hcn, hcl, hcs⟩⟩ := pre
  walk_at "st"
  intro d hd
  walk_at "st"
  obtain ⟨ndb, ndl⟩ := B0.fresh hd
  refine use__law_pick (l := l) ⟨B0.up hd _, upd_same, ndb, ndl, by simp, by simp⟩ fun x H1 hx x1 B1 => ?_
  obtain ⟨t0, rfl, ht0, ht1⟩ : ∃ t0 : Str, x = .str t0 ∧ (∀ c ∈ tl t0, c ∈ blanks) ∧ t0.length ≤ 3 := by
    simp only [List.mem_cons, List.not_mem_nil, or_false] at hx
    rcases hx with rfl | rfl | rfl | rfl | rfl | rfl <;> exact ⟨_, rfl, by decide, by decide⟩
  have xA : ExtB b l H H1 := (ExtB.rfl'.up hd _).trans x1
  walk_at "st"
  refine .inl ?_
  have ha1 := xA _ _ nab nal ha
  have hc1 := xA _ _ ncb ncl hc
  walk_at "st"
  have plen : ∀ (prs : List (Str × Str)) (j : Nat), prs.map Prod.fst = ss.take j → (∀ pr ∈ prs, BlankT pr.2) → (flatP prs).length ≤ 11 * ss.length := fun prs j e hb => by
    have h1 := flatP_len prs fun pr hpr => ⟨has _ (List.mem_of_mem_take (by rw [← e]; exact List.mem_map_of_mem hpr)), hb pr hpr⟩
    have h2 : prs.length = (ss.take j).length := by rw [← e, List.length_map]
    rw [List.length_take] at h2
    omega
  refine f_list (xs := ss.map V.str) (fun j σ H' => ∃ (prs : List (Str × Str)) (t : Str) (o : Option V), σ = [some (.ref b), some (.ref a), some (.ref c), some (.str t), o] ∧ ExtB b l H H' ∧ BagAt b l H' ∧ prs.map Prod.fst = ss.take j ∧ (∀ pr ∈ prs, BlankT pr.2) ∧ tl t = tl t0 ++ flatP prs)
    ⟨[], t0, none, rfl, xA, B1, rfl, by simp, by simp [flatP]⟩ (fun j σ H' h => by obtain ⟨_, _, _, _, x, _⟩ := h; exact sq_l (x _ _ nab nal ha)) ?_ ?_
  · rintro σ H2 ⟨prs, t, o, rfl, x2, B2, e1, hb, et⟩
    rw [List.length_map, List.take_length] at e1
    have hl := plen prs ss.length (by rw [List.take_length]; exact e1) hb
    have htl : t.length ≤ 3 + 11 * ss.length := by rw [len_tl, et, List.length_append, ← len_tl]; omega
    walk_at "st"
    intro d2 hd2
    walk_at "st"
    obtain ⟨nd2b, nd2l⟩ := B2.fresh hd2
    refine use__law_pick (l := l) ⟨B2.up hd2 _, upd_same, nd2b, nd2l, by simp, by simp⟩ fun x H3 hx x3 B3 => ?_
    obtain ⟨t1, rfl, ht2, ht3⟩ : ∃ t0 : Str, x = .str t0 ∧ (∀ c ∈ tl t0, c ∈ blanks) ∧ t0.length ≤ 3 := by
      simp only [List.mem_cons, List.not_mem_nil, or_false] at hx
      rcases hx with rfl | rfl | rfl | rfl | rfl <;> exact ⟨_, rfl, by decide, by decide⟩
    walk_at "st"
    refine q _ H3 (x2.trans ((ExtB.rfl'.up hd2 _).trans x3)) B3 ⟨⟨tl t0, tl t1, prs, e1, hb, ht0, ht2, by rw [tl_app, et]⟩, ?_⟩
    rw [len_tl, tl_app, List.length_append, ← len_tl, ← len_tl]
    omega
  · rintro nx' fin j x σ H2 hx ⟨prs, t, o, rfl, x2, B2, e1, hb, et⟩
    obtain ⟨hj, hx⟩ := List.getElem?_eq_some_iff.mp hx
    rw [List.length_map] at hj
    rw [List.getElem_map] at hx
    subst hx
    have hl := plen prs j e1 hb
    have htl : t.length ≤ 3 + 11 * ss.length := by rw [len_tl, et, List.length_append, ← len_tl]; omega
    have hsl := has _ (List.getElem_mem hj)
    walk_at "st"
    refine use__law_pick (l := l) ⟨B2, x2 _ _ ncb ncl hc, ncb, ncl, by simpa using hcn, by rw [List.length_map]; omega⟩ fun y H3 hy x3 B3 => ?_
    obtain ⟨u, hu', rfl⟩ := List.mem_map.mp hy
    have hub := hcs u hu'
    have hub3 := hub.le
    have hlen : (t ++ ss[j]).length = t.length + ss[j].length := by rw [len_tl, tl_app, List.length_append, ← len_tl, ← len_tl]
    walk_at "st"
    refine ⟨prs ++ [(ss[j], u)], _, _, rfl, x2.trans x3, B3, ?_, ?_, ?_⟩
    · rw [List.map_append, e1, List.take_add_one, List.getElem?_eq_getElem hj]; rfl
    · intro pr hpr
      rcases List.mem_append.mp hpr with h | h
      · exact hb pr h
      · have : pr = (ss[j], u) := by simpa using h
        rw [this]; exact hub
    · rw [tl_app, tl_app, et, flatP_snoc]; simp
end
end K04

set_option Elab.async false
set_option linter.all false
set_option maxRecDepth 100000
set_option maxHeartbeats 2000000
set_option autoImplicit false
namespace K04
open PySem PySem.Spec PyProof.Rows L2 TN
open L2H (cxH RoomH)
local macro_rules | `(tactic| walk_at "nq") => `(tactic| first
  | assumption
  | (apply Ne.symm; assumption)
  | grind [upd])
local macro_rules | `(tactic| walk_at "hp") => `(tactic| first
  | assumption
  | exact upd_same
  | (refine up_next ?nq0 ?hp0; (case nq0 => walk_at "nq"); (case hp0 => walk_at "hp")))
local macro_rules | `(tactic| walk_at "ex") => `(tactic| first
  | assumption
  | exact Ext.rfl'
  | (refine Ext.up ?xa ?xb _; (case xb => assumption); (case xa => walk_at "ex"))
  | (refine Ext.up0 ?xa ?xb _; (case xb => assumption); (case xa => walk_at "ex"))
  | (refine Ext.trans ?xb ?xa; (case xb => assumption); (case xa => walk_at "ex")))
local macro_rules | `(tactic| walk_at "eb") => `(tactic| first
  | assumption
  | exact ExtB.rfl'
  | (refine ExtB.up ?xa ?xb _; (case xb => assumption); (case xa => walk_at "eb"))
  | (refine ExtB.up0 ?xa ?xb _; (case xb => assumption); (case xa => walk_at "eb"))
  | (refine ExtB.trans ?xb ?xa; (case xa => assumption); (case xb => walk_at "eb"))
  | (refine ExtB.trans ?xb (ExtB.of ?xa); (case xa => assumption); (case xb => walk_at "eb")))
local macro_rules | `(tactic| walk_at "bg") => `(tactic| first
  | assumption
  | (refine BagAt.up ?xa ?xb _; (case xb => assumption); (case xa => walk_at "bg"))
  | (refine BagAt.ext ?xb ?xa; (case xa => assumption); (case xb => walk_at "bg")))
local macro_rules | `(tactic| walk_at "sz") => `(tactic| first
  | assumption
  | decide
  | (simp only [sizeLine_eq, List.length_append, List.length_cons, List.length_nil, List.length_map] at *; omega))
local macro_rules | `(tactic| walk_at "ci") => `(tactic| first
  | exact m2 (by decide)
  | exact m1 (by decide)
  | exact m1 ⟨by omega, by omega⟩
  | (show (0 : Int) < _; first | decide | omega | assumption)
  | exact ⟨by first | decide | omega, by first | decide | omega⟩
  | exact ⟨by decide, by decide, by decide⟩)
local macro_rules | `(tactic| walk_at "s1") => `(tactic| first
  | (with_reducible refine s_seq ?_)
  | (with_reducible refine s_asg ?_)
  | (with_reducible refine s_gname ?_)
  | (with_reducible refine s_ret ?_)
  | (with_reducible refine s_retn ?_)
  | (with_reducible refine s_next ?_)
  | (with_reducible refine s_drop ?_)
  | (with_reducible refine s_ifs ?_)
  | (with_reducible refine s_par ?_)
  | (with_reducible refine s_two ?_)
  | ((with_reducible refine' s_var ?sv ?_); (case sv => rfl))
  | (with_reducible refine s_c ?_)
  | (with_reducible refine s_op ?_)
  | (with_reducible refine s_un ?_)
  | (with_reducible refine s_test ?_)
  | (with_reducible refine s_tb ?_)
  | (with_reducible refine s_bl ?_)
  | (with_reducible refine s_and ?_)
  | (with_reducible refine s_or ?_)
  | (with_reducible refine s_not ?_)
  | (with_reducible refine s_andv ?_)
  | (with_reducible refine s_orv ?_)
  | (with_reducible refine s_notv ?_)
  | (with_reducible refine s_if ?_)
  | (with_reducible refine s_nil ?_)
  | (with_reducible refine s_cons ?_)
  | (with_reducible refine s_tup ?_)
  | (with_reducible refine s_lst ?_)
  | ((with_reducible refine' s_few ?sv ?_); (case sv => rfl))
  | (with_reducible refine s_m0 ?_)
  | (with_reducible refine s_m1 ?_)
  | (with_reducible refine s_str ?_)
  | (with_reducible refine s_cb ?_)
  | (with_reducible refine s_calld ?_)
  | (with_reducible refine s_callw ?_)
  | (with_reducible refine s_callk ?_)
  | (with_reducible refine s_callkw ?_)
  | (with_reducible refine s_sl ?_)
  | (with_reducible refine s_part ?_)
  | (with_reducible refine s_nopart ?_)
  | (with_reducible refine s_int ?_)
  | (with_reducible refine s_i2 ?_)
  | (with_reducible refine s_addi ?_)
  | ((with_reducible refine' s_adds ?sv ?_); (case sv => walk_at "sz"))
  | ((with_reducible refine' s_eqs ?sv ?_); (case sv => rfl))
  | ((with_reducible refine' s_nes ?sv ?_); (case sv => rfl))
  | (with_reducible refine s_ins ?_)
  | ((with_reducible refine' s_lens ?sv ?_); (case sv => walk_at "sz"))
  | ((with_reducible refine' s_lenl ?sv ?_); (case sv => walk_at "hp"))
  | ((with_reducible refine' s_lent ?sv ?_); (case sv => walk_at "hp"))
  | ((with_reducible refine' s_sls ?sv ?_); (case sv => walk_at "sz"))
  | (with_reducible refine w_tt ?_)
  | (with_reducible refine w_ff ?_)
  | (with_reducible refine s_ex2 ?_)
  | (with_reducible refine s_bm ?_)
  | (with_reducible refine s_bm0 ?_)
  | (with_reducible refine s_tys ?_)
  | ((with_reducible refine' s_tyl ?sv ?_); (case sv => walk_at "hp"))
  | ((with_reducible refine' s_app ?sv ?sw ?_); (case sv => walk_at "hp"); (case sw => walk_at "sz"))
  | (with_reducible refine s_gsub ?_)
  | ((with_reducible refine' s_ixt ?sv ?sw ?_); (case sv => walk_at "hp"); (case sw => rfl))
  | ((with_reducible refine' s_ixl ?sv ?sw ?_); (case sv => walk_at "hp"); (case sw => rfl))
  | (with_reducible refine s_pnx ?_)
  | (with_reducible refine s_prt ?_)
  | (with_reducible refine s_turn ?_)
  | (with_reducible refine s_for ?_)
  | (with_reducible refine s_ilist ?_)
  | (with_reducible refine s_itup ?_)
  | (with_reducible refine s_rng1 ?_)
  | (with_reducible refine s_rng2 ?_)
  | (with_reducible refine s_isStr ?_)
  | (with_reducible refine n_isn ?_)
  | ((with_reducible refine' c_mulS ?sv ?sw ?su ?_); (case sv => rfl); (case sw => omega); (case su => omega))
  | ((with_reducible refine' s_isTup ?sv ?_); (case sv => walk_at "hp"))
  | ((with_reducible refine' s_extl ?sv ?sw ?su ?_); (case sv => walk_at "hp"); (case sw => walk_at "hp"); (case su => walk_at "sz"))
  | ((with_reducible refine' s_gseqT ?sv ?sw ?_); (case sv => walk_at "hp"); (case sw => rfl))
  | ((with_reducible refine' s_gseqL ?sv ?sw ?_); (case sv => walk_at "hp"); (case sw => rfl))
  | (with_reducible refine c_chain ?_)
  | ((with_reducible refine' s_rng1' ?sv ?sw ?_); (case sv => omega); (case sw => omega))
  | ((with_reducible refine' s_rng2' ?sv ?_); (case sv => refine ⟨?_, ?_, ?_, ?_⟩ <;> omega))
  | (with_reducible refine s_callx ?_)
  | ((with_reducible refine' w_t ?sv ?_); (case sv => rfl))
  | ((with_reducible refine' w_f ?sv ?_); (case sv => rfl))
  | ((with_reducible refine' x_one ?sv ?sw ?_); (case sv => walk_at "hp"); (case sw => assumption))
  | (with_reducible refine x_at ?_)
  | ((with_reducible refine' x_get ?sv ?sw ?_); (case sv => walk_at "hp"); (case sw => rfl))
  | ((with_reducible refine' s_addl ?sv ?sw ?su ?_); (case sv => walk_at "hp"); (case sw => walk_at "hp"); (case su => walk_at "sz"))
  | (with_reducible refine c_lrv ?_)
  | ((with_reducible refine' c_rvl ?sv ?_); (case sv => walk_at "hp"))
  | ((with_reducible refine' s_setl ?sv ?sw ?_); (case sv => walk_at "hp"); (case sw => rfl))
  | ((with_reducible refine' c_ri ?sv ?_); (case sv => walk_at "ci"))
  | ((with_reducible refine' c_mul ?sv ?_); (case sv => walk_at "ci"))
  | ((with_reducible refine' c_neNil ?sv ?sw ?_); (case sv => walk_at "hp"); (case sw => walk_at "hp"))
  | (with_reducible refine c_u ?_)
  | ((with_reducible refine' c_wipe ?sv ?_); (case sv => rfl))
  | ((with_reducible refine' s_gtup ?sv ?sw ?_); (case sv => walk_at "hp"); (case sw => rfl))
  | (with_reducible refine s_gcons ?_)
  | (with_reducible refine s_gnil ?_)
  | ((with_reducible refine' c_tupL ?sv ?_); (case sv => walk_at "hp"))
  | ((with_reducible refine' c_tupT ?sv ?_); (case sv => walk_at "hp"))
  | ((with_reducible refine' c_lstL ?sv ?_); (case sv => walk_at "hp"))
  | ((with_reducible refine' c_lstT ?sv ?_); (case sv => walk_at "hp"))
  | (with_reducible refine c_max ?_)
  | (with_reducible refine c_min ?_)
  | (with_reducible refine c_abs ?_)
  | (with_reducible refine c_int ?_)
  | (with_reducible refine c_intb ?_)
  | (with_reducible refine c_lrg ?_)
  | (with_reducible refine c_rg2 ?_)
  | (with_reducible refine c_ii ?_)
  | (with_reducible refine c_lc ?_)
  | ((with_reducible refine' c_seql' ?sv ?_); (case sv => walk_at "hp"))
  | ((with_reducible refine' c_seqt' ?sv ?_); (case sv => walk_at "hp"))
  | (with_reducible refine c_yes ?_)
  | ((with_reducible refine' s_sll ?sv ?_); (case sv => walk_at "hp"))
  | (with_reducible refine n_isr ?_)
  | (with_reducible refine n_isi ?_)
  | (with_reducible refine n_iss ?_)
  | (with_reducible refine n_non ?_)
  | (with_reducible refine n_nor ?_)
  | (with_reducible refine n_noi ?_)
  | (with_reducible refine n_nos ?_))
local macro_rules | `(tactic| walk_at "st") => `(tactic| repeat1' walk_at "s1")
section
variable {P : Program} {w : World} {K : PySem.W.Frag} {mg : Str → Option Value} {base : Heap}

/-! ## _law_spoilt -/
abbrev s__law_spoilt : Stmt := top 42
abbrev N__law_spoilt : List Str := ["bag", "text", "wrong", "at"]
theorem sc__law_spoilt : FnScope ["bag", "text", "wrong", "at"] ["bag", "text"] (defScope s__law_spoilt) := ⟨rfl, rfl, rfl, by decide +kernel, rfl, by decide +kernel, by decide +kernel⟩
def sp__law_spoilt (K : PySem.W.Frag) : Sp := fun vs H Q E => ∃ (b : Addr) (l : Addr) (z : Str), vs = [.ref b, .str z] ∧ (BagAt b l H ∧ okS z ∧ z.length ≤ 3900) ∧ (∀ t H', ExtB b l H H' → BagAt b l H' → okS t → t.length ≤ 4000 → Q (.str t) H')
theorem use__law_spoilt {K : PySem.W.Frag} {H : Hp} {Q : VK} {E : XK} {b : Addr} {l : Addr} {z : Str} (pre : BagAt b l H ∧ okS z ∧ z.length ≤ 3900) (post : ∀ t H', ExtB b l H H' → BagAt b l H' → okS t → t.length ≤ 4000 → Q (.str t) H') : sp__law_spoilt K [.ref b, .str z] H Q E := ⟨b, l, z, rfl, pre, post⟩
theorem ok__law_spoilt (R : RawFn K mg "_law_spoilt" s__law_spoilt) (d__law_draw : DefOk P w K mg base CX0 "_law_draw" s__law_draw 1 ["bag", "below"] (sp__law_draw K)) (d__law_pick : DefOk P w K mg base CX0 "_law_pick" s__law_pick 2 ["bag", "some"] (sp__law_pick K)) (n_len : mg "len" = none) : DefOk P w K mg base CX0 "_law_spoilt" s__law_spoilt 3 ["bag", "text"] (sp__law_spoilt K) := by
  refine R.ok sc__law_spoilt (fun _ _ _ _ _ _ us hl => match us, hl with | [_, _], _ => rfl) (fun vs H Q E h => by obtain ⟨_, _, _, rfl, _⟩ := h; rfl) (fun f cdv A outer s H vs Q E hr h => ?_)
  have hu := units64 hr
  obtain ⟨b, l, z, rfl, pre, q⟩ := h
  refine ⟨_, (pss_cons (ps_set (i := 2) sc__law_spoilt.nd rfl (Or.inl rfl) (pe_callD (E := E0) d__law_pick (hr.mono (by decide)) pass0 (pa_cons (pv 0) (pa_cons (pe_lst (pa_cons pe_str (pa_cons pe_str (pa_cons pe_str (pa_cons pe_str (pa_cons pe_str (pa_cons pe_str (pa_cons pe_str (pa_cons pe_str (pa_cons pe_str (pa_cons pe_str pa_nil))))))))))) pa_nil))))
      (pss_cons (ps_set (i := 3) sc__law_spoilt.nd rfl (Or.inl rfl) (pe_callD (E := E0) d__law_pick (hr.mono (by decide)) pass0 (pa_cons (pv 0) (pa_cons (pe_lst (pa_cons (pe_callD (E := E0) d__law_draw (hr.mono (by decide)) pass0 (pa_cons (pv 0) (pa_cons (pe_op op_addA (pe_callB call_lenA (by rfl) n_len (by decide +kernel) (pa_cons (pv 1) pa_nil)) pe_int) pa_nil))) (pa_cons (pe_callB call_lenA (by rfl) n_len (by decide +kernel) (pa_cons (pv 1) pa_nil)) (pa_cons pe_int pa_nil)))) pa_nil))))
      (pss_one (ps_ret (pe_op op_addA (pe_op op_addA (pe_slice sl_A (pv 1) po_none (po_some (pv 3))) (pv 2)) (pe_slice sl_A (pv 1) (po_some (pv 3)) po_none)))))), ?_⟩
  obtain ⟨B0, ho, hz⟩ := pre
  walk_at "st"
  intro d hd
  walk_at "st"
  obtain ⟨ndb, ndl⟩ := B0.fresh hd
  refine use__law_pick (l := l) ⟨B0.up hd _, upd_same, ndb, ndl, by simp, by simp⟩ fun x H1 hx x1 B1 => ?_
  obtain ⟨t0, rfl, ht0, ht1⟩ : ∃ t0 : Str, x = .str t0 ∧ (∀ c ∈ tl t0, c < 1114112) ∧ t0.length ≤ 50 := by
    simp only [List.mem_cons, List.not_mem_nil, or_false] at hx
    rcases hx with rfl | rfl | rfl | rfl | rfl | rfl | rfl | rfl | rfl | rfl <;> exact ⟨_, rfl, by decide, by decide⟩
  have xA : ExtB b l H H1 := (ExtB.rfl'.up hd _).trans x1
  walk_at "st"
  refine use__law_draw (l := l) (n := z.length + 1) ⟨B1, by omega, by omega⟩ fun v H2 x2 B2 hv => ?_
  walk_at "st"
  intro e he
  walk_at "st"
  obtain ⟨neb, nel⟩ := B2.fresh he
  refine use__law_pick (l := l) ⟨B2.up he _, upd_same, neb, nel, by simp, by simp⟩ fun x H3 hx x3 B3 => ?_
  obtain ⟨k, rfl, hk⟩ : ∃ k : Nat, x = .int k ∧ k ≤ z.length := by
    simp only [List.mem_cons, List.not_mem_nil, or_false] at hx
    rcases hx with rfl | rfl | rfl
    · exact ⟨v, rfl, by omega⟩
    · exact ⟨z.length, rfl, by omega⟩
    · exact ⟨0, rfl, by omega⟩
  have e1 := tl_cut_to z k
  have e2 := tl_cut_from z k
  have l1 : (cutS z none (some (k : Int))).length ≤ z.length := by rw [len_tl, e1, List.length_take, len_tl]; omega
  have l2 : (cutS z (some (k : Int)) none).length ≤ z.length := by rw [len_tl, e2, List.length_drop, len_tl]; omega
  have l12 : (cutS z none (some (k : Int))).length + (cutS z (some (k : Int)) none).length = z.length := by rw [len_tl, len_tl, e1, e2, List.length_take, List.length_drop, len_tl]; rw [len_tl] at hk; omega
  have l3 : (cutS z none (some (k : Int)) ++ t0).length = (cutS z none (some (k : Int))).length + t0.length := by rw [len_tl, tl_app, List.length_append, ← len_tl, ← len_tl]
  walk_at "st"
  refine q _ H3 (xA.trans (x2.trans ((ExtB.rfl'.up he _).trans x3))) B3 ?_ ?_
  · intro c hc
    rw [tl_app, tl_app, e1, e2] at hc
    rcases List.mem_append.mp hc with hc | hc
    · rcases List.mem_append.mp hc with hc | hc
      · exact ho c (List.mem_of_mem_take hc)
      · exact ht0 c hc
    · exact ho c (List.mem_of_mem_drop hc)
  · rw [len_tl, tl_app, List.length_append, ← len_tl, ← len_tl, l3]
    omega
theorem ask_ext {H1 H2 : Hp} {p1 p2 : Addr} {o1 o2 : HO} (h1 : H1 p1 = none) (h2 : upd H1 p1 o1 p2 = none) (x : Ext (upd (upd H1 p1 o1) p2 o2) H2) : Ext H1 H2 := ((Ext.new h1 _).up h2 _).trans x
theorem ask_ext3 {H1 H2 : Hp} {p1 p2 p3 : Addr} {o1 o2 o3 : HO} (h1 : H1 p1 = none) (h2 : upd H1 p1 o1 p2 = none) (h3 : upd (upd H1 p1 o1) p2 o2 p3 = none) (x : Ext (upd (upd (upd H1 p1 o1) p2 o2) p3 o3) H2) : Ext H1 H2 := (((Ext.new h1 _).up h2 _).up h3 _).trans x
theorem dp_int {H : Hp} {i j : Int} (e : i = j) : Dp K H (.int i) (.int j) := by rw [e]; exact .int j
def LinesIn (n : Nat) (xs : List V) : Prop := ∀ x ∈ xs, ∃ i : Nat, i < n ∧ x = .int ((i : Int) + 1)
def PlacesIn (n : Nat) (xs : List V) : Prop := ∀ x ∈ xs, ∃ p : Nat, p ≤ n ∧ x = .int (p : Nat)
/-! ## _law_are_spots_right -/
abbrev s__law_are_spots_right : Stmt := top 43
abbrev N__law_are_spots_right : List Str := ["bag", "text", "starts", "many", "some", "line", "places", "place", "own", "sign", "due", "turn"]
theorem sc__law_are_spots_right : FnScope ["bag", "text", "starts", "many", "some", "line", "places", "place", "own", "sign", "due", "turn"] ["bag", "text"] (defScope s__law_are_spots_right) := ⟨rfl, rfl, rfl, by decide +kernel, rfl, by decide +kernel, by decide +kernel⟩
def sp__law_are_spots_right (K : PySem.W.Frag) : Sp := fun vs H Q E => ∃ (b : Addr) (l : Addr) (z : Str), vs = [.ref b, .str z] ∧ (BagAt b l H ∧ okS z ∧ z.length ≤ 4000) ∧ (∀ H', ExtB b l H H' → BagAt b l H' → Q (.bl true) H')
theorem use__law_are_spots_right {K : PySem.W.Frag} {H : Hp} {Q : VK} {E : XK} {b : Addr} {l : Addr} {z : Str} (pre : BagAt b l H ∧ okS z ∧ z.length ≤ 4000) (post : ∀ H', ExtB b l H H' → BagAt b l H' → Q (.bl true) H') : sp__law_are_spots_right K [.ref b, .str z] H Q E := ⟨b, l, z, rfl, pre, post⟩
theorem ok__law_are_spots_right (R : RawFn K mg "_law_are_spots_right" s__law_are_spots_right) (d__law_draw : DefOk P w K mg base CX0 "_law_draw" s__law_draw 1 ["bag", "below"] (sp__law_draw K)) (d__law_is : DefOk P w K mg base CX0 "_law_is" s__law_is 8 ["word", "some", "due"] (sp__law_is K)) (d__law_line_at : DefOk P w K mg base CX0 "_law_line_at" s__law_line_at 1 ["starts", "place"] (sp__law_line_at K)) (d__law_starts : DefOk P w K mg base CX0 "_law_starts" s__law_starts 1 ["text"] (sp__law_starts K)) (n_len : mg "len" = none) (n_max : mg "max" = none) (n_range : mg "range" = none) : DefOk P w K mg base CX0 "_law_are_spots_right" s__law_are_spots_right 9 ["bag", "text"] (sp__law_are_spots_right K) := by
  refine R.ok sc__law_are_spots_right (fun _ _ _ _ _ _ us hl => match us, hl with | [_, _], _ => rfl) (fun vs H Q E h => by obtain ⟨_, _, _, rfl, _⟩ := h; rfl) (fun f cdv A outer s H vs Q E hr h => ?_)
  have hu := units64 hr
  obtain ⟨b, l, z, rfl, pre, q⟩ := h
  refine ⟨_, (pss_cons (ps_set (i := 2) sc__law_are_spots_right.nd rfl (Or.inr rfl) (pe_callD (E := E0) d__law_starts (hr.mono (by decide)) pass0 (pa_cons (pv 1) pa_nil)))
      (pss_cons (ps_set (i := 3) sc__law_are_spots_right.nd rfl (Or.inr rfl) (pe_op op_sub (pe_callB call_lenA (by rfl) n_len (by decide +kernel) (pa_cons (pv 2) pa_nil)) pe_int))
      (pss_cons (ps_if (pt_not (pt_val (pe_callD (E := E0) d__law_is (hr.mono (by decide)) pass0 (pa_cons pe_str (pa_cons (pe_lst (pa_cons (pv 1) pa_nil)) (pa_cons (pe_lst (pa_cons pe_str (pa_cons (pv 3) pa_nil))) pa_nil))))))
      (pss_one (ps_ret pe_bl))
      pss_nil)
      (pss_cons (ps_set (i := 4) sc__law_are_spots_right.nd rfl (Or.inl rfl) (pe_lst (pa_cons pe_int (pa_cons (pv 3) (pa_cons (pe_op op_addA pe_int (pe_callD (E := E0) d__law_draw (hr.mono (by decide)) pass0 (pa_cons (pv 0) (pa_cons (pv 3) pa_nil)))) (pa_cons (pe_op op_addA pe_int (pe_callD (E := E0) d__law_draw (hr.mono (by decide)) pass0 (pa_cons (pv 0) (pa_cons (pv 3) pa_nil)))) (pa_cons (pe_callB (call_maxN rfl) (by rfl) n_max (by decide +kernel) (pa_cons pe_int (pa_cons (pe_op op_sub (pv 3) pe_int) pa_nil))) pa_nil)))))))
      (pss_cons (ps_for PassesOwn.never rfl (pi_seq (pv 4)) (pg_name (i := 5) sc__law_are_spots_right.nd rfl (Or.inl rfl))
      (pss_cons (ps_set (i := 8) sc__law_are_spots_right.nd rfl (Or.inl rfl) (pe_slice sl_A (pv 1) (po_some (pe_ix ix_seq (pv 2) (pe_op op_sub (pv 5) pe_int) (fun _ _ => rfl))) (po_some (pe_op op_sub (pe_ix ix_seq (pv 2) (pv 5) (fun _ _ => rfl)) pe_int))))
      (pss_cons (ps_if (pt_not (pt_val (pe_callD (E := E0) d__law_is (hr.mono (by decide)) pass0 (pa_cons pe_str (pa_cons (pe_lst (pa_cons (pv 1) (pa_cons (pv 5) pa_nil))) (pa_cons (pe_lst (pa_cons pe_str (pa_cons (pv 8) pa_nil))) pa_nil))))))
      (pss_one (ps_ret pe_bl))
      pss_nil)
      (pss_one (ps_for PassesOwn.never rfl (pi_tup (pe_tup (pa_cons pe_int (pa_cons (pe_op op_addA (pe_callB call_lenA (by rfl) n_len (by decide +kernel) (pa_cons (pv 8) pa_nil)) pe_int) (pa_cons (pe_op op_addA pe_int (pe_callD (E := E0) d__law_draw (hr.mono (by decide)) pass0 (pa_cons (pv 0) (pa_cons (pe_op op_addA (pe_callB call_lenA (by rfl) n_len (by decide +kernel) (pa_cons (pv 8) pa_nil)) pe_int) pa_nil)))) pa_nil))))) (pg_name (i := 9) sc__law_are_spots_right.nd rfl (Or.inl rfl))
      (pss_cons (ps_set (i := 7) sc__law_are_spots_right.nd rfl (Or.inl rfl) (pe_op op_sub (pe_op op_addA (pe_ix ix_seq (pv 2) (pe_op op_sub (pv 5) pe_int) (fun _ _ => rfl)) (pv 9)) pe_int))
      (pss_cons (ps_if (pt_not (pt_val (pe_callD (E := E0) d__law_is (hr.mono (by decide)) pass0 (pa_cons pe_str (pa_cons (pe_lst (pa_cons (pv 1) (pa_cons (pv 5) (pa_cons (pv 9) pa_nil)))) (pa_cons (pe_lst (pa_cons pe_str (pa_cons (pv 7) pa_nil))) pa_nil))))))
      (pss_one (ps_ret pe_bl))
      pss_nil)
      (pss_one (ps_if (pt_not (pt_val (pe_callD (E := E0) d__law_is (hr.mono (by decide)) pass0 (pa_cons pe_str (pa_cons (pe_lst (pa_cons (pv 1) (pa_cons (pv 7) pa_nil))) (pa_cons (pe_lst (pa_cons pe_str (pa_cons (pe_tup (pa_cons (pv 5) (pa_cons (pv 9) pa_nil))) pa_nil))) pa_nil))))))
      (pss_one (ps_ret pe_bl))
      pss_nil)))))))))
      (pss_cons (ps_set (i := 6) sc__law_are_spots_right.nd rfl (Or.inl rfl) (pe_op op_addA (pe_lst (pa_cons pe_int (pa_cons (pe_callB call_lenA (by rfl) n_len (by decide +kernel) (pa_cons (pv 1) pa_nil)) (pa_cons (pe_callB (call_maxN rfl) (by rfl) n_max (by decide +kernel) (pa_cons pe_int (pa_cons (pe_op op_sub (pe_callB call_lenA (by rfl) n_len (by decide +kernel) (pa_cons (pv 1) pa_nil)) pe_int) pa_nil))) pa_nil)))) (pe_lc (own := [("turn", 11)]) (g := gName 11) (tt := tYes) rfl sc__law_are_spots_right.nd (pi_range1 rfl n_range (pa_cons pe_int pa_nil)) (blkOk_by (N := N__law_are_spots_right) (sc := defScope s__law_are_spots_right) (by decide +kernel)) (fun _ _ _ _ _ => pg_name (i := 11) sc__law_are_spots_right.nd rfl (Or.inl rfl)) (fun _ _ _ _ _ => pts_nil) (fun _ _ _ _ _ => (pe_callD (E := E0) d__law_draw (hr.mono (by decide)) pass0 (pa_cons (pv 0) (pa_cons (pe_op (op_addK K rfl) (pe_callB (call_lenK K rfl) (by rfl) n_len (by decide +kernel) (pa_cons (pv 1) pa_nil)) pe_int) pa_nil)))))))
      (pss_cons (ps_for PassesOwn.never rfl (pi_list (pe_op op_addA (pv 6) (pe_lc (own := [("turn", 11)]) (g := gName 11) (tt := tYes) rfl sc__law_are_spots_right.nd (pi_range1 rfl n_range (pa_cons pe_int pa_nil)) (blkOk_by (N := N__law_are_spots_right) (sc := defScope s__law_are_spots_right) (by decide +kernel)) (fun _ _ _ _ _ => pg_name (i := 11) sc__law_are_spots_right.nd rfl (Or.inl rfl)) (fun _ _ _ _ _ => pts_nil) (fun _ _ _ _ _ => (pe_ix (ix_seqK K rfl) (pv 2) (pe_callD (E := E0) d__law_draw (hr.mono (by decide)) pass0 (pa_cons (pv 0) (pa_cons (pv 3) pa_nil))) (fun _ _ => rfl)))))) (pg_name (i := 7) sc__law_are_spots_right.nd rfl (Or.inl rfl))
      (pss_cons (ps_set (i := 5) sc__law_are_spots_right.nd rfl (Or.inl rfl) (pe_callD (E := E0) d__law_line_at (hr.mono (by decide)) pass0 (pa_cons (pv 2) (pa_cons (pv 7) pa_nil))))
      (pss_cons (ps_set (i := 10) sc__law_are_spots_right.nd rfl (Or.inl rfl) (pe_tup (pa_cons (pv 5) (pa_cons (pe_op op_addA (pe_op op_sub (pv 7) (pe_ix ix_seq (pv 2) (pe_op op_sub (pv 5) pe_int) (fun _ _ => rfl))) pe_int) pa_nil))))
      (pss_cons (ps_if (pt_not (pt_val (pe_callD (E := E0) d__law_is (hr.mono (by decide)) pass0 (pa_cons pe_str (pa_cons (pe_lst (pa_cons (pv 1) (pa_cons (pv 7) pa_nil))) (pa_cons (pe_lst (pa_cons pe_str (pa_cons (pv 10) pa_nil))) pa_nil))))))
      (pss_one (ps_ret pe_bl))
      pss_nil)
      (pss_one (ps_if (pt_not (pt_val (pe_callD (E := E0) d__law_is (hr.mono (by decide)) pass0 (pa_cons pe_str (pa_cons (pe_lst (pa_cons (pv 1) (pa_cons (pe_ix ix_seq (pv 10) pe_int (fun _ _ => rfl)) (pa_cons (pe_ix ix_seq (pv 10) pe_int (fun _ _ => rfl)) pa_nil)))) (pa_cons (pe_lst (pa_cons pe_str (pa_cons (pv 7) pa_nil))) pa_nil))))))
      (pss_one (ps_ret pe_bl))
      pss_nil))))))
      (pss_one (ps_ret pe_bl))))))))), ?_⟩
  obtain ⟨B0, ho, hz⟩ := pre
  have hm := many_le hz
  have hmp := many_pos z
  have hsl := startsTo_length z ((parted 10 (tl z)).length + 1)
  have hcnt : (parted 10 (tl z)).length = (tl z).count 10 + 1 := parted_length _ _
  obtain ⟨n, hn⟩ : ∃ n, n = (parted 10 (tl z)).length := ⟨_, rfl⟩
  have hsg : ∀ i, i ≤ n → (startsV z)[i]? = some (.int (begins (parted 10 (tl z)) i : Nat)) := fun i hi => startsTo_get z (by omega)
  walk_at "st"
  refine use__law_starts hz fun st H1 x1 hst hst1 => ?_
  obtain ⟨nsb, nsl⟩ := B0.fresh hst
  have B1 := B0.ext x1
  walk_at "st"
  rw [hsl, show ((((parted 10 (tl z)).length + 1 : Nat) : Int) - 1) = (n : Int) from by omega]
  intro p1 hp1
  walk_at "st"
  intro p2 hp2
  have h12 : p1 ≠ p2 := by grind [upd]
  walk_at "st"
  refine use__law_is (xs := [.str z]) (r := .inl (.int (((tl z).count 10 : Nat) + 1))) ⟨by walk_at "hp", .number z ho hz, .lst (sq_l upd_same) (.cons (.str _) (.cons (dp_int (by omega)) .nil))⟩ fun H2 x2 => ?_
  have x2' := ask_ext hp1 hp2 x2
  have B2 := B1.ext x2'
  have hs2 := x2' _ _ hst1
  have xA : ExtB b l H H2 := ExtB.of (x1.trans x2')
  clear x2 x2' hp1 hp2 h12
  walk_at "st"
  refine use__law_draw (l := l) (n := n) ⟨B2, by omega, by omega⟩ fun v1 H3 x3 B3 hv1 => ?_
  walk_at "st"
  refine use__law_draw (l := l) (n := n) ⟨B3, by omega, by omega⟩ fun v2 H4 x4 B4 hv2 => ?_
  have hs4 := x4 _ _ nsb nsl (x3 _ _ nsb nsl hs2)
  have xB := (xA.trans x3).trans x4
  walk_at "st"
  intro sm hsm
  obtain ⟨nmb, nml⟩ := B4.fresh hsm
  have hssm : st ≠ sm := by grind [upd]
  obtain ⟨xs, hxs⟩ : ∃ xs, xs = [V.int 1, V.int n, V.int (1 + (v1 : Int)), V.int (1 + (v2 : Int)), V.int (if (n : Int) - 1 > 1 then (n : Int) - 1 else 1)] := ⟨_, rfl⟩
  have hL : LinesIn n xs := by
    rw [hxs]
    intro x hx
    simp only [List.mem_cons, List.not_mem_nil, or_false] at hx
    rcases hx with rfl | rfl | rfl | rfl | rfl
    · exact ⟨0, by omega, rfl⟩
    · exact ⟨n - 1, by omega, by congr 1; omega⟩
    · exact ⟨v1, hv1, by congr 1; omega⟩
    · exact ⟨v2, hv2, by congr 1; omega⟩
    · split
      · exact ⟨n - 2, by omega, by congr 1; omega⟩
      · exact ⟨0, by omega, rfl⟩
  rw [← hxs]
  clear hxs
  have xC : ExtB b l H (upd H4 sm (.lst xs)) := xB.up hsm _
  have B5 := B4.up hsm (.lst xs)
  have hs5 : upd H4 sm (.lst xs) st = some (.lst (startsV z)) := by walk_at "hp"
  have hm5 : upd H4 sm (.lst xs) sm = some (.lst xs) := upd_same
  obtain ⟨H5, hH5⟩ : ∃ H5, H5 = upd H4 sm (.lst xs) := ⟨_, rfl⟩
  rw [← hH5] at xC B5 hs5 hm5 ⊢
  walk_at "st"
  refine .inl ?_
  walk_at "st"
  refine f_list (xs := xs) (fun j σ H' => ∃ (o5 o6 o7 o8 o9 o10 o11 : Option V), σ = [some (.ref b), some (.str z), some (.ref st), some (.int n), some (.ref sm), o5, o6, o7, o8, o9, o10, o11] ∧ ExtB b l H H' ∧ BagAt b l H' ∧ H' st = some (.lst (startsV z)) ∧ H' sm = some (.lst xs))
    ⟨_, _, _, _, _, _, _, rfl, xC, B5, hs5, hm5⟩ (fun j σ H' h => by obtain ⟨_, _, _, _, _, _, _, _, _, _, _, h⟩ := h; exact sq_l h) ?_ ?_
  · rintro σ H6 ⟨o5, o6, o7, o8, o9, o10, o11, rfl, x6, B6, hs6, _⟩
    clear hL
    walk_at "st"
    intro p hp
    obtain ⟨npb, npl⟩ := B6.fresh hp
    have hsp : st ≠ p := by grind [upd]
    obtain ⟨us, hus⟩ : ∃ us, us = [V.int 0, V.int z.length, V.int (if (z.length : Int) - 1 > 0 then (z.length : Int) - 1 else 0)] := ⟨_, rfl⟩
    have hPu : PlacesIn z.length us := by
      rw [hus]
      intro x hx
      simp only [List.mem_cons, List.not_mem_nil, or_false] at hx
      rcases hx with rfl | rfl | rfl
      · exact ⟨0, by omega, rfl⟩
      · exact ⟨z.length, by omega, rfl⟩
      · split
        · exact ⟨z.length - 1, by omega, by congr 1; omega⟩
        · exact ⟨0, by omega, rfl⟩
    have hul : us.length = 3 := by rw [hus]; rfl
    rw [← hus]
    clear hus
    walk_at "st"
    intro D hD
    have B6' := B6.up hp (.lst us)
    obtain ⟨nDb, nDl⟩ := B6'.fresh hD
    have hsD : st ≠ D := by grind [upd]
    have hpD : p ≠ D := by grind [upd]
    have x6' := x6.up hp (.lst us)
    have hDn : H D = none := x6'.none nDb nDl hD
    refine lc_range (fun j H' => ∃ ys, ExtB b l H H' ∧ BagAt b l H' ∧ H' st = some (.lst (startsV z)) ∧ H' p = some (.lst us) ∧ H' D = some (.lst ys) ∧ PlacesIn z.length ys ∧ ys.length ≤ j)
      ⟨[], x6'.up hD _, B6'.up hD _, by walk_at "hp", by walk_at "hp", upd_same, by simp [PlacesIn], Nat.le_refl _⟩ (fun j H' hj h => ?_) (fun H' h => ?_)
    · obtain ⟨ys, x7, B7, hs7, hp7, hD7, hP7, hl7⟩ := h
      walk_at "st"
      refine use__law_draw (l := l) (n := z.length + 1) ⟨B7, by omega, by omega⟩ fun v H8 x8 B8 hv => ?_
      refine ⟨ys, x8 _ _ nDb nDl hD7, by rw [sizeLine_eq]; omega, ys ++ [.int v], (x7.trans x8).up0 hDn _, B8.off nDb nDl _, ?_, ?_, upd_same, ?_, by simp; omega⟩
      · rw [upd_ne hsD]; exact x8 _ _ nsb nsl hs7
      · rw [upd_ne hpD]; exact x8 _ _ npb npl hp7
      · intro x hx
        rcases List.mem_append.mp hx with hx | hx
        · exact hP7 x hx
        · exact ⟨v, by omega, by simpa using hx⟩
    obtain ⟨ys, x7, B7, hs7, hp7, hD7, hP7, hl7⟩ := h
    clear hD x6' B6' hp
    have hl7' : ys.length ≤ 6 := hl7
    walk_at "st"
    intro r hr'
    obtain ⟨nrb, nrl⟩ := B7.fresh hr'
    have hsr : st ≠ r := by grind [upd]
    walk_at "st"
    intro D2 hD2
    have B7' := B7.up hr' (.lst (us ++ ys))
    have x7' := x7.up hr' (.lst (us ++ ys))
    obtain ⟨nD2b, nD2l⟩ := B7'.fresh hD2
    have hsD2 : st ≠ D2 := by grind [upd]
    have hrD2 : r ≠ D2 := by grind [upd]
    have hD2n : H D2 = none := x7'.none nD2b nD2l hD2
    have hP8 : PlacesIn z.length (us ++ ys) := fun x hx => (List.mem_append.mp hx).elim (hPu x) (hP7 x)
    refine lc_range (fun j H' => ∃ zs, ExtB b l H H' ∧ BagAt b l H' ∧ H' st = some (.lst (startsV z)) ∧ H' r = some (.lst (us ++ ys)) ∧ H' D2 = some (.lst zs) ∧ PlacesIn z.length zs ∧ zs.length ≤ j)
      ⟨[], x7'.up hD2 _, B7'.up hD2 _, by walk_at "hp", by walk_at "hp", upd_same, by simp [PlacesIn], Nat.le_refl _⟩ (fun j H' hj h => ?_) (fun H' h => ?_)
    · obtain ⟨zs, x8, B8, hs8, hr8, hD8, hP8', hl8⟩ := h
      walk_at "st"
      refine use__law_draw (l := l) (n := n) ⟨B8, by omega, by omega⟩ fun v H9 x9 B9 hv => ?_
      have hs9 := x9 _ _ nsb nsl hs8
      refine s_ixl hs9 (atI_nat' (hsg v (by omega))) ?_
      refine ⟨zs, x9 _ _ nD2b nD2l hD8, by rw [sizeLine_eq]; omega, zs ++ [_], (x8.trans x9).up0 hD2n _, B9.off nD2b nD2l _, ?_, ?_, upd_same, ?_, by simp; omega⟩
      · rw [upd_ne hsD2]; exact hs9
      · rw [upd_ne hrD2]; exact x9 _ _ nrb nrl hr8
      · intro x hx
        rcases List.mem_append.mp hx with hx | hx
        · exact hP8' x hx
        · exact ⟨begins (parted 10 (tl z)) v, begins_in (by omega), by simpa using hx⟩
    obtain ⟨zs, x8, B8, hs8, hr8, hD8, hP8', hl8⟩ := h
    clear hD2 x7' B7' hr'
    have hl8' : zs.length ≤ 3 := hl8
    have hlu : (us ++ ys).length ≤ 9 := by rw [List.length_append]; omega
    walk_at "st"
    intro g hg
    obtain ⟨ngb, ngl⟩ := B8.fresh hg
    have hsg2 : st ≠ g := by grind [upd]
    obtain ⟨ws, hws⟩ : ∃ ws, ws = us ++ ys ++ zs := ⟨_, rfl⟩
    have hPw : PlacesIn z.length ws := by rw [hws]; exact fun x hx => (List.mem_append.mp hx).elim (hP8 x) (hP8' x)
    rw [← hws]
    clear hws
    have hg9 : upd H' g (.lst ws) g = some (.lst ws) := upd_same
    have hs9 : upd H' g (.lst ws) st = some (.lst (startsV z)) := by walk_at "hp"
    have B9 := B8.up hg (.lst ws)
    have x9 := x8.up hg (.lst ws)
    obtain ⟨H9, hH9⟩ : ∃ H9, H9 = upd H' g (.lst ws) := ⟨_, rfl⟩
    rw [← hH9] at hg9 hs9 B9 x9 ⊢
    walk_at "st"
    refine f_list (xs := ws) (fun j σ H' => ∃ (o5 o6 o7 o8 o9 o10 o11 : Option V), σ = [some (.ref b), some (.str z), some (.ref st), some (.int n), some (.ref sm), o5, o6, o7, o8, o9, o10, o11] ∧ ExtB b l H H' ∧ BagAt b l H' ∧ H' st = some (.lst (startsV z)) ∧ H' g = some (.lst ws))
      ⟨_, _, _, _, _, _, _, rfl, x9, B9, hs9, hg9⟩ (fun j σ H' h => by obtain ⟨_, _, _, _, _, _, _, _, _, _, _, h⟩ := h; exact sq_l h) ?_ ?_
    · rintro σ H10 ⟨o5, o6, o7, o8, o9, o10, o11, rfl, x10, B10, hs10, _⟩
      walk_at "st"
      exact q H10 x10 B10
    · rintro nx' fin j x σ H10 hx ⟨o5, o6, o7, o8, o9, o10, o11, rfl, x10, B10, hs10, hg10⟩
      obtain ⟨p, hpz, rfl⟩ := hPw x (List.mem_of_getElem? hx)
      have hpt : p ≤ (tl z).length := by rw [← len_tl]; exact hpz
      have sp := spot 10 (tl z) p hpt
      obtain ⟨i, hi⟩ : ∃ i, i = ((tl z).take p).count 10 := ⟨_, rfl⟩
      have hin : i < n := by have := sp.lt; omega
      have hbp : begins (parted 10 (tl z)) i ≤ p := by rw [hi]; exact sp.lo
      walk_at "st"
      refine use__law_line_at (z := z) ⟨hz, hpz, hs10⟩ ?_
      rw [← hi]
      walk_at "st"
      rw [show (i : Int) + 1 - 1 = (i : Int) from by omega]
      refine s_ixl hs10 (atI_nat' (hsg i (by omega))) ?_
      walk_at "st"
      intro du hdu
      obtain ⟨ndb, ndl⟩ := B10.fresh hdu
      have hsdu : st ≠ du := by grind [upd]
      have hgdu : g ≠ du := by grind [upd]
      walk_at "st"
      intro p1 hp1
      have hd1 : du ≠ p1 := by grind [upd]
      walk_at "st"
      intro p2 hp2
      have h12 : p1 ≠ p2 := by grind [upd]
      have hd2 : du ≠ p2 := by grind [upd]
      walk_at "st"
      refine use__law_is (xs := [.str z, .int (p : Int)]) (r := .inl (.tuple [.int ((((tl z).take p).count 10 : Nat) + 1), .int ((p : Int) - (begins (parted 10 (tl z)) (((tl z).take p).count 10) : Nat) + 1)]))
        ⟨by walk_at "hp", .spot z _ ho hz hpz, .lst (sq_l upd_same) (.cons (.str _) (.cons (.tup (sq_t (by walk_at "hp")) (.cons (dp_int (by rw [← hi])) (.cons (dp_int (by rw [← hi])) .nil))) .nil))⟩ fun H11 x11 => ?_
      have x11' := ask_ext3 hdu hp1 hp2 x11
      have hdu11 : H11 du = some (.tup [.int ((i : Int) + 1), .int ((p : Int) - (begins (parted 10 (tl z)) i : Nat) + 1)]) := x11 _ _ (by walk_at "hp")
      have B11 := B10.ext x11'
      have hs11 := x11' _ _ hs10
      have hg11 := x11' _ _ hg10
      have xE : ExtB b l H H11 := x10.trans (ExtB.of x11')
      clear x11 x11' hp1 hp2 h12 hd1 hd2
      walk_at "st"
      intro p1 hp1
      walk_at "st"
      intro p2 hp2
      have h12 : p1 ≠ p2 := by grind [upd]
      walk_at "st"
      refine use__law_is (xs := [.str z, .int ((i : Int) + 1), .int ((p : Int) - (begins (parted 10 (tl z)) i : Nat) + 1)]) (r := .inl (.int ((begins (parted 10 (tl z)) i : Nat) + ((p : Int) - (begins (parted 10 (tl z)) i : Nat) + 1) - 1)))
        ⟨by walk_at "hp", .place z i _ ho (by omega) (by omega) hz (by omega), .lst (sq_l upd_same) (.cons (.str _) (.cons (dp_int (by omega)) .nil))⟩ fun H12 x12 => ?_
      have x12' := ask_ext hp1 hp2 x12
      walk_at "st"
      exact ⟨_, _, _, _, _, _, _, rfl, xE.trans (ExtB.of x12'), B11.ext x12', x12' _ _ hs11, x12' _ _ hg11⟩
  · rintro nx' fin j x σ H6 hx ⟨o5, o6, o7, o8, o9, o10, o11, rfl, x6, B6, hs6, hm6⟩
    obtain ⟨i, hi, rfl⟩ := hL x (List.mem_of_getElem? hx)
    have hi' : i < (parted 10 (tl z)).length := by omega
    obtain ⟨h, hh⟩ : ∃ h, h = (parted 10 (tl z))[i] := ⟨_, rfl⟩
    have hhi : (parted 10 (tl z))[i]? = some h := by rw [hh]; exact List.getElem?_eq_getElem hi'
    have hbs : begins (parted 10 (tl z)) (i + 1) = begins (parted 10 (tl z)) i + h.length + 1 := by rw [hh]; exact begins_succ _ _ hi'
    have hble := begins_le (z := z) (i := i + 1) (by omega)
    have hown : cutS z (some (begins (parted 10 (tl z)) i : Int)) (some ((begins (parted 10 (tl z)) (i + 1) : Int) - 1)) = mk h := ext_tl (by
      rw [show ((begins (parted 10 (tl z)) (i + 1) : Nat) : Int) - 1 = ((begins (parted 10 (tl z)) (i + 1) - 1 : Nat) : Int) from by omega, tl_cut, tl_mk, hh]
      exact part_at 10 (tl z) i hi')
    have hml : (mk h).length = h.length := by rw [len_tl, tl_mk]
    obtain ⟨bi, hbi⟩ : ∃ bi, bi = begins (parted 10 (tl z)) i := ⟨_, rfl⟩
    walk_at "st"
    rw [show (i : Int) + 1 - 1 = (i : Int) from by omega]
    refine s_ixl hs6 (atI_nat' (hsg i (by omega))) ?_
    walk_at "st"
    refine s_ixl hs6 (atI_nat' (k := i + 1) (hsg (i + 1) (by omega))) ?_
    walk_at "st"
    rw [hown]
    intro p1 hp1
    walk_at "st"
    intro p2 hp2
    have h12 : p1 ≠ p2 := by grind [upd]
    walk_at "st"
    refine use__law_is (xs := [.str z, .int ((i : Int) + 1)]) (r := .inl (.str (mk h))) ⟨by walk_at "hp", .line z i h ho hz hhi, .lst (sq_l upd_same) (.cons (.str _) (.cons (.str _) .nil))⟩ fun H7 x7 => ?_
    have x7' := ask_ext hp1 hp2 x7
    have B7 := B6.ext x7'
    have hs7 := x7' _ _ hs6
    have hm7 := x7' _ _ hm6
    have xD : ExtB b l H H7 := x6.trans (ExtB.of x7')
    clear x7 x7' hp1 hp2 h12
    walk_at "st"
    refine use__law_draw (l := l) (n := h.length + 1) ⟨B7, by omega, by omega⟩ fun v3 H8 x8 B8 hv3 => ?_
    walk_at "st"
    intro tp htp
    obtain ⟨ntb, ntl⟩ := B8.fresh htp
    have hm8 := x8 _ _ nmb nml hm7
    have hs8 := x8 _ _ nsb nsl hs7
    have hstp : st ≠ tp := by grind [upd]
    have hmtp : sm ≠ tp := by grind [upd]
    rw [hml]
    obtain ⟨ys, hys⟩ : ∃ ys, ys = [V.int 1, V.int ((h.length : Int) + 1), V.int (1 + (v3 : Int))] := ⟨_, rfl⟩
    have hLy : LinesIn (h.length + 1) ys := by
      rw [hys]
      intro x hx
      simp only [List.mem_cons, List.not_mem_nil, or_false] at hx
      rcases hx with rfl | rfl | rfl
      · exact ⟨0, by omega, rfl⟩
      · exact ⟨h.length, by omega, rfl⟩
      · exact ⟨v3, hv3, by congr 1; omega⟩
    rw [← hys]
    clear hys
    have hm9 : upd H8 tp (.tup ys) sm = some (.lst xs) := by walk_at "hp"
    have hs9 : upd H8 tp (.tup ys) st = some (.lst (startsV z)) := by walk_at "hp"
    have ht9 : upd H8 tp (.tup ys) tp = some (.tup ys) := upd_same
    have B9 := B8.up htp (.tup ys)
    have x9 := (xD.trans x8).up htp (.tup ys)
    obtain ⟨H9, hH9⟩ : ∃ H9, H9 = upd H8 tp (.tup ys) := ⟨_, rfl⟩
    rw [← hH9] at hm9 hs9 ht9 B9 x9 ⊢
    walk_at "st"
    refine f_tup (xs := ys) (fun j σ H' => ∃ (o6 o7 o9 o10 o11 : Option V), σ = [some (.ref b), some (.str z), some (.ref st), some (.int n), some (.ref sm), some (.int ((i : Int) + 1)), o6, o7, some (.str (mk h)), o9, o10, o11] ∧ ExtB b l H H' ∧ BagAt b l H' ∧ H' st = some (.lst (startsV z)) ∧ H' sm = some (.lst xs) ∧ H' tp = some (.tup ys))
      ⟨_, _, _, _, _, rfl, x9, B9, hs9, hm9, ht9⟩ (fun j σ H' h => by obtain ⟨_, _, _, _, _, _, _, _, _, _, h⟩ := h; exact sq_t h) ?_ ?_
    · rintro σ H10 ⟨o6, o7, o9, o10, o11, rfl, x10, B10, hs10, hm10, _⟩
      exact ⟨_, _, _, _, _, _, _, rfl, x10, B10, hs10, hm10⟩
    · rintro nx2 fin2 j2 y σ H10 hy ⟨o6, o7, o9, o10, o11, rfl, x10, B10, hs10, hm10, ht10⟩
      obtain ⟨s, hs, rfl⟩ := hLy y (List.mem_of_getElem? hy)
      have hpz : begins (parted 10 (tl z)) i + s ≤ z.length := by omega
      have hcn : ((tl z).take (begins (parted 10 (tl z)) i + s)).count 10 = i := (spot_of (by rw [← len_tl]; exact hpz) hi' (by omega) (by omega)).symm
      walk_at "st"
      rw [show (i : Int) + 1 - 1 = (i : Int) from by omega]
      refine s_ixl hs10 (atI_nat' (hsg i (by omega))) ?_
      walk_at "st"
      rw [show (begins (parted 10 (tl z)) i : Int) + ((s : Int) + 1) - 1 = ((begins (parted 10 (tl z)) i + s : Nat) : Int) from by omega]
      intro p1 hp1
      walk_at "st"
      intro p2 hp2
      have h12 : p1 ≠ p2 := by grind [upd]
      walk_at "st"
      refine use__law_is (xs := [.str z, .int ((i : Int) + 1), .int ((s : Int) + 1)]) (r := .inl (.int ((begins (parted 10 (tl z)) i : Nat) + ((s : Int) + 1) - 1))) ⟨by walk_at "hp", .place z i _ ho (by omega) (by omega) hz (by omega), .lst (sq_l upd_same) (.cons (.str _) (.cons (dp_int (by omega)) .nil))⟩ fun H11 x11 => ?_
      have x11' := ask_ext hp1 hp2 x11
      have B11 := B10.ext x11'
      have hs11 := x11' _ _ hs10
      have hm11 := x11' _ _ hm10
      have ht11 := x11' _ _ ht10
      have xE : ExtB b l H H11 := x10.trans (ExtB.of x11')
      clear x11 x11' hp1 hp2 h12
      walk_at "st"
      intro p1 hp1
      walk_at "st"
      intro p2 hp2
      have h12 : p1 ≠ p2 := by grind [upd]
      walk_at "st"
      intro p3 hp3
      have h13 : p1 ≠ p3 := by grind [upd]
      have h23 : p2 ≠ p3 := by grind [upd]
      walk_at "st"
      refine use__law_is (xs := [.str z, .int ((begins (parted 10 (tl z)) i + s : Nat) : Int)]) (r := .inl (.tuple [.int ((((tl z).take (begins (parted 10 (tl z)) i + s)).count 10 : Nat) + 1), .int (((begins (parted 10 (tl z)) i + s : Nat) : Int) - (begins (parted 10 (tl z)) (((tl z).take (begins (parted 10 (tl z)) i + s)).count 10) : Nat) + 1)]))
        ⟨by walk_at "hp", .spot z _ ho hz hpz, .lst (sq_l upd_same) (.cons (.str _) (.cons (.tup (sq_t (by walk_at "hp")) (.cons (dp_int (by rw [hcn])) (.cons (dp_int (by rw [hcn]; omega)) .nil))) .nil))⟩ fun H12 x12 => ?_
      have x12' := ask_ext3 hp1 hp2 hp3 x12
      walk_at "st"
      exact ⟨_, _, _, _, _, rfl, xE.trans (ExtB.of x12'), B11.ext x12', x12' _ _ hs11, x12' _ _ hm11, x12' _ _ ht11⟩
end
end K04

set_option Elab.async false
set_option linter.all false
set_option maxRecDepth 100000
set_option maxHeartbeats 2000000
set_option autoImplicit false
namespace K04
open PySem PySem.Spec PyProof.Rows L2 TN
open L2H (cxH RoomH)
local macro_rules | `(tactic| walk_at "nq") => `(tactic| first
  | assumption
  | (apply Ne.symm; assumption)
  | grind [upd])
local macro_rules | `(tactic| walk_at "hp") => `(tactic| first
  | assumption
  | exact upd_same
  | (refine up_next ?nq0 ?hp0; (case nq0 => walk_at "nq"); (case hp0 => walk_at "hp")))
local macro_rules | `(tactic| walk_at "ex") => `(tactic| first
  | assumption
  | exact Ext.rfl'
  | (refine Ext.up ?xa ?xb _; (case xb => assumption); (case xa => walk_at "ex"))
  | (refine Ext.up0 ?xa ?xb _; (case xb => assumption); (case xa => walk_at "ex"))
  | (refine Ext.trans ?xb ?xa; (case xb => assumption); (case xa => walk_at "ex")))
local macro_rules | `(tactic| walk_at "eb") => `(tactic| first
  | assumption
  | exact ExtB.rfl'
  | (refine ExtB.up ?xa ?xb _; (case xb => assumption); (case xa => walk_at "eb"))
  | (refine ExtB.up0 ?xa ?xb _; (case xb => assumption); (case xa => walk_at "eb"))
  | (refine ExtB.trans ?xb ?xa; (case xa => assumption); (case xb => walk_at "eb"))
  | (refine ExtB.trans ?xb (ExtB.of ?xa); (case xa => assumption); (case xb => walk_at "eb")))
local macro_rules | `(tactic| walk_at "bg") => `(tactic| first
  | assumption
  | (refine BagAt.up ?xa ?xb _; (case xb => assumption); (case xa => walk_at "bg"))
  | (refine BagAt.ext ?xb ?xa; (case xa => assumption); (case xb => walk_at "bg")))
local macro_rules | `(tactic| walk_at "sz") => `(tactic| first
  | assumption
  | decide
  | (simp only [sizeLine_eq, List.length_append, List.length_cons, List.length_nil, List.length_map] at *; omega))
local macro_rules | `(tactic| walk_at "ci") => `(tactic| first
  | exact m2 (by decide)
  | exact m1 (by decide)
  | exact m1 ⟨by omega, by omega⟩
  | (show (0 : Int) < _; first | decide | omega | assumption)
  | exact ⟨by first | decide | omega, by first | decide | omega⟩
  | exact ⟨by decide, by decide, by decide⟩)
local macro_rules | `(tactic| walk_at "s1") => `(tactic| first
  | (with_reducible refine s_seq ?_)
  | (with_reducible refine s_asg ?_)
  | (with_reducible refine s_gname ?_)
  | (with_reducible refine s_ret ?_)
  | (with_reducible refine s_retn ?_)
  | (with_reducible refine s_next ?_)
  | (with_reducible refine s_drop ?_)
  | (with_reducible refine s_ifs ?_)
  | (with_reducible refine s_par ?_)
  | (with_reducible refine s_two ?_)
  | ((with_reducible refine' s_var ?sv ?_); (case sv => rfl))
  | (with_reducible refine s_c ?_)
  | (with_reducible refine s_op ?_)
  | (with_reducible refine s_un ?_)
  | (with_reducible refine s_test ?_)
  | (with_reducible refine s_tb ?_)
  | (with_reducible refine s_bl ?_)
  | (with_reducible refine s_and ?_)
  | (with_reducible refine s_or ?_)
  | (with_reducible refine s_not ?_)
  | (with_reducible refine s_andv ?_)
  | (with_reducible refine s_orv ?_)
  | (with_reducible refine s_notv ?_)
  | (with_reducible refine s_if ?_)
  | (with_reducible refine s_nil ?_)
  | (with_reducible refine s_cons ?_)
  | (with_reducible refine s_tup ?_)
  | (with_reducible refine s_lst ?_)
  | ((with_reducible refine' s_few ?sv ?_); (case sv => rfl))
  | (with_reducible refine s_m0 ?_)
  | (with_reducible refine s_m1 ?_)
  | (with_reducible refine s_str ?_)
  | (with_reducible refine s_cb ?_)
  | (with_reducible refine s_calld ?_)
  | (with_reducible refine s_callw ?_)
  | (with_reducible refine s_callk ?_)
  | (with_reducible refine s_callkw ?_)
  | (with_reducible refine s_sl ?_)
  | (with_reducible refine s_part ?_)
  | (with_reducible refine s_nopart ?_)
  | (with_reducible refine s_int ?_)
  | (with_reducible refine s_i2 ?_)
  | (with_reducible refine s_addi ?_)
  | ((with_reducible refine' s_adds ?sv ?_); (case sv => walk_at "sz"))
  | ((with_reducible refine' s_eqs ?sv ?_); (case sv => rfl))
  | ((with_reducible refine' s_nes ?sv ?_); (case sv => rfl))
  | (with_reducible refine s_ins ?_)
  | ((with_reducible refine' s_lens ?sv ?_); (case sv => walk_at "sz"))
  | ((with_reducible refine' s_lenl ?sv ?_); (case sv => walk_at "hp"))
  | ((with_reducible refine' s_lent ?sv ?_); (case sv => walk_at "hp"))
  | ((with_reducible refine' s_sls ?sv ?_); (case sv => walk_at "sz"))
  | (with_reducible refine w_tt ?_)
  | (with_reducible refine w_ff ?_)
  | (with_reducible refine s_ex2 ?_)
  | (with_reducible refine s_bm ?_)
  | (with_reducible refine s_bm0 ?_)
  | (with_reducible refine s_tys ?_)
  | ((with_reducible refine' s_tyl ?sv ?_); (case sv => walk_at "hp"))
  | ((with_reducible refine' s_app ?sv ?sw ?_); (case sv => walk_at "hp"); (case sw => walk_at "sz"))
  | (with_reducible refine s_gsub ?_)
  | ((with_reducible refine' s_ixt ?sv ?sw ?_); (case sv => walk_at "hp"); (case sw => rfl))
  | ((with_reducible refine' s_ixl ?sv ?sw ?_); (case sv => walk_at "hp"); (case sw => rfl))
  | (with_reducible refine s_pnx ?_)
  | (with_reducible refine s_prt ?_)
  | (with_reducible refine s_turn ?_)
  | (with_reducible refine s_for ?_)
  | (with_reducible refine s_ilist ?_)
  | (with_reducible refine s_itup ?_)
  | (with_reducible refine s_rng1 ?_)
  | (with_reducible refine s_rng2 ?_)
  | (with_reducible refine s_isStr ?_)
  | (with_reducible refine n_isn ?_)
  | ((with_reducible refine' c_mulS ?sv ?sw ?su ?_); (case sv => rfl); (case sw => omega); (case su => omega))
  | ((with_reducible refine' s_isTup ?sv ?_); (case sv => walk_at "hp"))
  | ((with_reducible refine' s_extl ?sv ?sw ?su ?_); (case sv => walk_at "hp"); (case sw => walk_at "hp"); (case su => walk_at "sz"))
  | ((with_reducible refine' s_gseqT ?sv ?sw ?_); (case sv => walk_at "hp"); (case sw => rfl))
  | ((with_reducible refine' s_gseqL ?sv ?sw ?_); (case sv => walk_at "hp"); (case sw => rfl))
  | (with_reducible refine c_chain ?_)
  | ((with_reducible refine' s_rng1' ?sv ?sw ?_); (case sv => omega); (case sw => omega))
  | ((with_reducible refine' s_rng2' ?sv ?_); (case sv => refine ⟨?_, ?_, ?_, ?_⟩ <;> omega))
  | (with_reducible refine s_callx ?_)
  | ((with_reducible refine' w_t ?sv ?_); (case sv => rfl))
  | ((with_reducible refine' w_f ?sv ?_); (case sv => rfl))
  | ((with_reducible refine' x_one ?sv ?sw ?_); (case sv => walk_at "hp"); (case sw => assumption))
  | (with_reducible refine x_at ?_)
  | ((with_reducible refine' x_get ?sv ?sw ?_); (case sv => walk_at "hp"); (case sw => rfl))
  | ((with_reducible refine' s_addl ?sv ?sw ?su ?_); (case sv => walk_at "hp"); (case sw => walk_at "hp"); (case su => walk_at "sz"))
  | (with_reducible refine c_lrv ?_)
  | ((with_reducible refine' c_rvl ?sv ?_); (case sv => walk_at "hp"))
  | ((with_reducible refine' s_setl ?sv ?sw ?_); (case sv => walk_at "hp"); (case sw => rfl))
  | ((with_reducible refine' c_ri ?sv ?_); (case sv => walk_at "ci"))
  | ((with_reducible refine' c_mul ?sv ?_); (case sv => walk_at "ci"))
  | ((with_reducible refine' c_neNil ?sv ?sw ?_); (case sv => walk_at "hp"); (case sw => walk_at "hp"))
  | (with_reducible refine c_u ?_)
  | ((with_reducible refine' c_wipe ?sv ?_); (case sv => rfl))
  | ((with_reducible refine' s_gtup ?sv ?sw ?_); (case sv => walk_at "hp"); (case sw => rfl))
  | (with_reducible refine s_gcons ?_)
  | (with_reducible refine s_gnil ?_)
  | ((with_reducible refine' c_tupL ?sv ?_); (case sv => walk_at "hp"))
  | ((with_reducible refine' c_tupT ?sv ?_); (case sv => walk_at "hp"))
  | ((with_reducible refine' c_lstL ?sv ?_); (case sv => walk_at "hp"))
  | ((with_reducible refine' c_lstT ?sv ?_); (case sv => walk_at "hp"))
  | (with_reducible refine c_max ?_)
  | (with_reducible refine c_min ?_)
  | (with_reducible refine c_abs ?_)
  | (with_reducible refine c_int ?_)
  | (with_reducible refine c_intb ?_)
  | (with_reducible refine c_lrg ?_)
  | (with_reducible refine c_rg2 ?_)
  | (with_reducible refine c_ii ?_)
  | (with_reducible refine c_lc ?_)
  | ((with_reducible refine' c_seql' ?sv ?_); (case sv => walk_at "hp"))
  | ((with_reducible refine' c_seqt' ?sv ?_); (case sv => walk_at "hp"))
  | (with_reducible refine c_yes ?_)
  | ((with_reducible refine' s_sll ?sv ?_); (case sv => walk_at "hp"))
  | (with_reducible refine n_isr ?_)
  | (with_reducible refine n_isi ?_)
  | (with_reducible refine n_iss ?_)
  | (with_reducible refine n_non ?_)
  | (with_reducible refine n_nor ?_)
  | (with_reducible refine n_noi ?_)
  | (with_reducible refine n_nos ?_))
local macro_rules | `(tactic| walk_at "st") => `(tactic| repeat1' walk_at "s1")
section
variable {P : Program} {w : World} {K : PySem.W.Frag} {mg : Str → Option Value} {base : Heap}
def answer (l : List Nat) (i : Nat) : PyData ⊕ Nat := match (toks l 0).2 with | none => .inl (.tuple ((tokensOn l i).map tokD)) | some p => .inr p
theorem ask_tokens {z : Str} {i : Nat} (ho : okS z) (hz : z.length ≤ 4000) (hi : i ≤ 4000) : AskV "tokens" [.str z, .int ((i : Int) + 1)] (answer (tl z) i) := by
  unfold answer
  cases h : (toks (tl z) 0).2 with
  | none => exact .good z i ho hz hi h
  | some p => exact .bad z i p ho hz hi h

/-! ## _law_are_tokens_right -/
abbrev s__law_are_tokens_right : Stmt := top 44
abbrev N__law_are_tokens_right : List Str := ["text", "lines", "starts", "line", "tokens", "bad", "due", "token"]
theorem sc__law_are_tokens_right : FnScope ["text", "lines", "starts", "line", "tokens", "bad", "due", "token"] ["text", "lines"] (defScope s__law_are_tokens_right) := ⟨rfl, rfl, rfl, by decide +kernel, rfl, by decide +kernel, by decide +kernel⟩
def sp__law_are_tokens_right (K : PySem.W.Frag) : Sp := fun vs H Q E => ∃ (z : Str) (a : Addr) (xs : List V), vs = [.str z, .ref a] ∧ (okS z ∧ z.length ≤ 4000 ∧ H a = some (.lst xs) ∧ LinesIn (parted 10 (tl z)).length xs) ∧ (∀ H', Ext H H' → Q (.bl true) H')
theorem use__law_are_tokens_right {K : PySem.W.Frag} {H : Hp} {Q : VK} {E : XK} {z : Str} {a : Addr} {xs : List V} (pre : okS z ∧ z.length ≤ 4000 ∧ H a = some (.lst xs) ∧ LinesIn (parted 10 (tl z)).length xs) (post : ∀ H', Ext H H' → Q (.bl true) H') : sp__law_are_tokens_right K [.str z, .ref a] H Q E := ⟨z, a, xs, rfl, pre, post⟩
theorem ok__law_are_tokens_right (R : RawFn K mg "_law_are_tokens_right" s__law_are_tokens_right) (d__law_is : DefOk P w K mg base CX0 "_law_is" s__law_is 8 ["word", "some", "due"] (sp__law_is K)) (d__law_starts : DefOk P w K mg base CX0 "_law_starts" s__law_starts 1 ["text"] (sp__law_starts K)) (d__law_tokens : DefOk P w K mg base CX0 "_law_tokens" s__law_tokens 2 ["text"] (sp__law_tokens K)) (n_tuple : mg "tuple" = none) : DefOk P w K mg base CX0 "_law_are_tokens_right" s__law_are_tokens_right 9 ["text", "lines"] (sp__law_are_tokens_right K) := by
  refine R.ok sc__law_are_tokens_right (fun _ _ _ _ _ _ us hl => match us, hl with | [_, _], _ => rfl) (fun vs H Q E h => by obtain ⟨_, _, _, rfl, _⟩ := h; rfl) (fun f cdv A outer s H vs Q E hr h => ?_)
  have hu := units64 hr
  obtain ⟨z, a, xs, rfl, pre, q⟩ := h
  refine ⟨_, (pss_cons (ps_asg (pe_callD (E := E0) d__law_tokens (hr.mono (by decide)) pass0 (pa_cons (pv 0) pa_nil)) (pg_seq rfl (pgs_cons (pg_name (i := 4) sc__law_are_tokens_right.nd rfl (Or.inl rfl)) (pgs_cons (pg_name (i := 5) sc__law_are_tokens_right.nd rfl (Or.inl rfl)) pgs_nil))))
      (pss_cons (ps_set (i := 2) sc__law_are_tokens_right.nd rfl (Or.inr rfl) (pe_callD (E := E0) d__law_starts (hr.mono (by decide)) pass0 (pa_cons (pv 0) pa_nil)))
      (pss_cons (ps_for PassesOwn.never rfl (pi_seq (pv 1)) (pg_name (i := 3) sc__law_are_tokens_right.nd rfl (Or.inr rfl))
      (pss_cons (ps_set (i := 6) sc__law_are_tokens_right.nd rfl (Or.inl rfl) (pe_lst (pa_cons pe_str (pa_cons pe_bl (pa_cons pe_bl (pa_cons pe_bl (pa_cons (pv 5) pa_nil)))))))
      (pss_cons (ps_if (pt_cmpR op_isNA (pv 5) pe_non (nomark _))
      (pss_one (ps_set (i := 6) sc__law_are_tokens_right.nd rfl (Or.inl rfl) (pe_lst (pa_cons pe_str (pa_cons (pe_callTy call_tupleOf (by rfl) n_tuple (by decide +kernel) (pa_cons (pe_lc (own := [("token", 7)]) (g := gName 7) rfl sc__law_are_tokens_right.nd (pi_seq (pv 4)) (blkOk_by (N := N__law_are_tokens_right) (sc := defScope s__law_are_tokens_right) (by decide +kernel)) (fun _ _ _ _ _ => pg_name (i := 7) sc__law_are_tokens_right.nd rfl (Or.inl rfl)) (fun _ _ _ _ _ => (pts_one (pt_chain op_le op_lt (pe_ix (ix_seqK K rfl) (pv 2) (pe_op op_sub (pv 3) pe_int) (fun _ _ => rfl)) (pe_ix (ix_seqK K rfl) (pv 7) pe_int (fun _ _ => rfl)) (pe_ix (ix_seqK K rfl) (pv 2) (pv 3) (fun _ _ => rfl))))) (fun _ _ _ _ _ => (pv 7))) pa_nil)) pa_nil)))))
      pss_nil)
      (pss_one (ps_if (pt_not (pt_val (pe_callD (E := E0) d__law_is (hr.mono (by decide)) pass0 (pa_cons pe_str (pa_cons (pe_lst (pa_cons (pv 0) (pa_cons (pv 3) pa_nil))) (pa_cons (pv 6) pa_nil))))))
      (pss_one (ps_ret pe_bl))
      pss_nil)))))
      (pss_one (ps_ret pe_bl))))), ?_⟩
  obtain ⟨ho, hz, ha, hL⟩ := pre
  have hm := many_le hz
  obtain ⟨n, hn⟩ : ∃ n, n = (parted 10 (tl z)).length := ⟨_, rfl⟩
  rw [← hn] at hL
  have hsg : ∀ i, i ≤ n → (startsV z)[i]? = some (.int (begins (parted 10 (tl z)) i : Nat)) := fun i hi => startsTo_get z (by omega)
  walk_at "st"
  refine use__law_tokens hz fun tq pf L H1 x1 htq hpf a1 => ?_
  walk_at "st"
  refine use__law_starts hz fun st H2 x2 hst hst2 => ?_
  have hpf2 := x2 _ _ hpf
  have ha2 := x2 _ _ (x1 _ _ ha)
  have a2 := a1.mono fun v t y => y.ext x2
  have x12 := x1.trans x2
  obtain ⟨T, hT⟩ : ∃ T, T = (toks (tl z) 0).1 := ⟨_, rfl⟩
  have hTp : ∀ t ∈ T, t.p < (tl z).length := by rw [hT]; exact fun t ht => toks_at _ _ t ht
  have hTl : T.length ≤ 4000 := by
    have := toks_len (tl z) 0
    rw [← hT, ← len_tl] at this
    omega
  rw [← hT] at a2
  walk_at "st"
  refine .inl ?_
  walk_at "st"
  refine f_list (xs := xs) (fun j σ H' => ∃ (o5 o6 o7 : Option V), σ = [some (.str z), some (.ref a), some (.ref st), o5, some (.ref pf), some (badV (toks (tl z) 0).2), o6, o7] ∧ Ext H2 H') ⟨_, _, _, rfl, Ext.rfl'⟩ (fun j σ H' h => by obtain ⟨_, _, _, _, x⟩ := h; exact sq_l (x _ _ ha2)) ?_ ?_
  · rintro σ H3 ⟨o5, o6, o7, rfl, x3⟩
    walk_at "st"
    exact q H3 (x12.trans x3)
  · rintro nx' fin j x σ H3 hx ⟨o5, o6, o7, rfl, x3⟩
    obtain ⟨i, hi, rfl⟩ := hL x (List.mem_of_getElem? hx)
    have hi' : i < (parted 10 (tl z)).length := by omega
    have hask := ask_tokens (i := i) ho hz (by omega)
    walk_at "st"
    intro du hdu
    cases hb : (toks (tl z) 0).2 with
    | some p =>
      unfold answer at hask
      rw [hb] at hask
      dsimp only [badV] at hask ⊢
      walk_at "st"
      intro p1 hp1
      have hd1 : du ≠ p1 := by grind [upd]
      walk_at "st"
      refine use__law_is (xs := [.str z, .int ((i : Int) + 1)]) (r := .inr p) ⟨upd_same, hask, .lst (sq_l (by walk_at "hp")) (.cons (.str _) (.cons (.bl _) (.cons (.bl _) (.cons (.bl _) (.cons (.int _) .nil)))))⟩ fun H4 x4 => ?_
      walk_at "st"
      exact ⟨_, _, _, rfl, x3.trans (ask_ext hdu hp1 x4)⟩
    | none =>
      unfold answer at hask
      rw [hb] at hask
      dsimp only [badV] at hask ⊢
      have hpf3 := x3 _ _ hpf2
      have hst3 := x3 _ _ hst2
      have x2du := x3.up hdu (.lst [.str "refused", .bl false, .bl false, .bl true, .non])
      have hpf4 := x2du _ _ hpf2
      have hst4 := x2du _ _ hst2
      obtain ⟨H4, hH4⟩ : ∃ H4, H4 = upd H3 du (.lst [.str "refused", .bl false, .bl false, .bl true, .non]) := ⟨_, rfl⟩
      rw [← hH4] at x2du hpf4 hst4 ⊢
      walk_at "st"
      refine .inl ?_
      walk_at "st"
      intro D hD
      have hDp : pf ≠ D := by grind [upd]
      have hDs : st ≠ D := by grind [upd]
      have hLT := a2.length
      have hkeep : ∀ t ∈ T, ((begins (parted 10 (tl z)) i : Int) ≤ (t.p : Int) ∧ (t.p : Int) < (begins (parted 10 (tl z)) (i + 1) : Int)) ↔ ((tl z).take t.p).count 10 = i := fun t ht => by
        have htl := hTp t ht
        refine ⟨fun ⟨h1, h2⟩ => (spot_of (Nat.le_of_lt htl) hi' (by omega) (by omega)).symm, fun h => ?_⟩
        have sp := spot 10 (tl z) t.p (Nat.le_of_lt htl)
        rw [h] at sp
        have h1 := sp.lo
        have h2 := sp.hi
        omega
      refine lc_list (xs := L) (fun j H' => ∃ acc, Ext H4 H' ∧ H' D = some (.lst acc) ∧ All2 (TokV H') acc ((T.take j).filter fun t => decide (((tl z).take t.p).count 10 = i)) ∧ acc.length ≤ j)
        ⟨[], Ext.new hD _, upd_same, .nil, Nat.le_refl _⟩ (fun j H' _ h => by obtain ⟨acc, x, _⟩ := h; exact sq_l (x _ _ hpf4)) (fun j x H' hx h => ?_) (fun H' h => ?_)
      · obtain ⟨acc, x5, hD5, al, hl⟩ := h
        obtain ⟨t, ht, hv⟩ := a2.get hx
        have htm := List.mem_of_getElem? ht
        have hjT : j < T.length := (List.getElem?_eq_some_iff.mp ht).1
        obtain ⟨e, rfl, he⟩ := hv.ext (x2du.trans x5)
        have step : (T.take (j + 1)).filter (fun t => decide (((tl z).take t.p).count 10 = i)) = (T.take j).filter (fun t => decide (((tl z).take t.p).count 10 = i)) ++ (if ((tl z).take t.p).count 10 = i then [t] else []) := by
          rw [List.take_add_one, ht, List.filter_append]
          by_cases hy : ((tl z).take t.p).count 10 = i <;> simp [hy]
        have hst5 := x5 _ _ hst4
        have yes : ((tl z).take t.p).count 10 = i → ∃ acc', H' D = some (.lst acc') ∧ acc'.length < sizeLine ∧ (fun j H' => ∃ acc, Ext H4 H' ∧ H' D = some (.lst acc) ∧ All2 (TokV H') acc ((T.take j).filter fun t => decide (((tl z).take t.p).count 10 = i)) ∧ acc.length ≤ j) (j + 1) (upd H' D (.lst (acc' ++ [.ref e]))) := fun hc => by
          rw [if_pos hc] at step
          refine ⟨acc, hD5, by rw [sizeLine_eq]; omega, acc ++ [.ref e], x5.up0 hD _, upd_same, ?_, by simp; omega⟩
          rw [step]
          exact (al.mono fun v t y => y.up hD5).snoc (TokV.up ⟨e, rfl, he⟩ hD5)
        have no : ¬ ((tl z).take t.p).count 10 = i → (fun j H' => ∃ acc, Ext H4 H' ∧ H' D = some (.lst acc) ∧ All2 (TokV H') acc ((T.take j).filter fun t => decide (((tl z).take t.p).count 10 = i)) ∧ acc.length ≤ j) (j + 1) H' := fun hc => by
          rw [if_neg hc, List.append_nil] at step
          exact ⟨acc, x5, hD5, by rw [step]; exact al, by omega⟩
        walk_at "st"
        rw [show (i : Int) + 1 - 1 = (i : Int) from by omega]
        refine s_ixl hst5 (atI_nat' (hsg i (by omega))) ?_
        walk_at "st"
        refine w_if (fun h1 => ?_) (fun h1 => ?_)
        · walk_at "st"
          refine s_ixl hst5 (atI_nat' (k := i + 1) (hsg (i + 1) (by omega))) ?_
          walk_at "st"
          refine w_if (fun h2 => ?_) (fun h2 => ?_)
          · walk_at "st"
            exact yes ((hkeep t htm).mp ⟨h1, h2⟩)
          · exact no fun hc => h2 ((hkeep t htm).mpr hc).2
        · walk_at "st"
          exact no fun hc => h1 ((hkeep t htm).mpr hc).1
      · obtain ⟨acc, x5, hD5, al, hl⟩ := h
        rw [hLT, List.take_length] at al
        walk_at "st"
        intro tp htp
        walk_at "st"
        intro d2 hd2
        have htd2 : tp ≠ d2 := by grind [upd]
        walk_at "st"
        intro p1 hp1
        have hd21 : d2 ≠ p1 := by grind [upd]
        have htp1 : tp ≠ p1 := by grind [upd]
        walk_at "st"
        have xq := (((Ext.rfl' (H := H')).up htp (.tup acc)).up hd2 (.lst [.str "told", .ref tp])).up hp1 (.lst [.str z, .int ((i : Int) + 1)])
        refine use__law_is (xs := [.str z, .int ((i : Int) + 1)]) (r := .inl (.tuple ((tokensOn (tl z) i).map tokD))) ⟨upd_same, hask, .lst (sq_l (by walk_at "hp")) (.cons (.str _) (.cons (.tup (sq_t (by walk_at "hp")) ?_) .nil))⟩ fun H6 x6 => ?_
        · have e : tokensOn (tl z) i = T.filter fun t => decide (((tl z).take t.p).count 10 = i) := by rw [hT]; rfl
          rw [e]
          exact (dh_all ((toks_dp (al.mono fun v t y => y.ext xq)))).dp
        walk_at "st"
        exact ⟨_, _, _, rfl, ((x2du.trans x5).trans xq).trans x6⟩
/-! ## _law_is_text_right -/
abbrev s__law_is_text_right : Stmt := top 45
abbrev N__law_is_text_right : List Str := ["bag", "text", "many", "lines"]
theorem sc__law_is_text_right : FnScope ["bag", "text", "many", "lines"] ["bag", "text"] (defScope s__law_is_text_right) := ⟨rfl, rfl, rfl, by decide +kernel, rfl, by decide +kernel, by decide +kernel⟩
def sp__law_is_text_right (K : PySem.W.Frag) : Sp := fun vs H Q E => ∃ (b : Addr) (l : Addr) (z : Str), vs = [.ref b, .str z] ∧ (BagAt b l H ∧ okS z ∧ z.length ≤ 4000) ∧ (∀ H', ExtB b l H H' → BagAt b l H' → Q (.bl true) H')
theorem use__law_is_text_right {K : PySem.W.Frag} {H : Hp} {Q : VK} {E : XK} {b : Addr} {l : Addr} {z : Str} (pre : BagAt b l H ∧ okS z ∧ z.length ≤ 4000) (post : ∀ H', ExtB b l H H' → BagAt b l H' → Q (.bl true) H') : sp__law_is_text_right K [.ref b, .str z] H Q E := ⟨b, l, z, rfl, pre, post⟩
theorem ok__law_is_text_right (R : RawFn K mg "_law_is_text_right" s__law_is_text_right) (d__law_are_spots_right : DefOk P w K mg base CX0 "_law_are_spots_right" s__law_are_spots_right 9 ["bag", "text"] (sp__law_are_spots_right K)) (d__law_are_tokens_right : DefOk P w K mg base CX0 "_law_are_tokens_right" s__law_are_tokens_right 9 ["text", "lines"] (sp__law_are_tokens_right K)) (d__law_draw : DefOk P w K mg base CX0 "_law_draw" s__law_draw 1 ["bag", "below"] (sp__law_draw K)) (d__law_starts : DefOk P w K mg base CX0 "_law_starts" s__law_starts 1 ["text"] (sp__law_starts K)) (n_len : mg "len" = none) (n_list : mg "list" = none) (n_range : mg "range" = none) : DefOk P w K mg base CX0 "_law_is_text_right" s__law_is_text_right 10 ["bag", "text"] (sp__law_is_text_right K) := by
  refine R.ok sc__law_is_text_right (fun _ _ _ _ _ _ us hl => match us, hl with | [_, _], _ => rfl) (fun vs H Q E h => by obtain ⟨_, _, _, rfl, _⟩ := h; rfl) (fun f cdv A outer s H vs Q E hr h => ?_)
  have hu := units64 hr
  obtain ⟨b, l, z, rfl, pre, q⟩ := h
  refine ⟨_, (pss_cons (ps_set (i := 2) sc__law_is_text_right.nd rfl (Or.inl rfl) (pe_op op_sub (pe_callB call_lenA (by rfl) n_len (by decide +kernel) (pa_cons (pe_callD (E := E0) d__law_starts (hr.mono (by decide)) pass0 (pa_cons (pv 1) pa_nil)) pa_nil)) pe_int))
      (pss_cons (ps_set (i := 3) sc__law_is_text_right.nd rfl (Or.inl rfl) (pe_lst (pa_cons pe_int (pa_cons (pv 2) (pa_cons (pe_op op_addA pe_int (pe_callD (E := E0) d__law_draw (hr.mono (by decide)) pass0 (pa_cons (pv 0) (pa_cons (pv 2) pa_nil)))) (pa_cons (pe_op op_addA pe_int (pe_callD (E := E0) d__law_draw (hr.mono (by decide)) pass0 (pa_cons (pv 0) (pa_cons (pv 2) pa_nil)))) pa_nil))))))
      (pss_cons (ps_if (pt_cmpR op_lt (pv 2) pe_int (nomark _))
      (pss_one (ps_set (i := 3) sc__law_is_text_right.nd rfl (Or.inl rfl) (pe_listRg rfl rfl n_list (prg_2 rfl n_range pe_int (pe_op op_addA (pv 2) pe_int)))))
      pss_nil)
      (pss_one (ps_ret (pe_and (pe_callD (E := E0) d__law_are_spots_right (hr.mono (by decide)) pass0 (pa_cons (pv 0) (pa_cons (pv 1) pa_nil))) (pe_one (pe_callD (E := E0) d__law_are_tokens_right (hr.mono (by decide)) pass0 (pa_cons (pv 1) (pa_cons (pv 3) pa_nil)))))))))), ?_⟩
  obtain ⟨B0, ho, hz⟩ := pre
  have hm := many_le hz
  have hmp := many_pos z
  have hsl := startsTo_length z ((parted 10 (tl z)).length + 1)
  obtain ⟨n, hn⟩ : ∃ n, n = (parted 10 (tl z)).length := ⟨_, rfl⟩
  walk_at "st"
  refine use__law_starts hz fun st H1 x1 hst hst1 => ?_
  have B1 := B0.ext x1
  walk_at "st"
  rw [hsl, show ((((parted 10 (tl z)).length + 1 : Nat) : Int) - 1) = (n : Int) from by omega]
  refine use__law_draw (l := l) (n := n) ⟨B1, by omega, by omega⟩ fun v1 H2 x2 B2 hv1 => ?_
  walk_at "st"
  refine use__law_draw (l := l) (n := n) ⟨B2, by omega, by omega⟩ fun v2 H3 x3 B3 hv2 => ?_
  have xB : ExtB b l H H3 := ((ExtB.of x1).trans x2).trans x3
  clear x1 x2 x3 B1 B2 hst1
  walk_at "st"
  intro li hli
  obtain ⟨nlb, nll⟩ := B3.fresh hli
  obtain ⟨xs, hxs⟩ : ∃ xs, xs = [V.int 1, V.int n, V.int (1 + (v1 : Int)), V.int (1 + (v2 : Int))] := ⟨_, rfl⟩
  have hL : LinesIn n xs := by
    rw [hxs]
    intro x hx
    simp only [List.mem_cons, List.not_mem_nil, or_false] at hx
    rcases hx with rfl | rfl | rfl | rfl
    · exact ⟨0, by omega, rfl⟩
    · exact ⟨n - 1, by omega, by congr 1; omega⟩
    · exact ⟨v1, hv1, by congr 1; omega⟩
    · exact ⟨v2, hv2, by congr 1; omega⟩
  rw [← hxs]
  clear hxs
  have B4 := B3.up hli (.lst xs)
  have x4 := xB.up hli (.lst xs)
  have hl4 : upd H3 li (.lst xs) li = some (.lst xs) := upd_same
  obtain ⟨H4, hH4⟩ : ∃ H4, H4 = upd H3 li (.lst xs) := ⟨_, rfl⟩
  rw [← hH4] at B4 x4 hl4 ⊢
  walk_at "st"
  refine w_if (fun h9 => ?_) (fun h9 => ?_)
  · walk_at "st"
    refine ⟨RgOk.of_le (by decide) (by omega) (by decide) (by omega), fun lj hlj => ?_⟩
    obtain ⟨nlb, nll⟩ := B4.fresh hlj
    have hL2 : LinesIn n (rgV 1 ((n : Int) + 1)) := by
      intro x hx
      obtain ⟨i, hi, rfl⟩ := List.mem_map.mp hx
      rw [List.mem_range] at hi
      exact ⟨i, by omega, by congr 1; omega⟩
    walk_at "st"
    refine use__law_are_spots_right (l := l) ⟨B4.up hlj _, ho, hz⟩ fun H5 x5 B5 => ?_
    walk_at "st"
    refine use__law_are_tokens_right (xs := rgV 1 ((n : Int) + 1)) ⟨ho, hz, x5 _ _ nlb nll upd_same, by rw [← hn]; exact hL2⟩ fun H6 x6 => ?_
    exact q H6 ((x4.up hlj _).trans (x5.trans (ExtB.of x6))) (B5.ext x6)
  · walk_at "st"
    refine use__law_are_spots_right (l := l) ⟨B4, ho, hz⟩ fun H5 x5 B5 => ?_
    walk_at "st"
    refine use__law_are_tokens_right (xs := xs) ⟨ho, hz, x5 _ _ nlb nll hl4, by rw [← hn]; exact hL⟩ fun H6 x6 => ?_
    exact q H6 (x4.trans (x5.trans (ExtB.of x6))) (B5.ext x6)
end
end K04

set_option Elab.async false
set_option linter.all false
set_option maxRecDepth 100000
set_option maxHeartbeats 2000000
set_option autoImplicit false
namespace K04
open PySem PySem.Spec PyProof.Rows L2 TN
open L2H (cxH RoomH)
local macro_rules | `(tactic| walk_at "nq") => `(tactic| first
  | assumption
  | (apply Ne.symm; assumption)
  | grind [upd])
local macro_rules | `(tactic| walk_at "hp") => `(tactic| first
  | assumption
  | exact upd_same
  | (refine up_next ?nq0 ?hp0; (case nq0 => walk_at "nq"); (case hp0 => walk_at "hp")))
local macro_rules | `(tactic| walk_at "ex") => `(tactic| first
  | assumption
  | exact Ext.rfl'
  | (refine Ext.up ?xa ?xb _; (case xb => assumption); (case xa => walk_at "ex"))
  | (refine Ext.up0 ?xa ?xb _; (case xb => assumption); (case xa => walk_at "ex"))
  | (refine Ext.trans ?xb ?xa; (case xb => assumption); (case xa => walk_at "ex")))
local macro_rules | `(tactic| walk_at "eb") => `(tactic| first
  | assumption
  | exact ExtB.rfl'
  | (refine ExtB.up ?xa ?xb _; (case xb => assumption); (case xa => walk_at "eb"))
  | (refine ExtB.up0 ?xa ?xb _; (case xb => assumption); (case xa => walk_at "eb"))
  | (refine ExtB.trans ?xb ?xa; (case xa => assumption); (case xb => walk_at "eb"))
  | (refine ExtB.trans ?xb (ExtB.of ?xa); (case xa => assumption); (case xb => walk_at "eb")))
local macro_rules | `(tactic| walk_at "bg") => `(tactic| first
  | assumption
  | (refine BagAt.up ?xa ?xb _; (case xb => assumption); (case xa => walk_at "bg"))
  | (refine BagAt.ext ?xb ?xa; (case xa => assumption); (case xb => walk_at "bg")))
local macro_rules | `(tactic| walk_at "sz") => `(tactic| first
  | assumption
  | decide
  | (simp only [sizeLine_eq, List.length_append, List.length_cons, List.length_nil, List.length_map] at *; omega))
local macro_rules | `(tactic| walk_at "ci") => `(tactic| first
  | exact m2 (by decide)
  | exact m1 (by decide)
  | exact m1 ⟨by omega, by omega⟩
  | (show (0 : Int) < _; first | decide | omega | assumption)
  | exact ⟨by first | decide | omega, by first | decide | omega⟩
  | exact ⟨by decide, by decide, by decide⟩)
local macro_rules | `(tactic| walk_at "s1") => `(tactic| first
  | (with_reducible refine s_seq ?_)
  | (with_reducible refine s_asg ?_)
  | (with_reducible refine s_gname ?_)
  | (with_reducible refine s_ret ?_)
  | (with_reducible refine s_retn ?_)
  | (with_reducible refine s_next ?_)
  | (with_reducible refine s_drop ?_)
  | (with_reducible refine s_ifs ?_)
  | (with_reducible refine s_par ?_)
  | (with_reducible refine s_two ?_)
  | ((with_reducible refine' s_var ?sv ?_); (case sv => rfl))
  | (with_reducible refine s_c ?_)
  | (with_reducible refine s_op ?_)
  | (with_reducible refine s_un ?_)
  | (with_reducible refine s_test ?_)
  | (with_reducible refine s_tb ?_)
  | (with_reducible refine s_bl ?_)
  | (with_reducible refine s_and ?_)
  | (with_reducible refine s_or ?_)
  | (with_reducible refine s_not ?_)
  | (with_reducible refine s_andv ?_)
  | (with_reducible refine s_orv ?_)
  | (with_reducible refine s_notv ?_)
  | (with_reducible refine s_if ?_)
  | (with_reducible refine s_nil ?_)
  | (with_reducible refine s_cons ?_)
  | (with_reducible refine s_tup ?_)
  | (with_reducible refine s_lst ?_)
  | ((with_reducible refine' s_few ?sv ?_); (case sv => rfl))
  | (with_reducible refine s_m0 ?_)
  | (with_reducible refine s_m1 ?_)
  | (with_reducible refine s_str ?_)
  | (with_reducible refine s_cb ?_)
  | (with_reducible refine s_calld ?_)
  | (with_reducible refine s_callw ?_)
  | (with_reducible refine s_callk ?_)
  | (with_reducible refine s_callkw ?_)
  | (with_reducible refine s_sl ?_)
  | (with_reducible refine s_part ?_)
  | (with_reducible refine s_nopart ?_)
  | (with_reducible refine s_int ?_)
  | (with_reducible refine s_i2 ?_)
  | (with_reducible refine s_addi ?_)
  | ((with_reducible refine' s_adds ?sv ?_); (case sv => walk_at "sz"))
  | ((with_reducible refine' s_eqs ?sv ?_); (case sv => rfl))
  | ((with_reducible refine' s_nes ?sv ?_); (case sv => rfl))
  | (with_reducible refine s_ins ?_)
  | ((with_reducible refine' s_lens ?sv ?_); (case sv => walk_at "sz"))
  | ((with_reducible refine' s_lenl ?sv ?_); (case sv => walk_at "hp"))
  | ((with_reducible refine' s_lent ?sv ?_); (case sv => walk_at "hp"))
  | ((with_reducible refine' s_sls ?sv ?_); (case sv => walk_at "sz"))
  | (with_reducible refine w_tt ?_)
  | (with_reducible refine w_ff ?_)
  | (with_reducible refine s_ex2 ?_)
  | (with_reducible refine s_bm ?_)
  | (with_reducible refine s_bm0 ?_)
  | (with_reducible refine s_tys ?_)
  | ((with_reducible refine' s_tyl ?sv ?_); (case sv => walk_at "hp"))
  | ((with_reducible refine' s_app ?sv ?sw ?_); (case sv => walk_at "hp"); (case sw => walk_at "sz"))
  | (with_reducible refine s_gsub ?_)
  | ((with_reducible refine' s_ixt ?sv ?sw ?_); (case sv => walk_at "hp"); (case sw => rfl))
  | ((with_reducible refine' s_ixl ?sv ?sw ?_); (case sv => walk_at "hp"); (case sw => rfl))
  | (with_reducible refine s_pnx ?_)
  | (with_reducible refine s_prt ?_)
  | (with_reducible refine s_turn ?_)
  | (with_reducible refine s_for ?_)
  | (with_reducible refine s_ilist ?_)
  | (with_reducible refine s_itup ?_)
  | (with_reducible refine s_rng1 ?_)
  | (with_reducible refine s_rng2 ?_)
  | (with_reducible refine s_isStr ?_)
  | (with_reducible refine n_isn ?_)
  | ((with_reducible refine' c_mulS ?sv ?sw ?su ?_); (case sv => rfl); (case sw => omega); (case su => omega))
  | ((with_reducible refine' s_isTup ?sv ?_); (case sv => walk_at "hp"))
  | ((with_reducible refine' s_extl ?sv ?sw ?su ?_); (case sv => walk_at "hp"); (case sw => walk_at "hp"); (case su => walk_at "sz"))
  | ((with_reducible refine' s_gseqT ?sv ?sw ?_); (case sv => walk_at "hp"); (case sw => rfl))
  | ((with_reducible refine' s_gseqL ?sv ?sw ?_); (case sv => walk_at "hp"); (case sw => rfl))
  | (with_reducible refine c_chain ?_)
  | ((with_reducible refine' s_rng1' ?sv ?sw ?_); (case sv => omega); (case sw => omega))
  | ((with_reducible refine' s_rng2' ?sv ?_); (case sv => refine ⟨?_, ?_, ?_, ?_⟩ <;> omega))
  | (with_reducible refine s_callx ?_)
  | ((with_reducible refine' w_t ?sv ?_); (case sv => rfl))
  | ((with_reducible refine' w_f ?sv ?_); (case sv => rfl))
  | ((with_reducible refine' x_one ?sv ?sw ?_); (case sv => walk_at "hp"); (case sw => assumption))
  | (with_reducible refine x_at ?_)
  | ((with_reducible refine' x_get ?sv ?sw ?_); (case sv => walk_at "hp"); (case sw => rfl))
  | ((with_reducible refine' s_addl ?sv ?sw ?su ?_); (case sv => walk_at "hp"); (case sw => walk_at "hp"); (case su => walk_at "sz"))
  | (with_reducible refine c_lrv ?_)
  | ((with_reducible refine' c_rvl ?sv ?_); (case sv => walk_at "hp"))
  | ((with_reducible refine' s_setl ?sv ?sw ?_); (case sv => walk_at "hp"); (case sw => rfl))
  | ((with_reducible refine' c_ri ?sv ?_); (case sv => walk_at "ci"))
  | ((with_reducible refine' c_mul ?sv ?_); (case sv => walk_at "ci"))
  | ((with_reducible refine' c_neNil ?sv ?sw ?_); (case sv => walk_at "hp"); (case sw => walk_at "hp"))
  | (with_reducible refine c_u ?_)
  | ((with_reducible refine' c_wipe ?sv ?_); (case sv => rfl))
  | ((with_reducible refine' s_gtup ?sv ?sw ?_); (case sv => walk_at "hp"); (case sw => rfl))
  | (with_reducible refine s_gcons ?_)
  | (with_reducible refine s_gnil ?_)
  | ((with_reducible refine' c_tupL ?sv ?_); (case sv => walk_at "hp"))
  | ((with_reducible refine' c_tupT ?sv ?_); (case sv => walk_at "hp"))
  | ((with_reducible refine' c_lstL ?sv ?_); (case sv => walk_at "hp"))
  | ((with_reducible refine' c_lstT ?sv ?_); (case sv => walk_at "hp"))
  | (with_reducible refine c_max ?_)
  | (with_reducible refine c_min ?_)
  | (with_reducible refine c_abs ?_)
  | (with_reducible refine c_int ?_)
  | (with_reducible refine c_intb ?_)
  | (with_reducible refine c_lrg ?_)
  | (with_reducible refine c_rg2 ?_)
  | (with_reducible refine c_ii ?_)
  | (with_reducible refine c_lc ?_)
  | ((with_reducible refine' c_seql' ?sv ?_); (case sv => walk_at "hp"))
  | ((with_reducible refine' c_seqt' ?sv ?_); (case sv => walk_at "hp"))
  | (with_reducible refine c_yes ?_)
  | ((with_reducible refine' s_sll ?sv ?_); (case sv => walk_at "hp"))
  | (with_reducible refine n_isr ?_)
  | (with_reducible refine n_isi ?_)
  | (with_reducible refine n_iss ?_)
  | (with_reducible refine n_non ?_)
  | (with_reducible refine n_nor ?_)
  | (with_reducible refine n_noi ?_)
  | (with_reducible refine n_nos ?_))
local macro_rules | `(tactic| walk_at "st") => `(tactic| repeat1' walk_at "s1")
section
variable {P : Program} {w : World} {K : PySem.W.Frag} {mg : Str → Option Value} {base : Heap}
def showT (k : Str) (w : List Nat) : Str := (PyData.tuple [.str k, .str (mk w)]).shown
def showL (z : Str) : List V := (toks (tl z) 0).1.map fun t => V.str (showT t.k t.w)
theorem dh_tok {H : Hp} {v : V} {t : Tok} (h : Dh H v (tokD t)) : TokV H v t := by
  unfold tokD at h
  cases h with
  | tup ha hs =>
    cases hs with
    | cons h1 hs =>
      cases h1
      cases hs with
      | cons h2 hs =>
        cases h2
        cases hs with
        | cons h3 hs =>
          cases h3
          cases hs
          exact ⟨_, rfl, ha⟩
theorem told_inv {H : Hp} {b : Addr} {ts : List Tok} (h : Dh H (.ref b) (toldD (.inl (.tuple (ts.map tokD))))) : ∃ c vs, H b = some (.lst [.str "told", .ref c]) ∧ H c = some (.tup vs) ∧ All2 (TokV H) vs ts := by
  unfold toldD at h
  cases h with
  | lst ha hs =>
    cases hs with
    | cons h1 hs =>
      cases h1
      cases hs with
      | cons h2 hs =>
        cases hs
        cases h2 with
        | tup hb hv => exact ⟨_, _, ha, hb, (all2_map (all_dh hv)).mono fun v t => dh_tok⟩
theorem cut2 (a b c : V) : cutV [a, b, c] none (some 2) = [a, b] := cutV_to [a, b, c] 2
theorem c_sl2 {H : Hp} {Q : VK} {p : Addr} {a b c : V} (hp : H p = some (.tup [a, b, c])) (h : ∀ q, H q = none → Q (.ref q) (upd H q (.tup [a, b]))) : TN.rSlA K (.ref p) none (some 2) H Q :=
  c_slt hp (fun ⟨_, e⟩ => by cases e) (by rw [cut2]; exact h)
theorem show_sh {k : Str} {w : List Nat} (h1 : small (tl k)) (h2 : small w) : Sh (.tuple [.str k, .str (mk w)]) 1 100 :=
  .tuple (.cons (.str (n := 8) (okS_small h1.2 rfl) (by rw [len_tl]; exact h1.1)) (.one (.str (n := 8) (okS_small h2.2 rfl) (by rw [len_tl]; exact h2.1)) (Nat.le_refl _)) (by decide))

/-! ## _law_all_told -/
abbrev s__law_all_told : Stmt := top 46
abbrev N__law_all_told : List Str := ["text", "found", "line", "told", "token"]
theorem sc__law_all_told : FnScope ["text", "found", "line", "told", "token"] ["text"] (defScope s__law_all_told) := ⟨rfl, rfl, rfl, by decide +kernel, rfl, by decide +kernel, by decide +kernel⟩
def sp__law_all_told (K : PySem.W.Frag) : Sp := fun vs H Q E => ∃ (z : Str), vs = [.str z] ∧ (okS z ∧ z.length ≤ 4000 ∧ (toks (tl z) 0).2 = none) ∧ (∀ q H', Ext H H' → H q = none → H' q = some (.lst (showL z)) → Q (.ref q) H')
theorem use__law_all_told {K : PySem.W.Frag} {H : Hp} {Q : VK} {E : XK} {z : Str} (pre : okS z ∧ z.length ≤ 4000 ∧ (toks (tl z) 0).2 = none) (post : ∀ q H', Ext H H' → H q = none → H' q = some (.lst (showL z)) → Q (.ref q) H') : sp__law_all_told K [.str z] H Q E := ⟨z, rfl, pre, post⟩
theorem ok__law_all_told (R : RawFn K mg "_law_all_told" s__law_all_told) (d__law_starts : DefOk P w K mg base CX0 "_law_starts" s__law_starts 1 ["text"] (sp__law_starts K)) (d__law_told : DefOk P w K mg base CX0 "_law_told" s__law_told 7 ["word", "some", "is_named"] (sp__law_told K)) (n_isinstance : mg "isinstance" = none) (n_len : mg "len" = none) (n_range : mg "range" = none) (n_repr : mg "repr" = none) (n_tuple : mg "tuple" = none) : DefOk P w K mg base CX0 "_law_all_told" s__law_all_told 8 ["text"] (sp__law_all_told K) := by
  refine R.ok sc__law_all_told (fun _ _ _ _ _ _ us hl => match us, hl with | [_], _ => rfl) (fun vs H Q E h => by obtain ⟨_, rfl, _⟩ := h; rfl) (fun f cdv A outer s H vs Q E hr h => ?_)
  have hu := units64 hr
  obtain ⟨z, rfl, pre, q⟩ := h
  refine ⟨_, (pss_cons (ps_set (i := 1) sc__law_all_told.nd rfl (Or.inl rfl) (pe_lst pa_nil))
      (pss_cons (ps_for PassesOwn.never rfl (pi_range2 rfl n_range (pa_cons pe_int (pa_cons (pe_callB call_lenA (by rfl) n_len (by decide +kernel) (pa_cons (pe_callD (E := E0) d__law_starts (hr.mono (by decide)) pass0 (pa_cons (pv 0) pa_nil)) pa_nil)) pa_nil))) (pg_name (i := 2) sc__law_all_told.nd rfl (Or.inl rfl))
      (pss_cons (ps_set (i := 3) sc__law_all_told.nd rfl (Or.inl rfl) (pe_callD (E := E0) d__law_told (hr.mono (by decide)) pass0 (pa_cons pe_str (pa_cons (pe_lst (pa_cons (pv 0) (pa_cons (pv 2) pa_nil))) (pa_cons pe_bl pa_nil)))))
      (pss_cons (ps_if (PW.pt (pw_or (pt_cmpR (op_neA hu) (pe_ix ix_seq (pv 3) pe_int (fun _ _ => rfl)) pe_str (nomark _)) (pw_or1 (pt_not (pt_val (pe_callB call_isi (by rfl) n_isinstance (by decide +kernel) (pa_cons (pe_ix ix_seq (pv 3) pe_int (fun _ _ => rfl)) (pa_cons (pe_bltn (by rfl) n_tuple (by decide +kernel) (show RelV (.ty "tuple") _ from rfl)) pa_nil))))))))
      (pss_one (ps_ret pe_non))
      pss_nil)
      (pss_one (ps_expr (pe_bm PySem.F.plainAttrs_list PySem.F.slot_list_extend PySem.F.type_list_extend mt_extend (pv 1) (pa_cons (pe_lc (own := [("token", 4)]) (g := gName 4) (tt := tYes) rfl sc__law_all_told.nd (pi_seq (pe_ix ix_seq (pv 3) pe_int (fun _ _ => rfl))) (blkOk_by (N := N__law_all_told) (sc := defScope s__law_all_told) (by decide +kernel)) (fun _ _ _ _ _ => pg_name (i := 4) sc__law_all_told.nd rfl (Or.inl rfl)) (fun _ _ _ _ _ => pts_nil) (fun _ _ _ _ _ => (pe_callB (call_reprK K rfl hr.g hu) (by rfl) n_repr (by decide +kernel) (pa_cons (pe_slice (sl_AK K rfl) (pv 4) po_none (po_some pe_int)) pa_nil)))) pa_nil)))))))
      (pss_one (ps_ret (pv 1))))), ?_⟩
  obtain ⟨ho, hz, hg⟩ := pre
  have hm := many_le hz
  obtain ⟨n, hn⟩ : ∃ n, n = (parted 10 (tl z)).length := ⟨_, rfl⟩
  obtain ⟨T, hT⟩ : ∃ T, T = (toks (tl z) 0).1 := ⟨_, rfl⟩
  have hTl : T.length ≤ 4000 := by
    have := toks_len (tl z) 0
    rw [← hT, ← len_tl] at this
    omega
  have hsm : ∀ t ∈ T, small (tl t.k) ∧ small t.w := by rw [hT]; exact toks_small _ 0
  have hsl := startsTo_length z ((parted 10 (tl z)).length + 1)
  walk_at "st"
  intro fo hfo
  walk_at "st"
  refine use__law_starts hz fun st H1 x1 hst hst1 => ?_
  have hfo1 := x1 _ _ upd_same
  have xA : Ext H H1 := (Ext.new hfo _).trans x1
  walk_at "st"
  rw [hsl]
  walk_at "st"
  rw [show ((((parted 10 (tl z)).length + 1 : Nat) : Int) - 1).toNat = n from by omega]
  have fin0 : T.filter (fun t => decide (((tl z).take t.p).count 10 < n)) = T := List.filter_eq_self.mpr fun t ht => by
    have h1 : ((tl z).take t.p).count 10 ≤ (tl z).count 10 := List.Sublist.count_le _ (List.take_sublist _ _)
    rw [hn, parted_length]
    exact decide_eq_true (by omega)
  refine f_range (fun j σ H' => ∃ (o2 o3 o4 : Option V), σ = [some (.str z), some (.ref fo), o2, o3, o4] ∧ Ext H H' ∧ H' fo = some (.lst ((T.filter (fun t => decide (((tl z).take t.p).count 10 < j))).map fun t => V.str (showT t.k t.w))))
    ⟨_, _, _, rfl, xA, by rw [hfo1]; simp⟩ ?_ ?_
  · rintro σ H2 ⟨o2, o3, o4, rfl, x2, h2⟩
    walk_at "st"
    rw [fin0] at h2
    exact q fo H2 x2 hfo (by rw [h2, hT]; rfl)
  · rintro nx' fin j σ H2 hj ⟨o2, o3, o4, rfl, x2, h2⟩
    rw [Int.add_comm 1 (j : Int)]
    have hask := ask_tokens (i := j) ho hz (by omega)
    unfold answer at hask
    rw [hg] at hask
    dsimp only at hask
    walk_at "st"
    intro p1 hp1
    have hf1 : fo ≠ p1 := by grind [upd]
    walk_at "st"
    refine use__law_told (xs := [.str z, .int ((j : Int) + 1)]) ⟨upd_same, hask⟩ fun b H3 x3 hb => ?_
    obtain ⟨c, vs, hb3, hc3, hvs⟩ := told_inv hb
    have x3' : Ext H2 H3 := (Ext.new hp1 _).trans x3
    have h3 := x3' _ _ h2
    walk_at "st"
    refine .inr ?_
    walk_at "st"
    intro D hD
    have hDf : fo ≠ D := by grind [upd]
    have hTo : tokensOn (tl z) j = T.filter fun t => decide (((tl z).take t.p).count 10 = j) := by rw [hT]; rfl
    obtain ⟨S, hS⟩ : ∃ S, S = tokensOn (tl z) j := ⟨_, rfl⟩
    rw [← hS] at hvs hTo
    have hSm : ∀ t ∈ S, small (tl t.k) ∧ small t.w := fun t ht => hsm t (by rw [hTo] at ht; exact (List.mem_filter.mp ht).1)
    have hSl : S.length ≤ 4000 := Nat.le_trans (by rw [hTo]; exact List.length_filter_le _ _) hTl
    have hDn : H D = none := (x2.trans x3').none hD
    have hlv := hvs.length
    refine lc_tup (xs := vs) (fun i H' => Ext H3 H' ∧ H' D = some (.lst ((S.take i).map fun t => V.str (showT t.k t.w))))
      ⟨Ext.new hD _, upd_same⟩ (fun i H' _ h => sq_t (h.1 _ _ hc3)) (fun i x H' hx h => ?_) (fun H' h => ?_)
    · obtain ⟨x4, hD4⟩ := h
      obtain ⟨t, ht, hv⟩ := hvs.get hx
      obtain ⟨t1, t2⟩ := hSm t (List.mem_of_getElem? ht)
      have hiS : i < S.length := (List.getElem?_eq_some_iff.mp ht).1
      obtain ⟨e, rfl, he⟩ := hv.ext x4
      walk_at "st"
      refine c_sl2 he fun g hg' => ?_
      have hDg : D ≠ g := by grind [upd]
      walk_at "st"
      refine c_repr (.tup (sq_t upd_same) (.cons (.str _) (.cons (.str _) .nil))) (show_sh t1 t2) (by decide) (by decide) ?_
      refine ⟨_, by rw [upd_ne hDg]; exact hD4, by rw [List.length_map, List.length_take, sizeLine_eq]; omega, (x4.up hg' _).up0 hD _, ?_⟩
      rw [upd_same, List.take_add_one, ht, List.map_append]
      rfl
    · obtain ⟨x4, hD4⟩ := h
      rw [hlv, List.take_length] at hD4
      have h4 := x4 _ _ h3
      have hl1 : (T.filter (fun t => decide (((tl z).take t.p).count 10 < j))).length ≤ 4000 := Nat.le_trans (List.length_filter_le _ _) hTl
      walk_at "st"
      refine ⟨_, _, _, rfl, (((x2.trans x3').trans x4).up0 hfo _), ?_⟩
      have hsort : T.Pairwise fun a b => ((tl z).take a.p).count 10 ≤ ((tl z).take b.p).count 10 := by rw [hT]; exact line_sorted (tl z)
      rw [upd_same, filter_next (fun t => ((tl z).take t.p).count 10) j T hsort, List.map_append, hTo]
theorem joined_toks {ss : List Str} {t : Str} (hss : ∀ s ∈ ss, s ∈ someL) (hl : ss.length ≤ 30) (h : Joined ss t) : okS t ∧ t.length ≤ 400 ∧ (toks (tl t) 0).2 = none ∧ showL t = ss.map fun s => V.str (showT (kindOf s) (tl s)) := by
  obtain ⟨pre, post, prs, e1, hb, hpre, hpost, et⟩ := h.ex
  have hg : ∀ pr ∈ prs, goodSign (tl pr.1) ∧ BlankT pr.2 := fun pr hpr => ⟨some_good _ (hss _ (by rw [← e1]; exact List.mem_map_of_mem hpr)), hb pr hpr⟩
  have hbl : ∀ c ∈ blanks, c < 1114112 := by decide
  have hsl : ∀ s ∈ someL, ∀ c ∈ tl s, c < 1114112 := by decide
  refine ⟨fun c hc => ?_, Nat.le_trans h.le (by omega), ?_⟩
  · rw [et] at hc
    rcases List.mem_append.mp hc with hc | hc
    · rcases List.mem_append.mp hc with hc | hc
      · exact hbl c (hpre c hc)
      · obtain ⟨pr, hpr, hc⟩ := List.mem_flatMap.mp hc
        rcases List.mem_append.mp hc with hc | hc
        · exact hsl _ (hss _ (by rw [← e1]; exact List.mem_map_of_mem hpr)) c hc
        · exact hbl c ((hb pr hpr).bl c hc)
    · exact hbl c (hpost c hc)
  · have e0 : (tl t).drop 0 = pre ++ (flatP prs ++ post) := by rw [List.drop_zero, et, List.append_assoc]
    have e2 : (tl t).drop (0 + pre.length) = flatP prs ++ post := by rw [← List.drop_drop, e0, List.drop_left]
    obtain ⟨i1, i2⟩ := toks_flat hpost prs _ e2 hg
    rw [← toks_blankn e0 hpre] at i1 i2
    refine ⟨i1, ?_⟩
    have e3 : showL t = ((toks (tl t) 0).1.map fun t => (t.k, t.w)).map fun kw => V.str (showT kw.1 kw.2) := by unfold showL; rw [List.map_map]; rfl
    rw [e3, i2, ← e1, List.map_map, List.map_map]
    rfl
theorem show_ok : ∀ s ∈ someL, PyData.strOk (showT (kindOf s) (tl s)) = true := by decide +kernel
theorem dp_strs {H : Hp} : ∀ zs : List Str, All2 (Dp K H) (zs.map V.str) (zs.map PyData.str)
  | [] => .nil
  | z :: zs => .cons (.str z) (dp_strs zs)
theorem depth_strs : ∀ zs : List Str, PyData.depthAll (zs.map PyData.str) ≤ 1
  | [] => Nat.zero_le _
  | z :: zs => Nat.max_le.mpr ⟨Nat.zero_le _, depth_strs zs⟩
/-- two lists of the same texts are equal -/
theorem c_eqStrs {H : Hp} {Q : VK} {a b : Addr} (zs : List Str) (h1 : H a = some (.lst (zs.map V.str))) (h2 : H b = some (.lst (zs.map V.str))) (hz : ∀ z ∈ zs, PyData.strOk z = true) (h : Q (.bl true) H) : rEqA K (.ref a) (.ref b) H Q := by
  have hc : PyData.canLay0 (.list (zs.map PyData.str)) = true := by
    show PyData.canLayAll0 (zs.map PyData.str) = true
    rw [canLayAll_strs', List.all_eq_true]
    exact hz
  have hs : SeqAt.shaped (.list (zs.map PyData.str)) = true := by
    unfold SeqAt.shaped
    rw [Bool.and_eq_true]
    refine ⟨hc, decide_eq_true ?_⟩
    have := depth_strs zs
    show PyData.depthAll (zs.map PyData.str) + 1 ≤ 64
    omega
  refine .inr ⟨.list (zs.map PyData.str), .list (zs.map PyData.str), .lst (sq_l h1) (dp_all (dp_strs zs)), .lst (sq_l h2) (dp_all (dp_strs zs)), hs, hs, ?_⟩
  rw [SeqAt.eqv_refl _ hc]
  exact h
/-! ## _law_are_blanks_right -/
abbrev s__law_are_blanks_right : Stmt := top 47
abbrev N__law_are_blanks_right : List Str := ["bag", "signs", "one", "other", "due", "token"]
theorem sc__law_are_blanks_right : FnScope ["bag", "signs", "one", "other", "due", "token"] ["bag", "signs"] (defScope s__law_are_blanks_right) := ⟨rfl, rfl, rfl, by decide +kernel, rfl, by decide +kernel, by decide +kernel⟩
def sp__law_are_blanks_right (K : PySem.W.Frag) : Sp := fun vs H Q E => ∃ (b : Addr) (l : Addr) (a : Addr) (ss : List Str), vs = [.ref b, .ref a] ∧ (BagAt b l H ∧ (H a = some (.lst (ss.map V.str)) ∧ a ≠ b ∧ a ≠ l ∧ ss.length ≤ 30 ∧ ∀ s ∈ ss, s ∈ someL)) ∧ (∀ H', ExtB b l H H' → BagAt b l H' → Q (.bl true) H')
theorem use__law_are_blanks_right {K : PySem.W.Frag} {H : Hp} {Q : VK} {E : XK} {b : Addr} {l : Addr} {a : Addr} {ss : List Str} (pre : BagAt b l H ∧ (H a = some (.lst (ss.map V.str)) ∧ a ≠ b ∧ a ≠ l ∧ ss.length ≤ 30 ∧ ∀ s ∈ ss, s ∈ someL)) (post : ∀ H', ExtB b l H H' → BagAt b l H' → Q (.bl true) H') : sp__law_are_blanks_right K [.ref b, .ref a] H Q E := ⟨b, l, a, ss, rfl, pre, post⟩
theorem ok__law_are_blanks_right (R : RawFn K mg "_law_are_blanks_right" s__law_are_blanks_right) (d__law_all_told : DefOk P w K mg base CX0 "_law_all_told" s__law_all_told 8 ["text"] (sp__law_all_told K)) (d__law_joined : DefOk P w K mg base CX0 "_law_joined" s__law_joined 3 ["bag", "signs", "blanks"] (sp__law_joined K)) (d__law_tokens : DefOk P w K mg base CX0 "_law_tokens" s__law_tokens 2 ["text"] (sp__law_tokens K)) (n_repr : mg "repr" = none) : DefOk P w K mg base CX0 "_law_are_blanks_right" s__law_are_blanks_right 9 ["bag", "signs"] (sp__law_are_blanks_right K) := by
  refine R.ok sc__law_are_blanks_right (fun _ _ _ _ _ _ us hl => match us, hl with | [_, _], _ => rfl) (fun vs H Q E h => by obtain ⟨_, _, _, _, rfl, _⟩ := h; rfl) (fun f cdv A outer s H vs Q E hr h => ?_)
  have hu := units64 hr
  obtain ⟨b, l, a, ss, rfl, pre, q⟩ := h
  refine ⟨_, (pss_cons (ps_set (i := 2) sc__law_are_blanks_right.nd rfl (Or.inl rfl) (pe_callD (E := E0) d__law_joined (hr.mono (by decide)) pass0 (pa_cons (pv 0) (pa_cons (pv 1) (pa_cons (pe_lst (pa_cons pe_str (pa_cons pe_str pa_nil))) pa_nil)))))
      (pss_cons (ps_set (i := 3) sc__law_are_blanks_right.nd rfl (Or.inl rfl) (pe_callD (E := E0) d__law_joined (hr.mono (by decide)) pass0 (pa_cons (pv 0) (pa_cons (pv 1) (pa_cons (pe_lst (pa_cons pe_str (pa_cons pe_str (pa_cons pe_str (pa_cons pe_str (pa_cons pe_str pa_nil)))))) pa_nil)))))
      (pss_cons (ps_setLc (i := 4) (own := [("token", 5)]) (g := gName 5) (tt := tYes) rfl sc__law_are_blanks_right.nd rfl rfl (sw_true rfl rfl rfl (by decide +kernel)) (pi_seq (pe_ix ix_seq (pe_callD (E := E0) d__law_tokens (hr.mono (by decide)) pass0 (pa_cons (pv 2) pa_nil)) pe_int (fun _ _ => rfl))) (blkOk_by (N := N__law_are_blanks_right) (sc := defScope s__law_are_blanks_right) (by decide +kernel)) (fun _ _ _ _ _ => pg_name (i := 5) sc__law_are_blanks_right.nd rfl (Or.inl rfl)) (fun _ _ _ _ _ => pts_nil) (fun _ _ _ _ _ => (pe_callB (call_reprK K rfl hr.g hu) (by rfl) n_repr (by decide +kernel) (pa_cons (pe_slice (sl_AK K rfl) (pv 5) po_none (po_some pe_int)) pa_nil))))
      (pss_one (ps_ret (pe_and (pe_cmpR (op_eqA hu) (pe_callD (E := E0) d__law_all_told (hr.mono (by decide)) pass0 (pa_cons (pv 2) pa_nil)) (pv 4) (nomark _)) (pe_one (pe_cmpR (op_eqA hu) (pe_callD (E := E0) d__law_all_told (hr.mono (by decide)) pass0 (pa_cons (pv 3) pa_nil)) (pv 4) (nomark _))))))))), ?_⟩
  obtain ⟨B0, ha, nab, nal, hal, hss⟩ := pre
  have h8 : ∀ s ∈ ss, s.length ≤ 8 := fun s hs => (show ∀ s ∈ someL, s.length ≤ 8 from by decide) s (hss s hs)
  walk_at "st"
  intro p hp
  obtain ⟨npb, npl⟩ := B0.fresh hp
  have hap : a ≠ p := by grind [upd]
  walk_at "st"
  refine use__law_joined (l := l) (ss := ss) (bs := [" ", "\n"]) ⟨B0.up hp _, ⟨by walk_at "hp", nab, nal, hal, h8⟩, ⟨upd_same, npb, npl, by simp, by simp, ?_⟩⟩ fun one H1 x1 B1 J1 => ?_
  · intro s hs
    simp only [List.mem_cons, List.not_mem_nil, or_false] at hs
    rcases hs with rfl | rfl <;> exact ⟨by decide, by decide, by decide⟩
  have xA : ExtB b l H H1 := (ExtB.rfl'.up hp _).trans x1
  have ha1 := xA _ _ nab nal ha
  walk_at "st"
  intro p2 hp2
  obtain ⟨np2b, np2l⟩ := B1.fresh hp2
  have hap2 : a ≠ p2 := by grind [upd]
  walk_at "st"
  refine use__law_joined (l := l) (ss := ss) (bs := ["  ", "\n\n", " \n ", "\n", "   "]) ⟨B1.up hp2 _, ⟨by walk_at "hp", nab, nal, hal, h8⟩, ⟨upd_same, np2b, np2l, by simp, by simp, ?_⟩⟩ fun other H2 x2 B2 J2 => ?_
  · intro s hs
    simp only [List.mem_cons, List.not_mem_nil, or_false] at hs
    rcases hs with rfl | rfl | rfl | rfl | rfl <;> exact ⟨by decide, by decide, by decide⟩
  have xB : ExtB b l H H2 := xA.trans ((ExtB.rfl'.up hp2 _).trans x2)
  obtain ⟨o1, l1, g1, s1⟩ := joined_toks hss hal J1
  obtain ⟨o2, l2, g2, s2⟩ := joined_toks hss hal J2
  obtain ⟨zs, hzs⟩ : ∃ zs, zs = ss.map fun s => showT (kindOf s) (tl s) := ⟨_, rfl⟩
  have e1 : showL one = zs.map V.str := by rw [s1, hzs, List.map_map]; rfl
  have e2 : showL other = zs.map V.str := by rw [s2, hzs, List.map_map]; rfl
  have hok : ∀ z ∈ zs, PyData.strOk z = true := by
    rw [hzs]
    intro z hz
    obtain ⟨s, hs, rfl⟩ := List.mem_map.mp hz
    exact show_ok s (hss s hs)
  walk_at "st"
  refine .inl ?_
  walk_at "st"
  refine use__law_tokens (by omega) fun tq pf L H3 x3 htq hpf a3 => ?_
  rw [g1] at htq
  walk_at "st"
  intro D hD
  obtain ⟨T, hT⟩ : ∃ T, T = (toks (tl one) 0).1 := ⟨_, rfl⟩
  have hsm : ∀ t ∈ T, small (tl t.k) ∧ small t.w := by rw [hT]; exact toks_small _ 0
  have hTl : T.length ≤ 4000 := by
    have := toks_len (tl one) 0
    rw [← hT, ← len_tl] at this
    omega
  rw [← hT] at a3
  have hlv := a3.length
  have hD2 : H2 D = none := x3.none hD
  have B3 := B2.ext x3
  obtain ⟨nDb, nDl⟩ := B3.fresh hD
  refine lc_list (xs := L) (fun i H' => Ext H3 H' ∧ H' D = some (.lst ((T.take i).map fun t => V.str (showT t.k t.w))))
    ⟨Ext.new hD _, upd_same⟩ (fun i H' _ h => sq_l (h.1 _ _ hpf)) (fun i x H' hx h => ?_) (fun H' h => ?_)
  · obtain ⟨x4, hD4⟩ := h
    obtain ⟨t, ht, hv⟩ := a3.get hx
    obtain ⟨t1, t2⟩ := hsm t (List.mem_of_getElem? ht)
    have hiT : i < T.length := (List.getElem?_eq_some_iff.mp ht).1
    obtain ⟨e, rfl, he⟩ := hv.ext x4
    walk_at "st"
    refine c_sl2 he fun g hg' => ?_
    have hDg : D ≠ g := by grind [upd]
    walk_at "st"
    refine c_repr (.tup (sq_t upd_same) (.cons (.str _) (.cons (.str _) .nil))) (show_sh t1 t2) (by decide) (by decide) ?_
    refine ⟨_, by rw [upd_ne hDg]; exact hD4, by rw [List.length_map, List.length_take, sizeLine_eq]; omega, (x4.up hg' _).up0 hD _, ?_⟩
    rw [upd_same, List.take_add_one, ht, List.map_append]
    rfl
  · obtain ⟨x4, hD4⟩ := h
    rw [hlv, List.take_length, hT] at hD4
    have hD5 : H' D = some (.lst (zs.map V.str)) := by rw [hD4, ← e1]; rfl
    clear hD4
    have x34 : Ext H2 H' := x3.trans x4
    walk_at "st"
    refine use__law_all_told ⟨o1, by omega, g1⟩ fun r1 H5 x5 hr5 hr5' => ?_
    rw [e1] at hr5'
    walk_at "st"
    refine c_eqStrs zs hr5' (x5 _ _ hD5) hok ?_
    walk_at "st"
    refine use__law_all_told ⟨o2, by omega, g2⟩ fun r2 H6 x6 hr6 hr6' => ?_
    rw [e2] at hr6'
    walk_at "st"
    refine c_eqStrs zs hr6' (x6 _ _ (x5 _ _ hD5)) hok ?_
    have xC : Ext H2 H6 := (x34.trans x5).trans x6
    exact q H6 (xB.trans (ExtB.of xC)) (B2.ext xC)
theorem mul_sp (n : Int) : tl (Txt.mul " " n) = List.replicate n.toNat 32 := mul_one_list 32 n
theorem mul_nl (n : Int) : tl (Txt.mul "\n" n) = List.replicate n.toNat 10 := mul_one_list 10 n
theorem okS_app {x y : Str} (h1 : okS x) (h2 : okS y) : okS (x ++ y) := fun c hc => by
  rw [tl_app] at hc
  exact (List.mem_append.mp hc).elim (h1 c) (h2 c)
theorem okS_rep {z : Str} {n c : Nat} (e : tl z = List.replicate n c) (hc : c < 1114112) : okS z := fun x hx => by
  rw [e] at hx
  rw [(List.mem_replicate.mp hx).2]; exact hc
theorem len_app (x y : Str) : (x ++ y).length = x.length + y.length := by rw [len_tl, tl_app, List.length_append, ← len_tl, ← len_tl]
theorem cut_ok {z : Str} (h : okS z) : okS (cutS z none (some (4000 : Int))) ∧ (cutS z none (some (4000 : Int))).length ≤ 4000 := by
  have e : tl (cutS z none (some (4000 : Int))) = (tl z).take 4000 := tl_cut_to z 4000
  refine ⟨fun c hc => h c (by rw [e] at hc; exact List.mem_of_mem_take hc), ?_⟩
  rw [len_tl, e, List.length_take]
  omega
/-! ## _law_is_long_right -/
abbrev s__law_is_long_right : Stmt := top 48
abbrev N__law_is_long_right : List Str := ["bag", "signs", "text", "rest", "way"]
theorem sc__law_is_long_right : FnScope ["bag", "signs", "text", "rest", "way"] ["bag", "signs"] (defScope s__law_is_long_right) := ⟨rfl, rfl, rfl, by decide +kernel, rfl, by decide +kernel, by decide +kernel⟩
def sp__law_is_long_right (K : PySem.W.Frag) : Sp := fun vs H Q E => ∃ (b : Addr) (l : Addr) (a : Addr) (ss : List Str), vs = [.ref b, .ref a] ∧ (BagAt b l H ∧ (H a = some (.lst (ss.map V.str)) ∧ a ≠ b ∧ a ≠ l ∧ ss.length ≤ 30 ∧ ∀ s ∈ ss, s ∈ someL)) ∧ (∀ H', ExtB b l H H' → BagAt b l H' → Q (.bl true) H')
theorem use__law_is_long_right {K : PySem.W.Frag} {H : Hp} {Q : VK} {E : XK} {b : Addr} {l : Addr} {a : Addr} {ss : List Str} (pre : BagAt b l H ∧ (H a = some (.lst (ss.map V.str)) ∧ a ≠ b ∧ a ≠ l ∧ ss.length ≤ 30 ∧ ∀ s ∈ ss, s ∈ someL)) (post : ∀ H', ExtB b l H H' → BagAt b l H' → Q (.bl true) H') : sp__law_is_long_right K [.ref b, .ref a] H Q E := ⟨b, l, a, ss, rfl, pre, post⟩
theorem ok__law_is_long_right (R : RawFn K mg "_law_is_long_right" s__law_is_long_right) (d__law_draw : DefOk P w K mg base CX0 "_law_draw" s__law_draw 1 ["bag", "below"] (sp__law_draw K)) (d__law_is_text_right : DefOk P w K mg base CX0 "_law_is_text_right" s__law_is_text_right 10 ["bag", "text"] (sp__law_is_text_right K)) (d__law_joined : DefOk P w K mg base CX0 "_law_joined" s__law_joined 3 ["bag", "signs", "blanks"] (sp__law_joined K)) (n_len : mg "len" = none) : DefOk P w K mg base CX0 "_law_is_long_right" s__law_is_long_right 11 ["bag", "signs"] (sp__law_is_long_right K) := by
  refine R.ok sc__law_is_long_right (fun _ _ _ _ _ _ us hl => match us, hl with | [_, _], _ => rfl) (fun vs H Q E h => by obtain ⟨_, _, _, _, rfl, _⟩ := h; rfl) (fun f cdv A outer s H vs Q E hr h => ?_)
  have hu := units64 hr
  obtain ⟨b, l, a, ss, rfl, pre, q⟩ := h
  refine ⟨_, (pss_cons (ps_set (i := 2) sc__law_is_long_right.nd rfl (Or.inl rfl) (pe_callD (E := E0) d__law_joined (hr.mono (by decide)) pass0 (pa_cons (pv 0) (pa_cons (pv 1) (pa_cons (pe_lst (pa_cons pe_str (pa_cons pe_str pa_nil))) pa_nil)))))
      (pss_cons (ps_set (i := 3) sc__law_is_long_right.nd rfl (Or.inl rfl) (pe_op op_sub pe_int (pe_callB call_lenA (by rfl) n_len (by decide +kernel) (pa_cons (pv 2) pa_nil))))
      (pss_cons (ps_set (i := 4) sc__law_is_long_right.nd rfl (Or.inl rfl) (pe_callD (E := E0) d__law_draw (hr.mono (by decide)) pass0 (pa_cons (pv 0) (pa_cons pe_int pa_nil))))
      (pss_cons (ps_if (pt_cmpR (op_eqA hu) (pv 4) pe_int (nomark _))
      (pss_one (ps_set (i := 2) sc__law_is_long_right.nd rfl (Or.inl rfl) (pe_op op_addA (pv 2) (pe_op op_mulA pe_str (pv 3)))))
      (pss_one (ps_if (pt_cmpR (op_eqA hu) (pv 4) pe_int (nomark _))
      (pss_one (ps_set (i := 2) sc__law_is_long_right.nd rfl (Or.inl rfl) (pe_op op_addA (pe_op op_addA (pe_op op_mulA pe_str (pe_op op_sub (pv 3) pe_int)) pe_str) (pv 2))))
      (pss_one (ps_set (i := 2) sc__law_is_long_right.nd rfl (Or.inl rfl) (pe_op op_addA (pe_op op_addA (pv 2) (pe_op op_mulA pe_str (pe_callD (E := E0) d__law_draw (hr.mono (by decide)) pass0 (pa_cons (pv 0) (pa_cons pe_int pa_nil))))) (pe_op op_mulA pe_str (pv 3))))))))
      (pss_one (ps_ret (pe_callD (E := E0) d__law_is_text_right (hr.mono (by decide)) pass0 (pa_cons (pv 0) (pa_cons (pe_slice sl_A (pv 2) po_none (po_some pe_int)) pa_nil))))))))), ?_⟩
  obtain ⟨B0, ha, nab, nal, hal, hss⟩ := pre
  have h8 : ∀ s ∈ ss, s.length ≤ 8 := fun s hs => (show ∀ s ∈ someL, s.length ≤ 8 from by decide) s (hss s hs)
  walk_at "st"
  intro p hp
  obtain ⟨npb, npl⟩ := B0.fresh hp
  have hap : a ≠ p := by grind [upd]
  walk_at "st"
  refine use__law_joined (l := l) (ss := ss) (bs := [" ", "\n"]) ⟨B0.up hp _, ⟨by walk_at "hp", nab, nal, hal, h8⟩, ⟨upd_same, npb, npl, by simp, by simp, ?_⟩⟩ fun one H1 x1 B1 J1 => ?_
  · intro s hs
    simp only [List.mem_cons, List.not_mem_nil, or_false] at hs
    rcases hs with rfl | rfl <;> exact ⟨by decide, by decide, by decide⟩
  have xA : ExtB b l H H1 := (ExtB.rfl'.up hp _).trans x1
  obtain ⟨o1, l1, _, _⟩ := joined_toks hss hal J1
  walk_at "st"
  refine use__law_draw (l := l) (n := 3) ⟨B1, by decide, by decide⟩ fun v H2 x2 B2 hv => ?_
  have xB := xA.trans x2
  obtain ⟨r, hr⟩ : ∃ r : Int, r = 4000 - (one.length : Int) := ⟨_, rfl⟩
  rw [← hr]
  have s1 : okS (Txt.mul " " r) := okS_rep (mul_sp r) (by decide)
  have s1l : (Txt.mul " " r).length ≤ 4000 := by rw [len_tl, mul_sp, List.length_replicate]; omega
  have s2 : okS (Txt.mul " " (r - 1)) := okS_rep (mul_sp (r - 1)) (by decide)
  have s2l : (Txt.mul " " (r - 1)).length ≤ 4000 := by rw [len_tl, mul_sp, List.length_replicate]; omega
  have snl : okS "\n" := okS_small (l := [10]) (by decide) rfl
  have snll : ("\n" : Str).length = 1 := rfl
  walk_at "st"
  refine w_if (fun h0 => ?_) (fun h0 => ?_)
  · have k1 := len_app one (Txt.mul " " r)
    walk_at "st"
    obtain ⟨c1, c2⟩ := cut_ok (okS_app o1 s1)
    refine use__law_is_text_right (l := l) ⟨B2, c1, c2⟩ fun H5 x5 B5 => q H5 (xB.trans x5) B5
  · walk_at "st"
    refine w_if (fun h1 => ?_) (fun h1 => ?_)
    · have k1 := len_app (Txt.mul " " (r - 1)) "\n"
      have k2 := len_app (Txt.mul " " (r - 1) ++ "\n") one
      walk_at "st"
      obtain ⟨c1, c2⟩ := cut_ok (okS_app (okS_app s2 snl) o1)
      refine use__law_is_text_right (l := l) ⟨B2, c1, c2⟩ fun H5 x5 B5 => q H5 (xB.trans x5) B5
    · walk_at "st"
      refine use__law_draw (l := l) (n := 60) ⟨B2, by decide, by decide⟩ fun v2 H3 x3 B3 hv2 => ?_
      have s3 : okS (Txt.mul "\n" (v2 : Int)) := okS_rep (mul_nl v2) (by decide)
      have s3l : (Txt.mul "\n" (v2 : Int)).length ≤ 60 := by rw [len_tl, mul_nl, List.length_replicate]; omega
      have k1 := len_app one (Txt.mul "\n" (v2 : Int))
      have k2 := len_app (one ++ Txt.mul "\n" (v2 : Int)) (Txt.mul " " r)
      walk_at "st"
      obtain ⟨c1, c2⟩ := cut_ok (okS_app (okS_app o1 s3) s1)
      refine use__law_is_text_right (l := l) ⟨B3, c1, c2⟩ fun H5 x5 B5 => q H5 ((xB.trans x3).trans x5) B5
/-! ## law -/
abbrev s_law : Stmt := top 49
abbrev N_law : List Str := ["script", "bag", "signs", "text", "plain", "own"]
theorem sc_law : FnScope ["script", "bag", "signs", "text", "plain", "own"] ["script"] (defScope s_law) := ⟨rfl, rfl, rfl, by decide +kernel, rfl, by decide +kernel, by decide +kernel⟩
def sp_law (K : PySem.W.Frag) : Sp := fun vs H Q E => ∃ (a : Addr) (ns : List Int), vs = [.ref a] ∧ (SqL K H a (ns.map V.int) ∧ ns.length ≤ sizeLine) ∧ (∀ H', Q (.bl true) H')
theorem use_law {K : PySem.W.Frag} {H : Hp} {Q : VK} {E : XK} {a : Addr} {ns : List Int} (pre : SqL K H a (ns.map V.int) ∧ ns.length ≤ sizeLine) (post : ∀ H', Q (.bl true) H') : sp_law K [.ref a] H Q E := ⟨a, ns, rfl, pre, post⟩
theorem ok_law (R : RawFn K mg "law" s_law) (d__law_are_blanks_right : DefOk P w K mg base CX0 "_law_are_blanks_right" s__law_are_blanks_right 9 ["bag", "signs"] (sp__law_are_blanks_right K)) (d__law_bag : DefOk P w K mg base CX0 "_law_bag" s__law_bag 1 ["script"] (sp__law_bag K)) (d__law_draw : DefOk P w K mg base CX0 "_law_draw" s__law_draw 1 ["bag", "below"] (sp__law_draw K)) (d__law_is_long_right : DefOk P w K mg base CX0 "_law_is_long_right" s__law_is_long_right 11 ["bag", "signs"] (sp__law_is_long_right K)) (d__law_is_text_right : DefOk P w K mg base CX0 "_law_is_text_right" s__law_is_text_right 10 ["bag", "text"] (sp__law_is_text_right K)) (d__law_joined : DefOk P w K mg base CX0 "_law_joined" s__law_joined 3 ["bag", "signs", "blanks"] (sp__law_joined K)) (d__law_pick : DefOk P w K mg base CX0 "_law_pick" s__law_pick 2 ["bag", "some"] (sp__law_pick K)) (d__law_signs : DefOk P w K mg base CX0 "_law_signs" s__law_signs 3 ["bag"] (sp__law_signs K)) (d__law_spoilt : DefOk P w K mg base CX0 "_law_spoilt" s__law_spoilt 3 ["bag", "text"] (sp__law_spoilt K)) : DefOk P w K mg base CX0 "law" s_law 12 ["script"] (sp_law K) := by
  refine R.ok sc_law (fun _ _ _ _ _ _ us hl => match us, hl with | [_], _ => rfl) (fun vs H Q E h => by obtain ⟨_, _, rfl, _⟩ := h; rfl) (fun f cdv A outer s H vs Q E hr h => ?_)
  have hu := units64 hr
  obtain ⟨a, ns, rfl, pre, q⟩ := h
  refine ⟨_, (pss_cons (ps_set (i := 1) sc_law.nd rfl (Or.inl rfl) (pe_callD (E := E0) d__law_bag (hr.mono (by decide)) pass0 (pa_cons (pv 0) pa_nil)))
      (pss_cons (ps_set (i := 2) sc_law.nd rfl (Or.inl rfl) (pe_callD (E := E0) d__law_signs (hr.mono (by decide)) pass0 (pa_cons (pv 1) pa_nil)))
      (pss_cons (ps_set (i := 3) sc_law.nd rfl (Or.inl rfl) (pe_callD (E := E0) d__law_joined (hr.mono (by decide)) pass0 (pa_cons (pv 1) (pa_cons (pv 2) (pa_cons (pe_lst (pa_cons pe_str (pa_cons pe_str (pa_cons pe_str (pa_cons pe_str (pa_cons pe_str pa_nil)))))) pa_nil)))))
      (pss_cons (ps_set (i := 4) sc_law.nd rfl (Or.inl rfl) (pe_callD (E := E0) d__law_pick (hr.mono (by decide)) pass0 (pa_cons (pv 1) (pa_cons (pe_lst (pa_cons pe_str (pa_cons pe_str (pa_cons pe_str (pa_cons pe_str (pa_cons pe_str (pa_cons pe_str (pa_cons pe_str pa_nil)))))))) pa_nil))))
      (pss_cons (ps_for PassesOwn.never rfl (pi_tup (pe_tup (pa_cons (pv 3) (pa_cons (pv 4) (pa_cons (pe_callD (E := E0) d__law_spoilt (hr.mono (by decide)) pass0 (pa_cons (pv 1) (pa_cons (pv 3) pa_nil))) (pa_cons (pe_callD (E := E0) d__law_spoilt (hr.mono (by decide)) pass0 (pa_cons (pv 1) (pa_cons (pv 4) pa_nil))) pa_nil)))))) (pg_name (i := 5) sc_law.nd rfl (Or.inl rfl))
      (pss_one (ps_if (pt_not (pt_val (pe_callD (E := E0) d__law_is_text_right (hr.mono (by decide)) pass0 (pa_cons (pv 1) (pa_cons (pv 5) pa_nil)))))
      (pss_one (ps_ret pe_bl))
      pss_nil)))
      (pss_cons (ps_if (pt_not (pt_val (pe_callD (E := E0) d__law_are_blanks_right (hr.mono (by decide)) pass0 (pa_cons (pv 1) (pa_cons (pe_slice sl_A (pv 2) po_none (po_some pe_int)) pa_nil)))))
      (pss_one (ps_ret pe_bl))
      pss_nil)
      (pss_cons (ps_if (PW.pt (pw_and (pt_cmpR (op_eqA hu) (pe_callD (E := E0) d__law_draw (hr.mono (by decide)) pass0 (pa_cons (pv 1) (pa_cons pe_int pa_nil))) pe_int (nomark _)) (pw_and1 (pt_not (pt_val (pe_callD (E := E0) d__law_is_long_right (hr.mono (by decide)) pass0 (pa_cons (pv 1) (pa_cons (pv 2) pa_nil))))))))
      (pss_one (ps_ret pe_bl))
      pss_nil)
      (pss_one (ps_ret (pe_callD (E := E0) d__law_is_text_right (hr.mono (by decide)) pass0 (pa_cons (pv 1) (pa_cons (pv 3) pa_nil)))))))))))), ?_⟩
  walk_at "st"
  refine use__law_bag pre fun b l H1 x1 hb hl B1 => ?_
  walk_at "st"
  refine use__law_signs (l := l) B1 fun sg ss H2 x2 B2 hsg hsg2 hsl hss => ?_
  obtain ⟨ngb, ngl⟩ := B1.fresh hsg
  have h8 : ∀ s ∈ ss, s.length ≤ 8 := fun s hs => (show ∀ s ∈ someL, s.length ≤ 8 from by decide) s (hss s hs)
  walk_at "st"
  intro p hp
  obtain ⟨npb, npl⟩ := B2.fresh hp
  have hap : sg ≠ p := by grind [upd]
  walk_at "st"
  refine use__law_joined (l := l) (ss := ss) (bs := [" ", " ", "\n", "\n\n", "  "]) ⟨B2.up hp _, ⟨by walk_at "hp", ngb, ngl, hsl, h8⟩, ⟨upd_same, npb, npl, by simp, by simp, ?_⟩⟩ fun text H3 x3 B3 J3 => ?_
  · intro s hs
    simp only [List.mem_cons, List.not_mem_nil, or_false] at hs
    rcases hs with rfl | rfl | rfl | rfl | rfl <;> exact ⟨by decide, by decide, by decide⟩
  obtain ⟨o3, l3, _, _⟩ := joined_toks hss hsl J3
  have hsg3 : H3 sg = some (.lst (ss.map V.str)) := x3 _ _ ngb ngl (by rw [upd_ne hap]; exact hsg2)
  walk_at "st"
  intro p4 hp4
  obtain ⟨n4b, n4l⟩ := B3.fresh hp4
  have hap4 : sg ≠ p4 := by grind [upd]
  walk_at "st"
  refine use__law_pick (l := l) ⟨B3.up hp4 _, upd_same, n4b, n4l, by simp, by simp⟩ fun x H4 hx x4 B4 => ?_
  obtain ⟨plain, rfl, o4, l4⟩ : ∃ z : Str, x = .str z ∧ (∀ c ∈ tl z, c < 1114112) ∧ z.length ≤ 400 := by
    simp only [List.mem_cons, List.not_mem_nil, or_false] at hx
    rcases hx with rfl | rfl | rfl | rfl | rfl | rfl | rfl <;> exact ⟨_, rfl, by decide, by decide⟩
  have hsg4 : H4 sg = some (.lst (ss.map V.str)) := x4 _ _ ngb ngl (by rw [upd_ne hap4]; exact hsg3)
  walk_at "st"
  refine use__law_spoilt (l := l) ⟨B4, o3, by omega⟩ fun t5 H5 x5 B5 o5 l5 => ?_
  have hsg5 := x5 _ _ ngb ngl hsg4
  walk_at "st"
  refine use__law_spoilt (l := l) ⟨B5, o4, by omega⟩ fun t6 H6 x6 B6 o6 l6 => ?_
  have hsg6 := x6 _ _ ngb ngl hsg5
  walk_at "st"
  intro tp htp
  obtain ⟨ntb, ntl⟩ := B6.fresh htp
  have hstp : sg ≠ tp := by grind [upd]
  obtain ⟨xs, hxs⟩ : ∃ xs, xs = [V.str text, V.str plain, V.str t5, V.str t6] := ⟨_, rfl⟩
  have hX : ∀ x ∈ xs, ∃ z : Str, x = .str z ∧ okS z ∧ z.length ≤ 4000 := by
    rw [hxs]
    intro x hx
    simp only [List.mem_cons, List.not_mem_nil, or_false] at hx
    rcases hx with rfl | rfl | rfl | rfl
    · exact ⟨_, rfl, o3, by omega⟩
    · exact ⟨_, rfl, o4, by omega⟩
    · exact ⟨_, rfl, o5, l5⟩
    · exact ⟨_, rfl, o6, l6⟩
  rw [← hxs]
  clear hxs
  have B7 := B6.up htp (.tup xs)
  have ht7 : upd H6 tp (.tup xs) tp = some (.tup xs) := upd_same
  have hsg7 : upd H6 tp (.tup xs) sg = some (.lst (ss.map V.str)) := by rw [upd_ne hstp]; exact hsg6
  obtain ⟨H7, hH7⟩ : ∃ H7, H7 = upd H6 tp (.tup xs) := ⟨_, rfl⟩
  rw [← hH7] at B7 ht7 hsg7 ⊢
  walk_at "st"
  refine f_tup (xs := xs) (fun j σ H' => ∃ o, σ = [some (.ref a), some (.ref b), some (.ref sg), some (.str text), some (.str plain), o] ∧ BagAt b l H' ∧ H' sg = some (.lst (ss.map V.str)) ∧ H' tp = some (.tup xs))
    ⟨_, rfl, B7, hsg7, ht7⟩ (fun j σ H' h => by obtain ⟨_, _, _, _, h⟩ := h; exact sq_t h) ?_ ?_
  · rintro σ H8 ⟨o, rfl, B8, hsg8, _⟩
    walk_at "st"
    rw [show (12 : Int) = ((12 : Nat) : Int) from rfl, cutV_to, ← List.map_take]
    intro c hc
    obtain ⟨ncb, ncl⟩ := B8.fresh hc
    have hsc : sg ≠ c := by grind [upd]
    walk_at "st"
    refine use__law_are_blanks_right (l := l) (ss := ss.take 12) ⟨B8.up hc _, upd_same, ncb, ncl, by rw [List.length_take]; omega, fun s hs => hss s (List.mem_of_mem_take hs)⟩ fun H9 x9 B9 => ?_
    have hsg9 : H9 sg = some (.lst (ss.map V.str)) := x9 _ _ ngb ngl (by rw [upd_ne hsc]; exact hsg8)
    walk_at "st"
    refine use__law_draw (l := l) (n := 6) ⟨B9, by decide, by decide⟩ fun v H10 x10 B10 hv => ?_
    have hsg10 := x10 _ _ ngb ngl hsg9
    walk_at "st"
    refine w_if (fun h0 => ?_) (fun h0 => ?_)
    · walk_at "st"
      refine use__law_is_long_right (l := l) (ss := ss) ⟨B10, hsg10, ngb, ngl, hsl, hss⟩ fun H11 x11 B11 => ?_
      walk_at "st"
      exact use__law_is_text_right (l := l) ⟨B11, o3, by omega⟩ fun H12 _ _ => q H12
    · walk_at "st"
      exact use__law_is_text_right (l := l) ⟨B10, o3, by omega⟩ fun H12 _ _ => q H12
  · rintro nx' fin j x σ H8 hx ⟨o, rfl, B8, hsg8, ht8⟩
    obtain ⟨z, rfl, hz1, hz2⟩ := hX x (List.mem_of_getElem? hx)
    walk_at "st"
    refine use__law_is_text_right (l := l) ⟨B8, hz1, hz2⟩ fun H9 x9 B9 => ?_
    walk_at "st"
    exact ⟨_, rfl, B9, x9 _ _ ngb ngl hsg8, x9 _ _ ntb ntl ht8⟩
end
end K04

set_option Elab.async false
set_option linter.all false
set_option maxRecDepth 100000
set_option maxHeartbeats 2000000
set_option autoImplicit false
namespace K04
open PySem PySem.Spec PyProof.Rows L2 TN
open L2H (cxH RoomH)
/-! ## all defs together -/
theorem all_ok {P : Program} {w : World} {K : PySem.W.Frag} {mg : Str → Option Value} {a_BadCode : Addr} {a_BadLog : Addr} {a_BadProgram : Addr} {a_BadSetting : Addr} {a_BadText : Addr} {a_NothingToUndo : Addr} {a_Refused : Addr} {a_TooMany : Addr} {a_TrustError : Addr} {a_Unfit : Addr} {a_WORDS : Addr}
    (R_is_text : RawFn K mg "is_text" s_is_text)
    (R_run_of : RawFn K mg "run_of" s_run_of)
    (R_token_at : RawFn K mg "token_at" s_token_at)
    (R_tokens_till : RawFn K mg "tokens_till" s_tokens_till)
    (R_tokens_of : RawFn K mg "tokens_of" s_tokens_of)
    (R_lines_number : RawFn K mg "lines_number" s_lines_number)
    (R_line_of : RawFn K mg "line_of" s_line_of)
    (R_line_and_sign : RawFn K mg "line_and_sign" s_line_and_sign)
    (R_place_of : RawFn K mg "place_of" s_place_of)
    (R_tokens_on : RawFn K mg "tokens_on" s_tokens_on)
    (R__law_bag : RawFn K mg "_law_bag" s__law_bag)
    (R__law_draw : RawFn K mg "_law_draw" s__law_draw)
    (R__law_pick : RawFn K mg "_law_pick" s__law_pick)
    (R__law_how : RawFn K mg "_law_how" s__law_how)
    (R__law_call : RawFn K mg "_law_call" s__law_call)
    (R__law_told : RawFn K mg "_law_told" s__law_told)
    (R__law_is : RawFn K mg "_law_is" s__law_is)
    (R__law_words : RawFn K mg "_law_words" s__law_words)
    (R__law_run_end : RawFn K mg "_law_run_end" s__law_run_end)
    (R__law_tokens : RawFn K mg "_law_tokens" s__law_tokens)
    (R__law_starts : RawFn K mg "_law_starts" s__law_starts)
    (R__law_line_at : RawFn K mg "_law_line_at" s__law_line_at)
    (R__law_signs : RawFn K mg "_law_signs" s__law_signs)
    (R__law_joined : RawFn K mg "_law_joined" s__law_joined)
    (R__law_spoilt : RawFn K mg "_law_spoilt" s__law_spoilt)
    (R__law_are_spots_right : RawFn K mg "_law_are_spots_right" s__law_are_spots_right)
    (R__law_are_tokens_right : RawFn K mg "_law_are_tokens_right" s__law_are_tokens_right)
    (R__law_is_text_right : RawFn K mg "_law_is_text_right" s__law_is_text_right)
    (R__law_all_told : RawFn K mg "_law_all_told" s__law_all_told)
    (R__law_are_blanks_right : RawFn K mg "_law_are_blanks_right" s__law_are_blanks_right)
    (R__law_is_long_right : RawFn K mg "_law_is_long_right" s__law_is_long_right)
    (R_law : RawFn K mg "law" s_law)
    (c_BadCode : GlobV mg "BadCode" (.ref a_BadCode))
    (c_BadLog : GlobV mg "BadLog" (.ref a_BadLog))
    (c_BadProgram : GlobV mg "BadProgram" (.ref a_BadProgram))
    (c_BadSetting : GlobV mg "BadSetting" (.ref a_BadSetting))
    (c_BadText : GlobV mg "BadText" (.ref a_BadText))
    (c_FIGURES : GlobV mg "FIGURES" (.str "0123456789"))
    (c_LETTERS : GlobV mg "LETTERS" (.str "abcdefghijklmnopqrstuvwxyz"))
    (c_MAX_SIGNS : GlobV mg "MAX_SIGNS" (.int 4000))
    (c_NothingToUndo : GlobV mg "NothingToUndo" (.ref a_NothingToUndo))
    (c_Refused : GlobV mg "Refused" (.ref a_Refused))
    (c_TooMany : GlobV mg "TooMany" (.ref a_TooMany))
    (c_TrustError : GlobV mg "TrustError" (.ref a_TrustError))
    (c_Unfit : GlobV mg "Unfit" (.ref a_Unfit))
    (c_WORDS : GlobV mg "WORDS" (.ref a_WORDS))
    (k_BadText : PySem.W.kitOne K (.ref a_BadText) (.ref a_BadText) = some true)
    (k_TooMany : PySem.W.kitOne K (.ref a_BadText) (.ref a_TooMany) = some false)
    (k_Unfit : PySem.W.kitOne K (.ref a_BadText) (.ref a_Unfit) = some false)
    (k_any : PySem.W.kitAny K (.ref a_BadText) ([a_BadProgram, a_BadCode, a_BadSetting, a_Refused, a_BadLog, a_NothingToUndo].map Value.ref) = some false)
    (m_BadText : PySem.W.exmOne K (.ref a_BadText) (.ref a_TrustError) = some true)
    (n_abs : mg "abs" = none)
    (n_int : mg "int" = none)
    (n_isinstance : mg "isinstance" = none)
    (n_len : mg "len" = none)
    (n_list : mg "list" = none)
    (n_max : mg "max" = none)
    (n_range : mg "range" = none)
    (n_repr : mg "repr" = none)
    (n_reversed : mg "reversed" = none)
    (n_str : mg "str" = none)
    (n_sum : mg "sum" = none)
    (n_tuple : mg "tuple" = none)
    (names_TrustError : mg "TrustError" = some (.ref a_TrustError))
    (no_BadText_limit : PySem.W.findIn K (.ref a_BadText) "limit" = some none)
    (no_BadText_place : PySem.W.findIn K (.ref a_BadText) "place" = some none)
    (r_BadText : RaiseC P K mg "BadText" "place" a_BadText)
    (t_WORDS : ∀ H, SqT K H a_WORDS [.str "choose", .str "draw", .str "else", .str "for", .str "from", .str "function", .str "hands", .str "if", .str "input", .str "let", .str "modulo", .str "nought", .str "open", .str "row", .str "tell", .str "to"])
    (x_BadText : ExcCls K a_BadText)
    (base : Heap) : DefOk P w K mg base CX0 "law" s_law 12 ["script"] (sp_law K) := by
  have d_is_text := ok_is_text (P := P) (w := w) (base := base) R_is_text c_MAX_SIGNS n_isinstance n_len n_str
  have d_run_of := ok_run_of (P := P) (w := w) (base := base) R_run_of n_len
  have d_token_at := ok_token_at (P := P) (w := w) (base := base) R_token_at c_FIGURES c_LETTERS c_WORDS d_run_of n_len t_WORDS
  have d_tokens_till := ok_tokens_till (P := P) (w := w) (base := base) R_tokens_till d_token_at n_len
  have d_tokens_of := ok_tokens_of (P := P) (w := w) (base := base) R_tokens_of d_is_text d_tokens_till n_tuple r_BadText
  have d_lines_number := ok_lines_number (P := P) (w := w) (base := base) R_lines_number 
  have d_line_of := ok_line_of (P := P) (w := w) (base := base) R_line_of 
  have d_line_and_sign := ok_line_and_sign (P := P) (w := w) (base := base) R_line_and_sign 
  have d_place_of := ok_place_of (P := P) (w := w) (base := base) R_place_of n_len n_sum
  have d_tokens_on := ok_tokens_on (P := P) (w := w) (base := base) R_tokens_on d_line_and_sign d_tokens_of n_tuple
  have d__law_bag := ok__law_bag (P := P) (w := w) (base := base) R__law_bag n_abs n_int n_len n_list n_reversed
  have d__law_draw := ok__law_draw (P := P) (w := w) (base := base) R__law_draw 
  have d__law_pick := ok__law_pick (P := P) (w := w) (base := base) R__law_pick d__law_draw n_len
  have d__law_how := ok__law_how (P := P) (w := w) (base := base) R__law_how c_BadCode c_BadLog c_BadProgram c_BadSetting c_BadText c_NothingToUndo c_Refused c_TooMany c_Unfit n_isinstance no_BadText_limit no_BadText_place x_BadText k_any k_Unfit k_TooMany k_BadText
  have d__law_call := ok__law_call (P := P) (w := w) (base := base) R__law_call d_line_and_sign d_line_of d_lines_number d_place_of d_tokens_on
  have d__law_told := ok__law_told (P := P) (w := w) (base := base) R__law_told c_TrustError d__law_call d__law_how names_TrustError m_BadText
  have d__law_is := ok__law_is (P := P) (w := w) (base := base) R__law_is d__law_told n_repr
  have d__law_words := ok__law_words (P := P) (w := w) (base := base) R__law_words 
  have d__law_run_end := ok__law_run_end (P := P) (w := w) (base := base) R__law_run_end n_len
  have d__law_tokens := ok__law_tokens (P := P) (w := w) (base := base) R__law_tokens d__law_run_end d__law_words n_len
  have d__law_starts := ok__law_starts (P := P) (w := w) (base := base) R__law_starts n_len
  have d__law_line_at := ok__law_line_at (P := P) (w := w) (base := base) R__law_line_at n_len
  have d__law_signs := ok__law_signs (P := P) (w := w) (base := base) R__law_signs d__law_draw d__law_pick n_range
  have d__law_joined := ok__law_joined (P := P) (w := w) (base := base) R__law_joined d__law_pick
  have d__law_spoilt := ok__law_spoilt (P := P) (w := w) (base := base) R__law_spoilt d__law_draw d__law_pick n_len
  have d__law_are_spots_right := ok__law_are_spots_right (P := P) (w := w) (base := base) R__law_are_spots_right d__law_draw d__law_is d__law_line_at d__law_starts n_len n_max n_range
  have d__law_are_tokens_right := ok__law_are_tokens_right (P := P) (w := w) (base := base) R__law_are_tokens_right d__law_is d__law_starts d__law_tokens n_tuple
  have d__law_is_text_right := ok__law_is_text_right (P := P) (w := w) (base := base) R__law_is_text_right d__law_are_spots_right d__law_are_tokens_right d__law_draw d__law_starts n_len n_list n_range
  have d__law_all_told := ok__law_all_told (P := P) (w := w) (base := base) R__law_all_told d__law_starts d__law_told n_isinstance n_len n_range n_repr n_tuple
  have d__law_are_blanks_right := ok__law_are_blanks_right (P := P) (w := w) (base := base) R__law_are_blanks_right d__law_all_told d__law_joined d__law_tokens n_repr
  have d__law_is_long_right := ok__law_is_long_right (P := P) (w := w) (base := base) R__law_is_long_right d__law_draw d__law_is_text_right d__law_joined n_len
  have d_law := ok_law (P := P) (w := w) (base := base) R_law d__law_are_blanks_right d__law_bag d__law_draw d__law_is_long_right d__law_is_text_right d__law_joined d__law_pick d__law_signs d__law_spoilt
  exact d_law
abbrev m_BadText : Stmt := inClass (top 4) 0
theorem fin {P : Program} {w : World} {K : PySem.W.Frag} {h : Heap} {mg : Str → Option Value} {fa : Addr} (X : K.In h) (G : h.Ns mainGlobals mg) (hfa : mg "law" = some (.ref fa))
    {f_is_text : Addr} {oc_is_text kV_is_text dc_is_text pm_is_text cd_is_text ct_is_text : Value} {od_is_text an_is_text : Option Addr} {sl_is_text : Array (Option Value)}
    {f_run_of : Addr} {oc_run_of kV_run_of dc_run_of pm_run_of cd_run_of ct_run_of : Value} {od_run_of an_run_of : Option Addr} {sl_run_of : Array (Option Value)}
    {f_token_at : Addr} {oc_token_at kV_token_at dc_token_at pm_token_at cd_token_at ct_token_at : Value} {od_token_at an_token_at : Option Addr} {sl_token_at : Array (Option Value)}
    {f_tokens_till : Addr} {oc_tokens_till kV_tokens_till dc_tokens_till pm_tokens_till cd_tokens_till ct_tokens_till : Value} {od_tokens_till an_tokens_till : Option Addr} {sl_tokens_till : Array (Option Value)}
    {f_tokens_of : Addr} {oc_tokens_of kV_tokens_of dc_tokens_of pm_tokens_of cd_tokens_of ct_tokens_of : Value} {od_tokens_of an_tokens_of : Option Addr} {sl_tokens_of : Array (Option Value)}
    {f_lines_number : Addr} {oc_lines_number kV_lines_number dc_lines_number pm_lines_number cd_lines_number ct_lines_number : Value} {od_lines_number an_lines_number : Option Addr} {sl_lines_number : Array (Option Value)}
    {f_line_of : Addr} {oc_line_of kV_line_of dc_line_of pm_line_of cd_line_of ct_line_of : Value} {od_line_of an_line_of : Option Addr} {sl_line_of : Array (Option Value)}
    {f_line_and_sign : Addr} {oc_line_and_sign kV_line_and_sign dc_line_and_sign pm_line_and_sign cd_line_and_sign ct_line_and_sign : Value} {od_line_and_sign an_line_and_sign : Option Addr} {sl_line_and_sign : Array (Option Value)}
    {f_place_of : Addr} {oc_place_of kV_place_of dc_place_of pm_place_of cd_place_of ct_place_of : Value} {od_place_of an_place_of : Option Addr} {sl_place_of : Array (Option Value)}
    {f_tokens_on : Addr} {oc_tokens_on kV_tokens_on dc_tokens_on pm_tokens_on cd_tokens_on ct_tokens_on : Value} {od_tokens_on an_tokens_on : Option Addr} {sl_tokens_on : Array (Option Value)}
    {f__law_bag : Addr} {oc__law_bag kV__law_bag dc__law_bag pm__law_bag cd__law_bag ct__law_bag : Value} {od__law_bag an__law_bag : Option Addr} {sl__law_bag : Array (Option Value)}
    {f__law_draw : Addr} {oc__law_draw kV__law_draw dc__law_draw pm__law_draw cd__law_draw ct__law_draw : Value} {od__law_draw an__law_draw : Option Addr} {sl__law_draw : Array (Option Value)}
    {f__law_pick : Addr} {oc__law_pick kV__law_pick dc__law_pick pm__law_pick cd__law_pick ct__law_pick : Value} {od__law_pick an__law_pick : Option Addr} {sl__law_pick : Array (Option Value)}
    {f__law_how : Addr} {oc__law_how kV__law_how dc__law_how pm__law_how cd__law_how ct__law_how : Value} {od__law_how an__law_how : Option Addr} {sl__law_how : Array (Option Value)}
    {f__law_call : Addr} {oc__law_call kV__law_call dc__law_call pm__law_call cd__law_call ct__law_call : Value} {od__law_call an__law_call : Option Addr} {sl__law_call : Array (Option Value)}
    {f__law_told : Addr} {oc__law_told kV__law_told dc__law_told pm__law_told cd__law_told ct__law_told : Value} {od__law_told an__law_told : Option Addr} {sl__law_told : Array (Option Value)}
    {f__law_is : Addr} {oc__law_is kV__law_is dc__law_is pm__law_is cd__law_is ct__law_is : Value} {od__law_is an__law_is : Option Addr} {sl__law_is : Array (Option Value)}
    {f__law_words : Addr} {oc__law_words kV__law_words dc__law_words pm__law_words cd__law_words ct__law_words : Value} {od__law_words an__law_words : Option Addr} {sl__law_words : Array (Option Value)}
    {f__law_run_end : Addr} {oc__law_run_end kV__law_run_end dc__law_run_end pm__law_run_end cd__law_run_end ct__law_run_end : Value} {od__law_run_end an__law_run_end : Option Addr} {sl__law_run_end : Array (Option Value)}
    {f__law_tokens : Addr} {oc__law_tokens kV__law_tokens dc__law_tokens pm__law_tokens cd__law_tokens ct__law_tokens : Value} {od__law_tokens an__law_tokens : Option Addr} {sl__law_tokens : Array (Option Value)}
    {f__law_starts : Addr} {oc__law_starts kV__law_starts dc__law_starts pm__law_starts cd__law_starts ct__law_starts : Value} {od__law_starts an__law_starts : Option Addr} {sl__law_starts : Array (Option Value)}
    {f__law_line_at : Addr} {oc__law_line_at kV__law_line_at dc__law_line_at pm__law_line_at cd__law_line_at ct__law_line_at : Value} {od__law_line_at an__law_line_at : Option Addr} {sl__law_line_at : Array (Option Value)}
    {f__law_signs : Addr} {oc__law_signs kV__law_signs dc__law_signs pm__law_signs cd__law_signs ct__law_signs : Value} {od__law_signs an__law_signs : Option Addr} {sl__law_signs : Array (Option Value)}
    {f__law_joined : Addr} {oc__law_joined kV__law_joined dc__law_joined pm__law_joined cd__law_joined ct__law_joined : Value} {od__law_joined an__law_joined : Option Addr} {sl__law_joined : Array (Option Value)}
    {f__law_spoilt : Addr} {oc__law_spoilt kV__law_spoilt dc__law_spoilt pm__law_spoilt cd__law_spoilt ct__law_spoilt : Value} {od__law_spoilt an__law_spoilt : Option Addr} {sl__law_spoilt : Array (Option Value)}
    {f__law_are_spots_right : Addr} {oc__law_are_spots_right kV__law_are_spots_right dc__law_are_spots_right pm__law_are_spots_right cd__law_are_spots_right ct__law_are_spots_right : Value} {od__law_are_spots_right an__law_are_spots_right : Option Addr} {sl__law_are_spots_right : Array (Option Value)}
    {f__law_are_tokens_right : Addr} {oc__law_are_tokens_right kV__law_are_tokens_right dc__law_are_tokens_right pm__law_are_tokens_right cd__law_are_tokens_right ct__law_are_tokens_right : Value} {od__law_are_tokens_right an__law_are_tokens_right : Option Addr} {sl__law_are_tokens_right : Array (Option Value)}
    {f__law_is_text_right : Addr} {oc__law_is_text_right kV__law_is_text_right dc__law_is_text_right pm__law_is_text_right cd__law_is_text_right ct__law_is_text_right : Value} {od__law_is_text_right an__law_is_text_right : Option Addr} {sl__law_is_text_right : Array (Option Value)}
    {f__law_all_told : Addr} {oc__law_all_told kV__law_all_told dc__law_all_told pm__law_all_told cd__law_all_told ct__law_all_told : Value} {od__law_all_told an__law_all_told : Option Addr} {sl__law_all_told : Array (Option Value)}
    {f__law_are_blanks_right : Addr} {oc__law_are_blanks_right kV__law_are_blanks_right dc__law_are_blanks_right pm__law_are_blanks_right cd__law_are_blanks_right ct__law_are_blanks_right : Value} {od__law_are_blanks_right an__law_are_blanks_right : Option Addr} {sl__law_are_blanks_right : Array (Option Value)}
    {f__law_is_long_right : Addr} {oc__law_is_long_right kV__law_is_long_right dc__law_is_long_right pm__law_is_long_right cd__law_is_long_right ct__law_is_long_right : Value} {od__law_is_long_right an__law_is_long_right : Option Addr} {sl__law_is_long_right : Array (Option Value)}
    {f_law : Addr} {oc_law kV_law dc_law pm_law cd_law ct_law : Value} {od_law an_law : Option Addr} {sl_law : Array (Option Value)}
    {a_BadCode : Addr}
    {a_BadLog : Addr}
    {a_BadProgram : Addr}
    {a_BadSetting : Addr}
    {a_BadText : Addr}
    {a_NothingToUndo : Addr}
    {a_Refused : Addr}
    {a_TooMany : Addr}
    {a_TrustError : Addr}
    {a_Unfit : Addr}
    {a_WORDS : Addr}
    {tk_FIGURES : PySem.Tok}
    {tk_LETTERS : PySem.Tok}
    {tk_MAX_SIGNS : PySem.Tok}
    {nm_BadText qn_BadText : Str} {N_BadText : Addr} {bs_BadText bm_BadText : List Value} {sn_BadText : List Str} {sub_BadText : List Value} {ab_BadText : Bool} {col_BadText : Option Bool} {dd_BadText : Option Addr} {m0_BadText m1_BadText m2_BadText m3_BadText m5_BadText : Option Value}
    {fI_BadText cc_BadText cda_BadText : Addr} {dVI_BadText kVI_BadText dcI_BadText pmI_BadText ctI_BadText ocI_BadText : Value} {anI_BadText odI_BadText : Option Addr} {slI_BadText : Array (Option Value)} {ccl_BadText : Value} {cdd_BadText : Option Addr} {vs_BadText : Array Value} {ccs_BadText : Array (Option Value)} {file_BadText : Str} {tf_BadText : PySem.Tok} {cl_BadText : Value} {cld_BadText : Option Addr} {csl_BadText : Array (Option Value)}
    {od_WORDS : Option Addr} {its_WORDS : Array Value} {n_WORDS : Nat} {sl_WORDS : Array (Option Value)}
    (g_is_text : PySem.W.nsIn K mainGlobals "is_text" = some (some (.ref f_is_text)))
    (g_run_of : PySem.W.nsIn K mainGlobals "run_of" = some (some (.ref f_run_of)))
    (g_token_at : PySem.W.nsIn K mainGlobals "token_at" = some (some (.ref f_token_at)))
    (g_tokens_till : PySem.W.nsIn K mainGlobals "tokens_till" = some (some (.ref f_tokens_till)))
    (g_tokens_of : PySem.W.nsIn K mainGlobals "tokens_of" = some (some (.ref f_tokens_of)))
    (g_lines_number : PySem.W.nsIn K mainGlobals "lines_number" = some (some (.ref f_lines_number)))
    (g_line_of : PySem.W.nsIn K mainGlobals "line_of" = some (some (.ref f_line_of)))
    (g_line_and_sign : PySem.W.nsIn K mainGlobals "line_and_sign" = some (some (.ref f_line_and_sign)))
    (g_place_of : PySem.W.nsIn K mainGlobals "place_of" = some (some (.ref f_place_of)))
    (g_tokens_on : PySem.W.nsIn K mainGlobals "tokens_on" = some (some (.ref f_tokens_on)))
    (g__law_bag : PySem.W.nsIn K mainGlobals "_law_bag" = some (some (.ref f__law_bag)))
    (g__law_draw : PySem.W.nsIn K mainGlobals "_law_draw" = some (some (.ref f__law_draw)))
    (g__law_pick : PySem.W.nsIn K mainGlobals "_law_pick" = some (some (.ref f__law_pick)))
    (g__law_how : PySem.W.nsIn K mainGlobals "_law_how" = some (some (.ref f__law_how)))
    (g__law_call : PySem.W.nsIn K mainGlobals "_law_call" = some (some (.ref f__law_call)))
    (g__law_told : PySem.W.nsIn K mainGlobals "_law_told" = some (some (.ref f__law_told)))
    (g__law_is : PySem.W.nsIn K mainGlobals "_law_is" = some (some (.ref f__law_is)))
    (g__law_words : PySem.W.nsIn K mainGlobals "_law_words" = some (some (.ref f__law_words)))
    (g__law_run_end : PySem.W.nsIn K mainGlobals "_law_run_end" = some (some (.ref f__law_run_end)))
    (g__law_tokens : PySem.W.nsIn K mainGlobals "_law_tokens" = some (some (.ref f__law_tokens)))
    (g__law_starts : PySem.W.nsIn K mainGlobals "_law_starts" = some (some (.ref f__law_starts)))
    (g__law_line_at : PySem.W.nsIn K mainGlobals "_law_line_at" = some (some (.ref f__law_line_at)))
    (g__law_signs : PySem.W.nsIn K mainGlobals "_law_signs" = some (some (.ref f__law_signs)))
    (g__law_joined : PySem.W.nsIn K mainGlobals "_law_joined" = some (some (.ref f__law_joined)))
    (g__law_spoilt : PySem.W.nsIn K mainGlobals "_law_spoilt" = some (some (.ref f__law_spoilt)))
    (g__law_are_spots_right : PySem.W.nsIn K mainGlobals "_law_are_spots_right" = some (some (.ref f__law_are_spots_right)))
    (g__law_are_tokens_right : PySem.W.nsIn K mainGlobals "_law_are_tokens_right" = some (some (.ref f__law_are_tokens_right)))
    (g__law_is_text_right : PySem.W.nsIn K mainGlobals "_law_is_text_right" = some (some (.ref f__law_is_text_right)))
    (g__law_all_told : PySem.W.nsIn K mainGlobals "_law_all_told" = some (some (.ref f__law_all_told)))
    (g__law_are_blanks_right : PySem.W.nsIn K mainGlobals "_law_are_blanks_right" = some (some (.ref f__law_are_blanks_right)))
    (g__law_is_long_right : PySem.W.nsIn K mainGlobals "_law_is_long_right" = some (some (.ref f__law_is_long_right)))
    (g_law : PySem.W.nsIn K mainGlobals "law" = some (some (.ref f_law)))
    (ga_BadCode : PySem.W.nsIn K mainGlobals "BadCode" = some (some (.ref a_BadCode)))
    (ga_BadLog : PySem.W.nsIn K mainGlobals "BadLog" = some (some (.ref a_BadLog)))
    (ga_BadProgram : PySem.W.nsIn K mainGlobals "BadProgram" = some (some (.ref a_BadProgram)))
    (ga_BadSetting : PySem.W.nsIn K mainGlobals "BadSetting" = some (some (.ref a_BadSetting)))
    (ga_BadText : PySem.W.nsIn K mainGlobals "BadText" = some (some (.ref a_BadText)))
    (ga_NothingToUndo : PySem.W.nsIn K mainGlobals "NothingToUndo" = some (some (.ref a_NothingToUndo)))
    (ga_Refused : PySem.W.nsIn K mainGlobals "Refused" = some (some (.ref a_Refused)))
    (ga_TooMany : PySem.W.nsIn K mainGlobals "TooMany" = some (some (.ref a_TooMany)))
    (ga_TrustError : PySem.W.nsIn K mainGlobals "TrustError" = some (some (.ref a_TrustError)))
    (ga_Unfit : PySem.W.nsIn K mainGlobals "Unfit" = some (some (.ref a_Unfit)))
    (ga_WORDS : PySem.W.nsIn K mainGlobals "WORDS" = some (some (.ref a_WORDS)))
    (l_is_text : K.lookup f_is_text = some ⟨oc_is_text, od_is_text, .func (PySem.W.fnOf "is_text" "is_text" (defArgs s_is_text) (defBody s_is_text) (defScope s_is_text) .none kV_is_text dc_is_text pm_is_text an_is_text cd_is_text ct_is_text), sl_is_text⟩)
    (c_is_text : PySem.W.codeIn K cd_is_text "is_text" = true)
    (k_is_text : PySem.W.keepIn K (.ref f_is_text) = true)
    (l_run_of : K.lookup f_run_of = some ⟨oc_run_of, od_run_of, .func (PySem.W.fnOf "run_of" "run_of" (defArgs s_run_of) (defBody s_run_of) (defScope s_run_of) .none kV_run_of dc_run_of pm_run_of an_run_of cd_run_of ct_run_of), sl_run_of⟩)
    (c_run_of : PySem.W.codeIn K cd_run_of "run_of" = true)
    (k_run_of : PySem.W.keepIn K (.ref f_run_of) = true)
    (l_token_at : K.lookup f_token_at = some ⟨oc_token_at, od_token_at, .func (PySem.W.fnOf "token_at" "token_at" (defArgs s_token_at) (defBody s_token_at) (defScope s_token_at) .none kV_token_at dc_token_at pm_token_at an_token_at cd_token_at ct_token_at), sl_token_at⟩)
    (c_token_at : PySem.W.codeIn K cd_token_at "token_at" = true)
    (k_token_at : PySem.W.keepIn K (.ref f_token_at) = true)
    (l_tokens_till : K.lookup f_tokens_till = some ⟨oc_tokens_till, od_tokens_till, .func (PySem.W.fnOf "tokens_till" "tokens_till" (defArgs s_tokens_till) (defBody s_tokens_till) (defScope s_tokens_till) .none kV_tokens_till dc_tokens_till pm_tokens_till an_tokens_till cd_tokens_till ct_tokens_till), sl_tokens_till⟩)
    (c_tokens_till : PySem.W.codeIn K cd_tokens_till "tokens_till" = true)
    (k_tokens_till : PySem.W.keepIn K (.ref f_tokens_till) = true)
    (l_tokens_of : K.lookup f_tokens_of = some ⟨oc_tokens_of, od_tokens_of, .func (PySem.W.fnOf "tokens_of" "tokens_of" (defArgs s_tokens_of) (defBody s_tokens_of) (defScope s_tokens_of) .none kV_tokens_of dc_tokens_of pm_tokens_of an_tokens_of cd_tokens_of ct_tokens_of), sl_tokens_of⟩)
    (c_tokens_of : PySem.W.codeIn K cd_tokens_of "tokens_of" = true)
    (k_tokens_of : PySem.W.keepIn K (.ref f_tokens_of) = true)
    (l_lines_number : K.lookup f_lines_number = some ⟨oc_lines_number, od_lines_number, .func (PySem.W.fnOf "lines_number" "lines_number" (defArgs s_lines_number) (defBody s_lines_number) (defScope s_lines_number) .none kV_lines_number dc_lines_number pm_lines_number an_lines_number cd_lines_number ct_lines_number), sl_lines_number⟩)
    (c_lines_number : PySem.W.codeIn K cd_lines_number "lines_number" = true)
    (k_lines_number : PySem.W.keepIn K (.ref f_lines_number) = true)
    (l_line_of : K.lookup f_line_of = some ⟨oc_line_of, od_line_of, .func (PySem.W.fnOf "line_of" "line_of" (defArgs s_line_of) (defBody s_line_of) (defScope s_line_of) .none kV_line_of dc_line_of pm_line_of an_line_of cd_line_of ct_line_of), sl_line_of⟩)
    (c_line_of : PySem.W.codeIn K cd_line_of "line_of" = true)
    (k_line_of : PySem.W.keepIn K (.ref f_line_of) = true)
    (l_line_and_sign : K.lookup f_line_and_sign = some ⟨oc_line_and_sign, od_line_and_sign, .func (PySem.W.fnOf "line_and_sign" "line_and_sign" (defArgs s_line_and_sign) (defBody s_line_and_sign) (defScope s_line_and_sign) .none kV_line_and_sign dc_line_and_sign pm_line_and_sign an_line_and_sign cd_line_and_sign ct_line_and_sign), sl_line_and_sign⟩)
    (c_line_and_sign : PySem.W.codeIn K cd_line_and_sign "line_and_sign" = true)
    (k_line_and_sign : PySem.W.keepIn K (.ref f_line_and_sign) = true)
    (l_place_of : K.lookup f_place_of = some ⟨oc_place_of, od_place_of, .func (PySem.W.fnOf "place_of" "place_of" (defArgs s_place_of) (defBody s_place_of) (defScope s_place_of) .none kV_place_of dc_place_of pm_place_of an_place_of cd_place_of ct_place_of), sl_place_of⟩)
    (c_place_of : PySem.W.codeIn K cd_place_of "place_of" = true)
    (k_place_of : PySem.W.keepIn K (.ref f_place_of) = true)
    (l_tokens_on : K.lookup f_tokens_on = some ⟨oc_tokens_on, od_tokens_on, .func (PySem.W.fnOf "tokens_on" "tokens_on" (defArgs s_tokens_on) (defBody s_tokens_on) (defScope s_tokens_on) .none kV_tokens_on dc_tokens_on pm_tokens_on an_tokens_on cd_tokens_on ct_tokens_on), sl_tokens_on⟩)
    (c_tokens_on : PySem.W.codeIn K cd_tokens_on "tokens_on" = true)
    (k_tokens_on : PySem.W.keepIn K (.ref f_tokens_on) = true)
    (l__law_bag : K.lookup f__law_bag = some ⟨oc__law_bag, od__law_bag, .func (PySem.W.fnOf "_law_bag" "_law_bag" (defArgs s__law_bag) (defBody s__law_bag) (defScope s__law_bag) .none kV__law_bag dc__law_bag pm__law_bag an__law_bag cd__law_bag ct__law_bag), sl__law_bag⟩)
    (c__law_bag : PySem.W.codeIn K cd__law_bag "_law_bag" = true)
    (k__law_bag : PySem.W.keepIn K (.ref f__law_bag) = true)
    (l__law_draw : K.lookup f__law_draw = some ⟨oc__law_draw, od__law_draw, .func (PySem.W.fnOf "_law_draw" "_law_draw" (defArgs s__law_draw) (defBody s__law_draw) (defScope s__law_draw) .none kV__law_draw dc__law_draw pm__law_draw an__law_draw cd__law_draw ct__law_draw), sl__law_draw⟩)
    (c__law_draw : PySem.W.codeIn K cd__law_draw "_law_draw" = true)
    (k__law_draw : PySem.W.keepIn K (.ref f__law_draw) = true)
    (l__law_pick : K.lookup f__law_pick = some ⟨oc__law_pick, od__law_pick, .func (PySem.W.fnOf "_law_pick" "_law_pick" (defArgs s__law_pick) (defBody s__law_pick) (defScope s__law_pick) .none kV__law_pick dc__law_pick pm__law_pick an__law_pick cd__law_pick ct__law_pick), sl__law_pick⟩)
    (c__law_pick : PySem.W.codeIn K cd__law_pick "_law_pick" = true)
    (k__law_pick : PySem.W.keepIn K (.ref f__law_pick) = true)
    (l__law_how : K.lookup f__law_how = some ⟨oc__law_how, od__law_how, .func (PySem.W.fnOf "_law_how" "_law_how" (defArgs s__law_how) (defBody s__law_how) (defScope s__law_how) .none kV__law_how dc__law_how pm__law_how an__law_how cd__law_how ct__law_how), sl__law_how⟩)
    (c__law_how : PySem.W.codeIn K cd__law_how "_law_how" = true)
    (k__law_how : PySem.W.keepIn K (.ref f__law_how) = true)
    (l__law_call : K.lookup f__law_call = some ⟨oc__law_call, od__law_call, .func (PySem.W.fnOf "_law_call" "_law_call" (defArgs s__law_call) (defBody s__law_call) (defScope s__law_call) .none kV__law_call dc__law_call pm__law_call an__law_call cd__law_call ct__law_call), sl__law_call⟩)
    (c__law_call : PySem.W.codeIn K cd__law_call "_law_call" = true)
    (k__law_call : PySem.W.keepIn K (.ref f__law_call) = true)
    (l__law_told : K.lookup f__law_told = some ⟨oc__law_told, od__law_told, .func (PySem.W.fnOf "_law_told" "_law_told" (defArgs s__law_told) (defBody s__law_told) (defScope s__law_told) .none kV__law_told dc__law_told pm__law_told an__law_told cd__law_told ct__law_told), sl__law_told⟩)
    (c__law_told : PySem.W.codeIn K cd__law_told "_law_told" = true)
    (k__law_told : PySem.W.keepIn K (.ref f__law_told) = true)
    (l__law_is : K.lookup f__law_is = some ⟨oc__law_is, od__law_is, .func (PySem.W.fnOf "_law_is" "_law_is" (defArgs s__law_is) (defBody s__law_is) (defScope s__law_is) .none kV__law_is dc__law_is pm__law_is an__law_is cd__law_is ct__law_is), sl__law_is⟩)
    (c__law_is : PySem.W.codeIn K cd__law_is "_law_is" = true)
    (k__law_is : PySem.W.keepIn K (.ref f__law_is) = true)
    (l__law_words : K.lookup f__law_words = some ⟨oc__law_words, od__law_words, .func (PySem.W.fnOf "_law_words" "_law_words" (defArgs s__law_words) (defBody s__law_words) (defScope s__law_words) .none kV__law_words dc__law_words pm__law_words an__law_words cd__law_words ct__law_words), sl__law_words⟩)
    (c__law_words : PySem.W.codeIn K cd__law_words "_law_words" = true)
    (k__law_words : PySem.W.keepIn K (.ref f__law_words) = true)
    (l__law_run_end : K.lookup f__law_run_end = some ⟨oc__law_run_end, od__law_run_end, .func (PySem.W.fnOf "_law_run_end" "_law_run_end" (defArgs s__law_run_end) (defBody s__law_run_end) (defScope s__law_run_end) .none kV__law_run_end dc__law_run_end pm__law_run_end an__law_run_end cd__law_run_end ct__law_run_end), sl__law_run_end⟩)
    (c__law_run_end : PySem.W.codeIn K cd__law_run_end "_law_run_end" = true)
    (k__law_run_end : PySem.W.keepIn K (.ref f__law_run_end) = true)
    (l__law_tokens : K.lookup f__law_tokens = some ⟨oc__law_tokens, od__law_tokens, .func (PySem.W.fnOf "_law_tokens" "_law_tokens" (defArgs s__law_tokens) (defBody s__law_tokens) (defScope s__law_tokens) .none kV__law_tokens dc__law_tokens pm__law_tokens an__law_tokens cd__law_tokens ct__law_tokens), sl__law_tokens⟩)
    (c__law_tokens : PySem.W.codeIn K cd__law_tokens "_law_tokens" = true)
    (k__law_tokens : PySem.W.keepIn K (.ref f__law_tokens) = true)
    (l__law_starts : K.lookup f__law_starts = some ⟨oc__law_starts, od__law_starts, .func (PySem.W.fnOf "_law_starts" "_law_starts" (defArgs s__law_starts) (defBody s__law_starts) (defScope s__law_starts) .none kV__law_starts dc__law_starts pm__law_starts an__law_starts cd__law_starts ct__law_starts), sl__law_starts⟩)
    (c__law_starts : PySem.W.codeIn K cd__law_starts "_law_starts" = true)
    (k__law_starts : PySem.W.keepIn K (.ref f__law_starts) = true)
    (l__law_line_at : K.lookup f__law_line_at = some ⟨oc__law_line_at, od__law_line_at, .func (PySem.W.fnOf "_law_line_at" "_law_line_at" (defArgs s__law_line_at) (defBody s__law_line_at) (defScope s__law_line_at) .none kV__law_line_at dc__law_line_at pm__law_line_at an__law_line_at cd__law_line_at ct__law_line_at), sl__law_line_at⟩)
    (c__law_line_at : PySem.W.codeIn K cd__law_line_at "_law_line_at" = true)
    (k__law_line_at : PySem.W.keepIn K (.ref f__law_line_at) = true)
    (l__law_signs : K.lookup f__law_signs = some ⟨oc__law_signs, od__law_signs, .func (PySem.W.fnOf "_law_signs" "_law_signs" (defArgs s__law_signs) (defBody s__law_signs) (defScope s__law_signs) .none kV__law_signs dc__law_signs pm__law_signs an__law_signs cd__law_signs ct__law_signs), sl__law_signs⟩)
    (c__law_signs : PySem.W.codeIn K cd__law_signs "_law_signs" = true)
    (k__law_signs : PySem.W.keepIn K (.ref f__law_signs) = true)
    (l__law_joined : K.lookup f__law_joined = some ⟨oc__law_joined, od__law_joined, .func (PySem.W.fnOf "_law_joined" "_law_joined" (defArgs s__law_joined) (defBody s__law_joined) (defScope s__law_joined) .none kV__law_joined dc__law_joined pm__law_joined an__law_joined cd__law_joined ct__law_joined), sl__law_joined⟩)
    (c__law_joined : PySem.W.codeIn K cd__law_joined "_law_joined" = true)
    (k__law_joined : PySem.W.keepIn K (.ref f__law_joined) = true)
    (l__law_spoilt : K.lookup f__law_spoilt = some ⟨oc__law_spoilt, od__law_spoilt, .func (PySem.W.fnOf "_law_spoilt" "_law_spoilt" (defArgs s__law_spoilt) (defBody s__law_spoilt) (defScope s__law_spoilt) .none kV__law_spoilt dc__law_spoilt pm__law_spoilt an__law_spoilt cd__law_spoilt ct__law_spoilt), sl__law_spoilt⟩)
    (c__law_spoilt : PySem.W.codeIn K cd__law_spoilt "_law_spoilt" = true)
    (k__law_spoilt : PySem.W.keepIn K (.ref f__law_spoilt) = true)
    (l__law_are_spots_right : K.lookup f__law_are_spots_right = some ⟨oc__law_are_spots_right, od__law_are_spots_right, .func (PySem.W.fnOf "_law_are_spots_right" "_law_are_spots_right" (defArgs s__law_are_spots_right) (defBody s__law_are_spots_right) (defScope s__law_are_spots_right) .none kV__law_are_spots_right dc__law_are_spots_right pm__law_are_spots_right an__law_are_spots_right cd__law_are_spots_right ct__law_are_spots_right), sl__law_are_spots_right⟩)
    (c__law_are_spots_right : PySem.W.codeIn K cd__law_are_spots_right "_law_are_spots_right" = true)
    (k__law_are_spots_right : PySem.W.keepIn K (.ref f__law_are_spots_right) = true)
    (l__law_are_tokens_right : K.lookup f__law_are_tokens_right = some ⟨oc__law_are_tokens_right, od__law_are_tokens_right, .func (PySem.W.fnOf "_law_are_tokens_right" "_law_are_tokens_right" (defArgs s__law_are_tokens_right) (defBody s__law_are_tokens_right) (defScope s__law_are_tokens_right) .none kV__law_are_tokens_right dc__law_are_tokens_right pm__law_are_tokens_right an__law_are_tokens_right cd__law_are_tokens_right ct__law_are_tokens_right), sl__law_are_tokens_right⟩)
    (c__law_are_tokens_right : PySem.W.codeIn K cd__law_are_tokens_right "_law_are_tokens_right" = true)
    (k__law_are_tokens_right : PySem.W.keepIn K (.ref f__law_are_tokens_right) = true)
    (l__law_is_text_right : K.lookup f__law_is_text_right = some ⟨oc__law_is_text_right, od__law_is_text_right, .func (PySem.W.fnOf "_law_is_text_right" "_law_is_text_right" (defArgs s__law_is_text_right) (defBody s__law_is_text_right) (defScope s__law_is_text_right) .none kV__law_is_text_right dc__law_is_text_right pm__law_is_text_right an__law_is_text_right cd__law_is_text_right ct__law_is_text_right), sl__law_is_text_right⟩)
    (c__law_is_text_right : PySem.W.codeIn K cd__law_is_text_right "_law_is_text_right" = true)
    (k__law_is_text_right : PySem.W.keepIn K (.ref f__law_is_text_right) = true)
    (l__law_all_told : K.lookup f__law_all_told = some ⟨oc__law_all_told, od__law_all_told, .func (PySem.W.fnOf "_law_all_told" "_law_all_told" (defArgs s__law_all_told) (defBody s__law_all_told) (defScope s__law_all_told) .none kV__law_all_told dc__law_all_told pm__law_all_told an__law_all_told cd__law_all_told ct__law_all_told), sl__law_all_told⟩)
    (c__law_all_told : PySem.W.codeIn K cd__law_all_told "_law_all_told" = true)
    (k__law_all_told : PySem.W.keepIn K (.ref f__law_all_told) = true)
    (l__law_are_blanks_right : K.lookup f__law_are_blanks_right = some ⟨oc__law_are_blanks_right, od__law_are_blanks_right, .func (PySem.W.fnOf "_law_are_blanks_right" "_law_are_blanks_right" (defArgs s__law_are_blanks_right) (defBody s__law_are_blanks_right) (defScope s__law_are_blanks_right) .none kV__law_are_blanks_right dc__law_are_blanks_right pm__law_are_blanks_right an__law_are_blanks_right cd__law_are_blanks_right ct__law_are_blanks_right), sl__law_are_blanks_right⟩)
    (c__law_are_blanks_right : PySem.W.codeIn K cd__law_are_blanks_right "_law_are_blanks_right" = true)
    (k__law_are_blanks_right : PySem.W.keepIn K (.ref f__law_are_blanks_right) = true)
    (l__law_is_long_right : K.lookup f__law_is_long_right = some ⟨oc__law_is_long_right, od__law_is_long_right, .func (PySem.W.fnOf "_law_is_long_right" "_law_is_long_right" (defArgs s__law_is_long_right) (defBody s__law_is_long_right) (defScope s__law_is_long_right) .none kV__law_is_long_right dc__law_is_long_right pm__law_is_long_right an__law_is_long_right cd__law_is_long_right ct__law_is_long_right), sl__law_is_long_right⟩)
    (c__law_is_long_right : PySem.W.codeIn K cd__law_is_long_right "_law_is_long_right" = true)
    (k__law_is_long_right : PySem.W.keepIn K (.ref f__law_is_long_right) = true)
    (l_law : K.lookup f_law = some ⟨oc_law, od_law, .func (PySem.W.fnOf "law" "law" (defArgs s_law) (defBody s_law) (defScope s_law) .none kV_law dc_law pm_law an_law cd_law ct_law), sl_law⟩)
    (c_law : PySem.W.codeIn K cd_law "law" = true)
    (k_law : PySem.W.keepIn K (.ref f_law) = true)
    (v_FIGURES : PySem.W.nsIn K mainGlobals "FIGURES" = some (some (.str "0123456789" tk_FIGURES)))
    (v_LETTERS : PySem.W.nsIn K mainGlobals "LETTERS" = some (some (.str "abcdefghijklmnopqrstuvwxyz" tk_LETTERS)))
    (v_MAX_SIGNS : PySem.W.nsIn K mainGlobals "MAX_SIGNS" = some (some (.int 4000 tk_MAX_SIGNS)))
    (isca_TooMany : PySem.W.isClsIn K a_TooMany = true)
    (tyca_TooMany : PySem.W.typeIn K (.ref a_TooMany) = some (.type "type"))
    (sub_BadText_TooMany : PySem.W.subIn K (.ref a_BadText) (.ref a_TooMany) = some false)
    (ne_BadText_TooMany : (Value.ref a_BadText == Value.ref a_TooMany) = false)
    (isca_Unfit : PySem.W.isClsIn K a_Unfit = true)
    (tyca_Unfit : PySem.W.typeIn K (.ref a_Unfit) = some (.type "type"))
    (sub_BadText_Unfit : PySem.W.subIn K (.ref a_BadText) (.ref a_Unfit) = some false)
    (ne_BadText_Unfit : (Value.ref a_BadText == Value.ref a_Unfit) = false)
    (isca_NothingToUndo : PySem.W.isClsIn K a_NothingToUndo = true)
    (tyca_NothingToUndo : PySem.W.typeIn K (.ref a_NothingToUndo) = some (.type "type"))
    (sub_BadText_NothingToUndo : PySem.W.subIn K (.ref a_BadText) (.ref a_NothingToUndo) = some false)
    (ne_BadText_NothingToUndo : (Value.ref a_BadText == Value.ref a_NothingToUndo) = false)
    (isca_BadLog : PySem.W.isClsIn K a_BadLog = true)
    (tyca_BadLog : PySem.W.typeIn K (.ref a_BadLog) = some (.type "type"))
    (sub_BadText_BadLog : PySem.W.subIn K (.ref a_BadText) (.ref a_BadLog) = some false)
    (ne_BadText_BadLog : (Value.ref a_BadText == Value.ref a_BadLog) = false)
    (isca_Refused : PySem.W.isClsIn K a_Refused = true)
    (tyca_Refused : PySem.W.typeIn K (.ref a_Refused) = some (.type "type"))
    (sub_BadText_Refused : PySem.W.subIn K (.ref a_BadText) (.ref a_Refused) = some false)
    (ne_BadText_Refused : (Value.ref a_BadText == Value.ref a_Refused) = false)
    (isca_BadSetting : PySem.W.isClsIn K a_BadSetting = true)
    (tyca_BadSetting : PySem.W.typeIn K (.ref a_BadSetting) = some (.type "type"))
    (sub_BadText_BadSetting : PySem.W.subIn K (.ref a_BadText) (.ref a_BadSetting) = some false)
    (ne_BadText_BadSetting : (Value.ref a_BadText == Value.ref a_BadSetting) = false)
    (isca_BadCode : PySem.W.isClsIn K a_BadCode = true)
    (tyca_BadCode : PySem.W.typeIn K (.ref a_BadCode) = some (.type "type"))
    (sub_BadText_BadCode : PySem.W.subIn K (.ref a_BadText) (.ref a_BadCode) = some false)
    (ne_BadText_BadCode : (Value.ref a_BadText == Value.ref a_BadCode) = false)
    (isca_BadProgram : PySem.W.isClsIn K a_BadProgram = true)
    (tyca_BadProgram : PySem.W.typeIn K (.ref a_BadProgram) = some (.type "type"))
    (sub_BadText_BadProgram : PySem.W.subIn K (.ref a_BadText) (.ref a_BadProgram) = some false)
    (ne_BadText_BadProgram : (Value.ref a_BadText == Value.ref a_BadProgram) = false)
    (isca_TrustError : PySem.W.isClsIn K a_TrustError = true)
    (tyca_TrustError : PySem.W.typeIn K (.ref a_TrustError) = some (.type "type"))
    (sub_BadText_TrustError : PySem.W.subIn K (.ref a_BadText) (.ref a_TrustError) = some true)
    (hsuba_TrustError : PySem.W.subIn K (.ref a_TrustError) (.type "BaseException") = some true)
    (z_abs : PySem.W.nsIn K mainGlobals "abs" = some none)
    (z_int : PySem.W.nsIn K mainGlobals "int" = some none)
    (z_isinstance : PySem.W.nsIn K mainGlobals "isinstance" = some none)
    (z_len : PySem.W.nsIn K mainGlobals "len" = some none)
    (z_list : PySem.W.nsIn K mainGlobals "list" = some none)
    (z_max : PySem.W.nsIn K mainGlobals "max" = some none)
    (z_range : PySem.W.nsIn K mainGlobals "range" = some none)
    (z_repr : PySem.W.nsIn K mainGlobals "repr" = some none)
    (z_reversed : PySem.W.nsIn K mainGlobals "reversed" = some none)
    (z_str : PySem.W.nsIn K mainGlobals "str" = some none)
    (z_sum : PySem.W.nsIn K mainGlobals "sum" = some none)
    (z_tuple : PySem.W.nsIn K mainGlobals "tuple" = some none)
    (Hno_BadText_limit : PySem.W.findIn K (.ref a_BadText) "limit" = some none)
    (Hno_BadText_place : PySem.W.findIn K (.ref a_BadText) "place" = some none)
    (xL_BadText : K.lookup a_BadText = some (excClassObj nm_BadText qn_BadText a_BadText N_BadText bs_BadText bm_BadText true sn_BadText sub_BadText ab_BadText col_BadText dd_BadText m0_BadText m1_BadText m2_BadText m3_BadText m5_BadText "ValueError.__new__"))
    (rv_BadText : PySem.HandSPX.refsVE bm_BadText = true)
    (sa_BadText : PySem.W.findIn K (.ref a_BadText) "__setattr__" = some (some (.builtin "object.__setattr__")))
    (hsuba_BadText : PySem.W.subIn K (.ref a_BadText) (.type "BaseException") = some true)
    (tyca_BadText : PySem.W.typeIn K (.ref a_BadText) = some (.type "type"))
    (kc_BadText : PySem.W.keepIn K (.ref a_BadText) = true)
    (nof_BadText : PySem.W.findIn K (.ref a_BadText) "place" = some none)
    (iC_BadText : PySem.W.findIn K (.ref a_BadText) "__init__" = some (some (.ref fI_BadText)))
    (tI_BadText : PySem.W.typeIn K (.ref fI_BadText) = some (.type "function"))
    (lI_BadText : K.lookup fI_BadText = some ⟨ocI_BadText, odI_BadText, .func (PySem.W.fnX "__init__" "BadText.__init__" (defArgs m_BadText) (initBody "place" ⟨16, 8, 16, 13⟩ ⟨16, 8, 16, 15⟩ ⟨16, 8, 16, 24⟩ ⟨16, 25, 16, 30⟩ ⟨16, 8, 16, 31⟩ ⟨16, 8, 16, 31⟩ ⟨17, 8, 17, 12⟩ ⟨17, 8, 17, 18⟩ ⟨17, 21, 17, 26⟩ ⟨17, 8, 17, 26⟩) (defScope m_BadText) [("__class__", cc_BadText)] dVI_BadText kVI_BadText dcI_BadText pmI_BadText anI_BadText (.ref cda_BadText) ctI_BadText), slI_BadText⟩)
    (cI_BadText : PySem.W.codeIn K (.ref cda_BadText) "BadText.__init__" = true)
    (bI_BadText : dVI_BadText = .none)
    (l1_BadText : K.lookup cda_BadText = some ⟨ccl_BadText, cdd_BadText, .fields vs_BadText, ccs_BadText⟩)
    (v2_BadText : vs_BadText[2]? = some (.str file_BadText tf_BadText))
    (fi_BadText : ((P.main.file : Str) == file_BadText) = true)
    (ce_BadText : K.lookup cc_BadText = some ⟨cl_BadText, cld_BadText, .cell (some (.ref a_BadText)), csl_BadText⟩)
    (isca_BadText : PySem.W.isClsIn K a_BadText = true)
    (mro_BadText : PySem.W.mroIn K a_BadText (.ref a_BadText) = some true)
    (z_super : PySem.W.nsIn K mainGlobals "super" = some none)
    (z_opq : PySem.W.nsIn K cStatics "thirdparty.any" = some none)
    (sin_BadText : PySem.W.ks_superIn K a_BadText a_BadText "__init__" = some (some (.builtin "ValueError.__init__")))
    (sve_BadText : PySem.W.subIn K (.ref a_BadText) (.type "ValueError") = some true)
    (top_BadText : (P.main.scope.names.lookup ("super" : Str)).isSome = false)
    (lt_WORDS : K.lookup a_WORDS = some ⟨.type "tuple", od_WORDS, .seq its_WORDS n_WORDS, sl_WORDS⟩)
    (zt_WORDS : its_WORDS.size ≤ sizeLine)
    (st_WORDS : StrsAre ["choose", "draw", "else", "for", "from", "function", "hands", "if", "input", "let", "modulo", "nought", "open", "row", "tell", "to"] its_WORDS.toList)
    (hgaa_BadText : PySem.W.findIn K (.ref a_BadText) "__getattribute__" = some (some (.builtin "BaseException.__getattribute__")))
    (hgta_BadText : PySem.W.findIn K (.ref a_BadText) "__getattr__" = some none)
    (hdca_BadText : PySem.W.hasDictIn K a_BadText = true)
    (haa_BadText : PySem.W.findIn K (.ref a_BadText) "__class__" = some (some (.builtin "object.__class__")))
    (hna_BadText : PySem.W.specialIn K (.builtin "object.__class__") "__get__" = some (some (.builtin "getset_descriptor.__get__")))
    (htka_BadText : PySem.W.takesIn K (.builtin "object.__class__") = some true)
    (hma_BadText : PySem.W.mroIn K a_BadText (.type "object") = some true)
    : ∃ fd : FuncData, (∀ (s : Shared) (u : Value), BindsTo s fd ⟨[u], []⟩ [("script", u)]) ∧ ∀ base : Heap, K.In base → base.Ns mainGlobals mg → FnG P w K mg base CX0 12 fa fd ["script"] (sp_law K) := by
  have R_is_text : RawFn K mg "is_text" s_is_text := raw_mk X G g_is_text l_is_text c_is_text k_is_text
  have R_run_of : RawFn K mg "run_of" s_run_of := raw_mk X G g_run_of l_run_of c_run_of k_run_of
  have R_token_at : RawFn K mg "token_at" s_token_at := raw_mk X G g_token_at l_token_at c_token_at k_token_at
  have R_tokens_till : RawFn K mg "tokens_till" s_tokens_till := raw_mk X G g_tokens_till l_tokens_till c_tokens_till k_tokens_till
  have R_tokens_of : RawFn K mg "tokens_of" s_tokens_of := raw_mk X G g_tokens_of l_tokens_of c_tokens_of k_tokens_of
  have R_lines_number : RawFn K mg "lines_number" s_lines_number := raw_mk X G g_lines_number l_lines_number c_lines_number k_lines_number
  have R_line_of : RawFn K mg "line_of" s_line_of := raw_mk X G g_line_of l_line_of c_line_of k_line_of
  have R_line_and_sign : RawFn K mg "line_and_sign" s_line_and_sign := raw_mk X G g_line_and_sign l_line_and_sign c_line_and_sign k_line_and_sign
  have R_place_of : RawFn K mg "place_of" s_place_of := raw_mk X G g_place_of l_place_of c_place_of k_place_of
  have R_tokens_on : RawFn K mg "tokens_on" s_tokens_on := raw_mk X G g_tokens_on l_tokens_on c_tokens_on k_tokens_on
  have R__law_bag : RawFn K mg "_law_bag" s__law_bag := raw_mk X G g__law_bag l__law_bag c__law_bag k__law_bag
  have R__law_draw : RawFn K mg "_law_draw" s__law_draw := raw_mk X G g__law_draw l__law_draw c__law_draw k__law_draw
  have R__law_pick : RawFn K mg "_law_pick" s__law_pick := raw_mk X G g__law_pick l__law_pick c__law_pick k__law_pick
  have R__law_how : RawFn K mg "_law_how" s__law_how := raw_mk X G g__law_how l__law_how c__law_how k__law_how
  have R__law_call : RawFn K mg "_law_call" s__law_call := raw_mk X G g__law_call l__law_call c__law_call k__law_call
  have R__law_told : RawFn K mg "_law_told" s__law_told := raw_mk X G g__law_told l__law_told c__law_told k__law_told
  have R__law_is : RawFn K mg "_law_is" s__law_is := raw_mk X G g__law_is l__law_is c__law_is k__law_is
  have R__law_words : RawFn K mg "_law_words" s__law_words := raw_mk X G g__law_words l__law_words c__law_words k__law_words
  have R__law_run_end : RawFn K mg "_law_run_end" s__law_run_end := raw_mk X G g__law_run_end l__law_run_end c__law_run_end k__law_run_end
  have R__law_tokens : RawFn K mg "_law_tokens" s__law_tokens := raw_mk X G g__law_tokens l__law_tokens c__law_tokens k__law_tokens
  have R__law_starts : RawFn K mg "_law_starts" s__law_starts := raw_mk X G g__law_starts l__law_starts c__law_starts k__law_starts
  have R__law_line_at : RawFn K mg "_law_line_at" s__law_line_at := raw_mk X G g__law_line_at l__law_line_at c__law_line_at k__law_line_at
  have R__law_signs : RawFn K mg "_law_signs" s__law_signs := raw_mk X G g__law_signs l__law_signs c__law_signs k__law_signs
  have R__law_joined : RawFn K mg "_law_joined" s__law_joined := raw_mk X G g__law_joined l__law_joined c__law_joined k__law_joined
  have R__law_spoilt : RawFn K mg "_law_spoilt" s__law_spoilt := raw_mk X G g__law_spoilt l__law_spoilt c__law_spoilt k__law_spoilt
  have R__law_are_spots_right : RawFn K mg "_law_are_spots_right" s__law_are_spots_right := raw_mk X G g__law_are_spots_right l__law_are_spots_right c__law_are_spots_right k__law_are_spots_right
  have R__law_are_tokens_right : RawFn K mg "_law_are_tokens_right" s__law_are_tokens_right := raw_mk X G g__law_are_tokens_right l__law_are_tokens_right c__law_are_tokens_right k__law_are_tokens_right
  have R__law_is_text_right : RawFn K mg "_law_is_text_right" s__law_is_text_right := raw_mk X G g__law_is_text_right l__law_is_text_right c__law_is_text_right k__law_is_text_right
  have R__law_all_told : RawFn K mg "_law_all_told" s__law_all_told := raw_mk X G g__law_all_told l__law_all_told c__law_all_told k__law_all_told
  have R__law_are_blanks_right : RawFn K mg "_law_are_blanks_right" s__law_are_blanks_right := raw_mk X G g__law_are_blanks_right l__law_are_blanks_right c__law_are_blanks_right k__law_are_blanks_right
  have R__law_is_long_right : RawFn K mg "_law_is_long_right" s__law_is_long_right := raw_mk X G g__law_is_long_right l__law_is_long_right c__law_is_long_right k__law_is_long_right
  have R_law : RawFn K mg "law" s_law := raw_mk X G g_law l_law c_law k_law
  have Fc_BadCode : GlobV mg "BadCode" (.ref a_BadCode) := glob_ref X G ga_BadCode
  have Fc_BadLog : GlobV mg "BadLog" (.ref a_BadLog) := glob_ref X G ga_BadLog
  have Fc_BadProgram : GlobV mg "BadProgram" (.ref a_BadProgram) := glob_ref X G ga_BadProgram
  have Fc_BadSetting : GlobV mg "BadSetting" (.ref a_BadSetting) := glob_ref X G ga_BadSetting
  have Fc_BadText : GlobV mg "BadText" (.ref a_BadText) := glob_ref X G ga_BadText
  have Fc_FIGURES : GlobV mg "FIGURES" (.str "0123456789") := glob_str X G v_FIGURES
  have Fc_LETTERS : GlobV mg "LETTERS" (.str "abcdefghijklmnopqrstuvwxyz") := glob_str X G v_LETTERS
  have Fc_MAX_SIGNS : GlobV mg "MAX_SIGNS" (.int 4000) := glob_int X G v_MAX_SIGNS
  have Fc_NothingToUndo : GlobV mg "NothingToUndo" (.ref a_NothingToUndo) := glob_ref X G ga_NothingToUndo
  have Fc_Refused : GlobV mg "Refused" (.ref a_Refused) := glob_ref X G ga_Refused
  have Fc_TooMany : GlobV mg "TooMany" (.ref a_TooMany) := glob_ref X G ga_TooMany
  have Fc_TrustError : GlobV mg "TrustError" (.ref a_TrustError) := glob_ref X G ga_TrustError
  have Fc_Unfit : GlobV mg "Unfit" (.ref a_Unfit) := glob_ref X G ga_Unfit
  have Fc_WORDS : GlobV mg "WORDS" (.ref a_WORDS) := glob_ref X G ga_WORDS
  have Fk_BadText : PySem.W.kitOne K (.ref a_BadText) (.ref a_BadText) = some true := kit_self
  have Fk_TooMany : PySem.W.kitOne K (.ref a_BadText) (.ref a_TooMany) = some false := (kit_of ne_BadText_TooMany isca_TooMany tyca_TooMany sub_BadText_TooMany)
  have Fk_Unfit : PySem.W.kitOne K (.ref a_BadText) (.ref a_Unfit) = some false := (kit_of ne_BadText_Unfit isca_Unfit tyca_Unfit sub_BadText_Unfit)
  have Fk_any : PySem.W.kitAny K (.ref a_BadText) ([a_BadProgram, a_BadCode, a_BadSetting, a_Refused, a_BadLog, a_NothingToUndo].map Value.ref) = some false := (kita_cons (kit_of ne_BadText_BadProgram isca_BadProgram tyca_BadProgram sub_BadText_BadProgram) (kita_cons (kit_of ne_BadText_BadCode isca_BadCode tyca_BadCode sub_BadText_BadCode) (kita_cons (kit_of ne_BadText_BadSetting isca_BadSetting tyca_BadSetting sub_BadText_BadSetting) (kita_cons (kit_of ne_BadText_Refused isca_Refused tyca_Refused sub_BadText_Refused) (kita_cons (kit_of ne_BadText_BadLog isca_BadLog tyca_BadLog sub_BadText_BadLog) (kita_cons (kit_of ne_BadText_NothingToUndo isca_NothingToUndo tyca_NothingToUndo sub_BadText_NothingToUndo) kita_nil))))))
  have Fm_BadText : PySem.W.exmOne K (.ref a_BadText) (.ref a_TrustError) = some true := exm_of hsuba_TrustError isca_TrustError tyca_TrustError sub_BadText_TrustError
  have Fn_abs : mg "abs" = none := PySem.W.mg_none_of X G z_abs
  have Fn_int : mg "int" = none := PySem.W.mg_none_of X G z_int
  have Fn_isinstance : mg "isinstance" = none := PySem.W.mg_none_of X G z_isinstance
  have Fn_len : mg "len" = none := PySem.W.mg_none_of X G z_len
  have Fn_list : mg "list" = none := PySem.W.mg_none_of X G z_list
  have Fn_max : mg "max" = none := PySem.W.mg_none_of X G z_max
  have Fn_range : mg "range" = none := PySem.W.mg_none_of X G z_range
  have Fn_repr : mg "repr" = none := PySem.W.mg_none_of X G z_repr
  have Fn_reversed : mg "reversed" = none := PySem.W.mg_none_of X G z_reversed
  have Fn_str : mg "str" = none := PySem.W.mg_none_of X G z_str
  have Fn_sum : mg "sum" = none := PySem.W.mg_none_of X G z_sum
  have Fn_tuple : mg "tuple" = none := PySem.W.mg_none_of X G z_tuple
  have Fnames_TrustError : mg "TrustError" = some (.ref a_TrustError) := PySem.W.mg_of X G ga_TrustError
  have Fno_BadText_limit : PySem.W.findIn K (.ref a_BadText) "limit" = some none := Hno_BadText_limit
  have Fno_BadText_place : PySem.W.findIn K (.ref a_BadText) "place" = some none := Hno_BadText_place
  subst bI_BadText
  have Fr_BadText : RaiseC P K mg "BadText" "place" a_BadText := raise_mk (pl := _) X G ga_BadText xL_BadText rv_BadText sa_BadText hsuba_BadText tyca_BadText kc_BadText nof_BadText iC_BadText tI_BadText lI_BadText rfl cI_BadText (fun _ => rfl) ⟨rfl, rfl, rfl, by decide +kernel, by decide +kernel, by decide +kernel, by decide +kernel, by decide +kernel, by decide +kernel, by decide +kernel⟩ (fun us hl => match us, hl with | [_, _], _ => rfl) l1_BadText v2_BadText fi_BadText ce_BadText isca_BadText mro_BadText z_super z_opq sin_BadText sve_BadText top_BadText
  have Ft_WORDS : ∀ H, SqT K H a_WORDS [.str "choose", .str "draw", .str "else", .str "for", .str "from", .str "function", .str "hands", .str "if", .str "input", .str "let", .str "modulo", .str "nought", .str "open", .str "row", .str "tell", .str "to"] := tup_mk (zs := ["choose", "draw", "else", "for", "from", "function", "hands", "if", "input", "let", "modulo", "nought", "open", "row", "tell", "to"]) lt_WORDS zt_WORDS st_WORDS
  have Fx_BadText : ExcCls K a_BadText := ⟨hgaa_BadText, hgta_BadText, hsuba_BadText, hdca_BadText, haa_BadText, hna_BadText, htka_BadText, hma_BadText⟩
  exact end_of hfa R_law (fun _ _ _ _ _ _ _ => rfl) fun base => all_ok (P := P) (w := w) R_is_text R_run_of R_token_at R_tokens_till R_tokens_of R_lines_number R_line_of R_line_and_sign R_place_of R_tokens_on R__law_bag R__law_draw R__law_pick R__law_how R__law_call R__law_told R__law_is R__law_words R__law_run_end R__law_tokens R__law_starts R__law_line_at R__law_signs R__law_joined R__law_spoilt R__law_are_spots_right R__law_are_tokens_right R__law_is_text_right R__law_all_told R__law_are_blanks_right R__law_is_long_right R_law Fc_BadCode Fc_BadLog Fc_BadProgram Fc_BadSetting Fc_BadText Fc_FIGURES Fc_LETTERS Fc_MAX_SIGNS Fc_NothingToUndo Fc_Refused Fc_TooMany Fc_TrustError Fc_Unfit Fc_WORDS Fk_BadText Fk_TooMany Fk_Unfit Fk_any Fm_BadText Fn_abs Fn_int Fn_isinstance Fn_len Fn_list Fn_max Fn_range Fn_repr Fn_reversed Fn_str Fn_sum Fn_tuple Fnames_TrustError Fno_BadText_limit Fno_BadText_place Fr_BadText Ft_WORDS Fx_BadText base
theorem walk {l : PySem.W.OpenLaw} {q : Program} {loose : List Str} {XP : (Str → Option Value) → Heap → Prop} {YP : World → Heap → Prop} {d : DefRec} {K : Params → PySem.W.Frag} (hn : l.most = some 63) (hdf : d.params.defaults = [])
    (hY : ∀ (w : World) (h : Heap), YP w h → (K w.params).In h)
    (F : ∀ (w : World) (mg : Str → Option Value) (fa : Addr) (h : Heap), (K w.params).In h → h.Ns mainGlobals mg → mg d.name = some (.ref fa) →
      ∃ fd : FuncData, (∀ (s : Shared) (u : Value), BindsTo s fd ⟨[u], []⟩ [("script", u)]) ∧ ∀ base : Heap, (K w.params).In base → base.Ns mainGlobals mg → FnG l.prog w (K w.params) mg base CX0 12 fa fd ["script"] (sp_law (K w.params))) :
    PySem.W.WalkO q loose XP YP l.row.toRowW d [] (fun f vs => PySem.call f vs) :=
  TN.walk_g (n := 63) (k := 12) (x := "script") (sp := fun w => sp_law (K w.params)) hn (by decide) hdf ⟨⟨rfl, by decide, by decide⟩, rfl⟩ hY F
    fun w H a ns hl hS => ⟨a, ns, rfl, ⟨hS, Nat.le_trans hl (by decide)⟩, fun H' => rfl⟩
end K04

set_option Elab.async false
set_option linter.all false
set_option maxRecDepth 100000
set_option maxHeartbeats 2000000
set_option autoImplicit false
open PySem PySem.W PyProof.Rows
set_option maxRecDepth 100000 in
set_option maxHeartbeats 0 in
theorem PySem.Challenge.cw_trustnone_k04_whole_lines_holds : PySem.Challenge.rw_trustnone_k04_whole_lines.Holds := by
  w_on; o_law; k_head; (case hw => w_witness2)
  k_fill
  refine K04.walk (l := PySem.Challenge.rw_trustnone_k04_whole_lines) rfl rfl (fun w h Y => PySem.W.kIn_of Y) ?F
  case F =>
    intro w mg fa h KX G hmg
    refine' K04.fin KX G hmg ?g_is_text ?g_run_of ?g_token_at ?g_tokens_till ?g_tokens_of ?g_lines_number ?g_line_of ?g_line_and_sign ?g_place_of ?g_tokens_on ?g__law_bag ?g__law_draw ?g__law_pick ?g__law_how ?g__law_call ?g__law_told ?g__law_is ?g__law_words ?g__law_run_end ?g__law_tokens ?g__law_starts ?g__law_line_at ?g__law_signs ?g__law_joined ?g__law_spoilt ?g__law_are_spots_right ?g__law_are_tokens_right ?g__law_is_text_right ?g__law_all_told ?g__law_are_blanks_right ?g__law_is_long_right ?g_law ?ga_BadCode ?ga_BadLog ?ga_BadProgram ?ga_BadSetting ?ga_BadText ?ga_NothingToUndo ?ga_Refused ?ga_TooMany ?ga_TrustError ?ga_Unfit ?ga_WORDS ?l_is_text ?c_is_text ?k_is_text ?l_run_of ?c_run_of ?k_run_of ?l_token_at ?c_token_at ?k_token_at ?l_tokens_till ?c_tokens_till ?k_tokens_till ?l_tokens_of ?c_tokens_of ?k_tokens_of ?l_lines_number ?c_lines_number ?k_lines_number ?l_line_of ?c_line_of ?k_line_of ?l_line_and_sign ?c_line_and_sign ?k_line_and_sign ?l_place_of ?c_place_of ?k_place_of ?l_tokens_on ?c_tokens_on ?k_tokens_on ?l__law_bag ?c__law_bag ?k__law_bag ?l__law_draw ?c__law_draw ?k__law_draw ?l__law_pick ?c__law_pick ?k__law_pick ?l__law_how ?c__law_how ?k__law_how ?l__law_call ?c__law_call ?k__law_call ?l__law_told ?c__law_told ?k__law_told ?l__law_is ?c__law_is ?k__law_is ?l__law_words ?c__law_words ?k__law_words ?l__law_run_end ?c__law_run_end ?k__law_run_end ?l__law_tokens ?c__law_tokens ?k__law_tokens ?l__law_starts ?c__law_starts ?k__law_starts ?l__law_line_at ?c__law_line_at ?k__law_line_at ?l__law_signs ?c__law_signs ?k__law_signs ?l__law_joined ?c__law_joined ?k__law_joined ?l__law_spoilt ?c__law_spoilt ?k__law_spoilt ?l__law_are_spots_right ?c__law_are_spots_right ?k__law_are_spots_right ?l__law_are_tokens_right ?c__law_are_tokens_right ?k__law_are_tokens_right ?l__law_is_text_right ?c__law_is_text_right ?k__law_is_text_right ?l__law_all_told ?c__law_all_told ?k__law_all_told ?l__law_are_blanks_right ?c__law_are_blanks_right ?k__law_are_blanks_right ?l__law_is_long_right ?c__law_is_long_right ?k__law_is_long_right ?l_law ?c_law ?k_law ?v_FIGURES ?v_LETTERS ?v_MAX_SIGNS ?isca_TooMany ?tyca_TooMany ?sub_BadText_TooMany ?ne_BadText_TooMany ?isca_Unfit ?tyca_Unfit ?sub_BadText_Unfit ?ne_BadText_Unfit ?isca_NothingToUndo ?tyca_NothingToUndo ?sub_BadText_NothingToUndo ?ne_BadText_NothingToUndo ?isca_BadLog ?tyca_BadLog ?sub_BadText_BadLog ?ne_BadText_BadLog ?isca_Refused ?tyca_Refused ?sub_BadText_Refused ?ne_BadText_Refused ?isca_BadSetting ?tyca_BadSetting ?sub_BadText_BadSetting ?ne_BadText_BadSetting ?isca_BadCode ?tyca_BadCode ?sub_BadText_BadCode ?ne_BadText_BadCode ?isca_BadProgram ?tyca_BadProgram ?sub_BadText_BadProgram ?ne_BadText_BadProgram ?isca_TrustError ?tyca_TrustError ?sub_BadText_TrustError ?hsuba_TrustError ?z_abs ?z_int ?z_isinstance ?z_len ?z_list ?z_max ?z_range ?z_repr ?z_reversed ?z_str ?z_sum ?z_tuple ?Hno_BadText_limit ?Hno_BadText_place ?xL_BadText ?rv_BadText ?sa_BadText ?hsuba_BadText ?tyca_BadText ?kc_BadText ?nof_BadText ?iC_BadText ?tI_BadText ?lI_BadText ?cI_BadText ?bI_BadText ?l1_BadText ?v2_BadText ?fi_BadText ?ce_BadText ?isca_BadText ?mro_BadText ?z_super ?z_opq ?sin_BadText ?sve_BadText ?top_BadText ?lt_WORDS ?zt_WORDS ?st_WORDS ?hgaa_BadText ?hgta_BadText ?hdca_BadText ?haa_BadText ?hna_BadText ?htka_BadText ?hma_BadText
    (case g_is_text => k_is)
    (case g_run_of => k_is)
    (case g_token_at => k_is)
    (case g_tokens_till => k_is)
    (case g_tokens_of => k_is)
    (case g_lines_number => k_is)
    (case g_line_of => k_is)
    (case g_line_and_sign => k_is)
    (case g_place_of => k_is)
    (case g_tokens_on => k_is)
    (case g__law_bag => k_is)
    (case g__law_draw => k_is)
    (case g__law_pick => k_is)
    (case g__law_how => k_is)
    (case g__law_call => k_is)
    (case g__law_told => k_is)
    (case g__law_is => k_is)
    (case g__law_words => k_is)
    (case g__law_run_end => k_is)
    (case g__law_tokens => k_is)
    (case g__law_starts => k_is)
    (case g__law_line_at => k_is)
    (case g__law_signs => k_is)
    (case g__law_joined => k_is)
    (case g__law_spoilt => k_is)
    (case g__law_are_spots_right => k_is)
    (case g__law_are_tokens_right => k_is)
    (case g__law_is_text_right => k_is)
    (case g__law_all_told => k_is)
    (case g__law_are_blanks_right => k_is)
    (case g__law_is_long_right => k_is)
    (case g_law => k_is)
    (case ga_BadCode => k_is)
    (case ga_BadLog => k_is)
    (case ga_BadProgram => k_is)
    (case ga_BadSetting => k_is)
    (case ga_BadText => k_is)
    (case ga_NothingToUndo => k_is)
    (case ga_Refused => k_is)
    (case ga_TooMany => k_is)
    (case ga_TrustError => k_is)
    (case ga_Unfit => k_is)
    (case ga_WORDS => k_is)
    (case l_is_text => k_is)
    (case c_is_text => k_is)
    (case k_is_text => k_is)
    (case l_run_of => k_is)
    (case c_run_of => k_is)
    (case k_run_of => k_is)
    (case l_token_at => k_is)
    (case c_token_at => k_is)
    (case k_token_at => k_is)
    (case l_tokens_till => k_is)
    (case c_tokens_till => k_is)
    (case k_tokens_till => k_is)
    (case l_tokens_of => k_is)
    (case c_tokens_of => k_is)
    (case k_tokens_of => k_is)
    (case l_lines_number => k_is)
    (case c_lines_number => k_is)
    (case k_lines_number => k_is)
    (case l_line_of => k_is)
    (case c_line_of => k_is)
    (case k_line_of => k_is)
    (case l_line_and_sign => k_is)
    (case c_line_and_sign => k_is)
    (case k_line_and_sign => k_is)
    (case l_place_of => k_is)
    (case c_place_of => k_is)
    (case k_place_of => k_is)
    (case l_tokens_on => k_is)
    (case c_tokens_on => k_is)
    (case k_tokens_on => k_is)
    (case l__law_bag => k_is)
    (case c__law_bag => k_is)
    (case k__law_bag => k_is)
    (case l__law_draw => k_is)
    (case c__law_draw => k_is)
    (case k__law_draw => k_is)
    (case l__law_pick => k_is)
    (case c__law_pick => k_is)
    (case k__law_pick => k_is)
    (case l__law_how => k_is)
    (case c__law_how => k_is)
    (case k__law_how => k_is)
    (case l__law_call => k_is)
    (case c__law_call => k_is)
    (case k__law_call => k_is)
    (case l__law_told => k_is)
    (case c__law_told => k_is)
    (case k__law_told => k_is)
    (case l__law_is => k_is)
    (case c__law_is => k_is)
    (case k__law_is => k_is)
    (case l__law_words => k_is)
    (case c__law_words => k_is)
    (case k__law_words => k_is)
    (case l__law_run_end => k_is)
    (case c__law_run_end => k_is)
    (case k__law_run_end => k_is)
    (case l__law_tokens => k_is)
    (case c__law_tokens => k_is)
    (case k__law_tokens => k_is)
    (case l__law_starts => k_is)
    (case c__law_starts => k_is)
    (case k__law_starts => k_is)
    (case l__law_line_at => k_is)
    (case c__law_line_at => k_is)
    (case k__law_line_at => k_is)
    (case l__law_signs => k_is)
    (case c__law_signs => k_is)
    (case k__law_signs => k_is)
    (case l__law_joined => k_is)
    (case c__law_joined => k_is)
    (case k__law_joined => k_is)
    (case l__law_spoilt => k_is)
    (case c__law_spoilt => k_is)
    (case k__law_spoilt => k_is)
    (case l__law_are_spots_right => k_is)
    (case c__law_are_spots_right => k_is)
    (case k__law_are_spots_right => k_is)
    (case l__law_are_tokens_right => k_is)
    (case c__law_are_tokens_right => k_is)
    (case k__law_are_tokens_right => k_is)
    (case l__law_is_text_right => k_is)
    (case c__law_is_text_right => k_is)
    (case k__law_is_text_right => k_is)
    (case l__law_all_told => k_is)
    (case c__law_all_told => k_is)
    (case k__law_all_told => k_is)
    (case l__law_are_blanks_right => k_is)
    (case c__law_are_blanks_right => k_is)
    (case k__law_are_blanks_right => k_is)
    (case l__law_is_long_right => k_is)
    (case c__law_is_long_right => k_is)
    (case k__law_is_long_right => k_is)
    (case l_law => k_is)
    (case c_law => k_is)
    (case k_law => k_is)
    (case v_FIGURES => k_is)
    (case v_LETTERS => k_is)
    (case v_MAX_SIGNS => k_is)
    (case isca_TooMany => k_is)
    (case tyca_TooMany => k_is)
    (case sub_BadText_TooMany => first | rfl | k_is)
    (case ne_BadText_TooMany => first | rfl | decide)
    (case isca_Unfit => k_is)
    (case tyca_Unfit => k_is)
    (case sub_BadText_Unfit => first | rfl | k_is)
    (case ne_BadText_Unfit => first | rfl | decide)
    (case isca_NothingToUndo => k_is)
    (case tyca_NothingToUndo => k_is)
    (case sub_BadText_NothingToUndo => first | rfl | k_is)
    (case ne_BadText_NothingToUndo => first | rfl | decide)
    (case isca_BadLog => k_is)
    (case tyca_BadLog => k_is)
    (case sub_BadText_BadLog => first | rfl | k_is)
    (case ne_BadText_BadLog => first | rfl | decide)
    (case isca_Refused => k_is)
    (case tyca_Refused => k_is)
    (case sub_BadText_Refused => first | rfl | k_is)
    (case ne_BadText_Refused => first | rfl | decide)
    (case isca_BadSetting => k_is)
    (case tyca_BadSetting => k_is)
    (case sub_BadText_BadSetting => first | rfl | k_is)
    (case ne_BadText_BadSetting => first | rfl | decide)
    (case isca_BadCode => k_is)
    (case tyca_BadCode => k_is)
    (case sub_BadText_BadCode => first | rfl | k_is)
    (case ne_BadText_BadCode => first | rfl | decide)
    (case isca_BadProgram => k_is)
    (case tyca_BadProgram => k_is)
    (case sub_BadText_BadProgram => first | rfl | k_is)
    (case ne_BadText_BadProgram => first | rfl | decide)
    (case isca_TrustError => k_is)
    (case tyca_TrustError => k_is)
    (case sub_BadText_TrustError => first | rfl | k_is)
    (case hsuba_TrustError => k_is)
    (case z_abs => k_is)
    (case z_int => k_is)
    (case z_isinstance => k_is)
    (case z_len => k_is)
    (case z_list => k_is)
    (case z_max => k_is)
    (case z_range => k_is)
    (case z_repr => k_is)
    (case z_reversed => k_is)
    (case z_str => k_is)
    (case z_sum => k_is)
    (case z_tuple => k_is)
    (case Hno_BadText_limit => k_is)
    (case Hno_BadText_place => k_is)
    (case xL_BadText => k_is)
    (case rv_BadText => decide +kernel)
    (case sa_BadText => k_is)
    (case hsuba_BadText => k_is)
    (case tyca_BadText => k_is)
    (case kc_BadText => k_is)
    (case nof_BadText => k_is)
    (case iC_BadText => k_is)
    (case tI_BadText => k_is)
    (case lI_BadText => k_is)
    (case cI_BadText => k_is)
    (case bI_BadText => rfl)
    (case l1_BadText => k_is)
    (case v2_BadText => rfl)
    (case fi_BadText => decide +kernel)
    (case ce_BadText => k_is)
    (case isca_BadText => k_is)
    (case mro_BadText => first | rfl | k_is)
    (case z_super => k_is)
    (case z_opq => k_is)
    (case sin_BadText => ks_is)
    (case sve_BadText => k_is)
    (case top_BadText => decide +kernel)
    (case lt_WORDS => k_is)
    (case zt_WORDS => first | decide | (rw [sizeLine_eq]; decide))
    (case st_WORDS => exact .cons (.cons (.cons (.cons (.cons (.cons (.cons (.cons (.cons (.cons (.cons (.cons (.cons (.cons (.cons (.cons (.nil)))))))))))))))))
    (case hgaa_BadText => k_is)
    (case hgta_BadText => k_is)
    (case hdca_BadText => k_is)
    (case haa_BadText => k_is)
    (case hna_BadText => k_is)
    (case htka_BadText => k_is)
    (case hma_BadText => k_is)

