import PyProof.Rows.All
import Wide.All
import OpenK.AllK
import Wide.FinOn
import HandS.ForMost
import HandS.ForExc
import HandS.Flow
import HandS.Style
import HandS.IsInst
import HandS.Wide
import HandS.WideMore
import HandS.WideBits
import HandS.Defaults
import HandS.MakeKwOnly
import PySem.Challenge.RW_digitway_k26_whole_what_a_sum_loses
set_option Elab.async false
set_option linter.all false
set_option maxRecDepth 100000
set_option maxHeartbeats 1000000
set_option exponentiation.threshold 200000
namespace DW
open PySem PySem.Spec PyProof.Rows L2

/-! ### calls with keywords -/
def KB (K : PySem.W.Frag) (fd : FuncData) (ps : List Str) (n : Nat) (ks : List Str) (gV : List V → List V → List V) : Prop :=
  ∀ (s : Shared) (us ws : List Value) (vs zs : List V), K.In s.heap → Vals vs us → Vals zs ws → vs.length = n → zs.length = ks.length →
    ∃ rs, BindsTo s fd ⟨us, ks.zip ws⟩ (ps.zip rs) ∧ Vals (gV vs zs) rs
theorem KB.of_n {K : PySem.W.Frag} {fd : FuncData} {ps : List Str} {n : Nat} {ks : List Str} {g : List Value → List Value → List Value} {gV : List V → List V → List V} (h : KBn K fd ps n ks g gV) : KB K fd ps n ks gV :=
  fun s us ws vs zs X r1 r2 l1 l2 => ⟨g us ws, h.to s us ws X (r1.length.symm.trans l1) (r2.length.symm.trans l2), h.rel r1 r2⟩
def tCl (sp : Sp) (n m : Nat) (gV : List V → List V → List V) (E : XK) (t tk : TA) : TE := fun σ H Q => t σ H fun vs H1 => tk σ H1 fun zs H2 => vs.length = n ∧ zs.length = m ∧ sp (gV vs zs) H2 Q E
section
variable {X : Cx} {CX : CXT} {k n : Nat} {f : Addr} {fd : FuncData} {ps ks : List Str} {sp : Sp} {E : XK} {x : Str} {p pos : Pos} {e : Expr} {es : List Expr} {kws : List Keyword} {t tk : TA} {gV : List V → List V → List V}
theorem run_kb {pins : List (Addr × Obj)} {σ : L2.St} {H : Hp} {s : Shared} {Q : VK} {us ws : List Value} {vs zs : List V} (F : FnOk X.prog X.w X.K X.mg X.base CX k f fd ps sp) (hr : Room k X.A) (hb : KB X.K fd ps n ks gV) (hx : Passes CX X E)
    (I : Inv X pins σ H s) (r : Vals vs us) (rz : Vals zs ws) (l1 : vs.length = n) (l2 : zs.length = ks.length) (h : sp (gV vs zs) H Q E) : wpAny (model X.prog X.w) X.A (call (.ref f) us (ks.zip ws)) (EP X pins σ Q) X.xe s := by
  obtain ⟨rs, b, r2⟩ := hb s us ws vs zs I.kIn r rz l1 l2
  refine wpAny_call (codeAny_mono (F.run X.A X.stack s H ⟨us, ks.zip ws⟩ rs (gV vs zs) Q E hr I.env0 b r2 h) fun r s' hq => ?_)
  cases r with
  | error e => exact hx pins σ H s e s' I hq
  | ok fl =>
    cases fl with
    | ret u => exact I.after hq
    | next => exact False.elim hq
    | brk => exact False.elim hq
    | cont => exact False.elim hq
/-- f(e, .., k = v, ..) -/
theorem pe_kcall (F : FnOk X.prog X.w X.K X.mg X.base CX k f fd ps sp) (hr : Room k X.A) (hg : Gl X x) (hm : X.mg x = some (.ref f)) (hk : PySem.W.keepIn X.K (.ref f) = true) (hb : KB X.K fd ps n ks gV) (hx : Passes CX X E)
    (ha : PA X (e :: es) t) (hkw : PK X kws tk) (hall : (backToKw pos (keywordEach kws X.env)).all (·.1.isSome) = true := by rfl) (hks : (backToKw pos (keywordEach kws X.env)).filterMap (·.1) = ks := by rfl)
    (hdb : (x == ("__debug__" : Str)) = false := by decide) (he : starEach (e :: es) X.env = (false, eval e X.env) :: starEach es X.env := by rfl)
    (hpl : ((backTo pos (starEach (e :: es) X.env)).any (·.1) || (backToKw pos (keywordEach kws X.env)).any (·.1.isNone)) = false := by rfl) :
    PE X (.Call (.Name x p) (e :: es) kws pos) (tCl sp n ks.length gV E t tk) := by
  refine ⟨fun pins s σ H Q I h => ?_⟩
  refine wpAny_Call_Name_kw (ld_glob I hg hm ?_ hdb)
  refine PySem.W.callWith_KW (h₀ := X.base) I.ok.mod.kin hk hall (thn (ha.run pos pins s σ H _ I h) fun us s1 ⟨vs, H1, I1, r, q⟩ => ?_) hpl he
  refine thn (hkw.run pos pins s1 σ H1 _ I1 q) fun ws s2 ⟨zs, H2, I2, rz, l1, l2, q2⟩ => ⟨I2.kIn, ?_⟩
  rw [hks]
  exact run_kb F hr hb hx I2 r rz l1 l2 q2
/-- f(k = v, ..) -/
theorem pe_kcall0 (F : FnOk X.prog X.w X.K X.mg X.base CX k f fd ps sp) (hr : Room k X.A) (hg : Gl X x) (hm : X.mg x = some (.ref f)) (hk : PySem.W.keepIn X.K (.ref f) = true) (hb : KB X.K fd ps 0 ks gV) (hx : Passes CX X E)
    (hkw : PK X kws tk) (hall : (backToKw pos (keywordEach kws X.env)).all (·.1.isSome) = true := by rfl) (hks : (backToKw pos (keywordEach kws X.env)).filterMap (·.1) = ks := by rfl)
    (hdb : (x == ("__debug__" : Str)) = false := by decide)
    (hpl : ((backTo pos (starEach [] X.env)).any (·.1) || (backToKw pos (keywordEach kws X.env)).any (·.1.isNone)) = false := by rfl) :
    PE X (.Call (.Name x p) [] kws pos) (tCl sp 0 ks.length gV E tNil tk) := by
  refine ⟨fun pins s σ H Q I h => ?_⟩
  refine wpAny_Call_Name_kw (ld_glob I hg hm ?_ hdb)
  refine PySem.W.callWith_KW0 (h₀ := X.base) I.ok.mod.kin hk hall ?_ hpl
  refine thn (hkw.run pos pins s σ H _ I h) fun ws s2 ⟨zs, H2, I2, rz, l1, l2, q2⟩ => ⟨I2.kIn, ?_⟩
  rw [hks]
  exact run_kb (us := []) (vs := []) F hr hb hx I2 .nil rz rfl l2 q2
/-- a constant of the module -/
theorem pe_gc {v : V} (hg : Gl X x) (h : ∃ u, X.mg x = some u ∧ RelV v u) (hd : (x == ("__debug__" : Str)) = false := by decide) : PE X (.Name x pos) (tC v) := by
  obtain ⟨u, hm, r⟩ := h
  exact pe_glob hg hm r hd
end
/-! ### defs of the text, with their promises -/
/-- the def x (statement st), with defaults -/
abbrev FD (K : PySem.W.Frag) (x qual : Str) (st : Stmt) (dvs : List V) (kws : List (Str × V)) (f : Addr) (fd : FuncData) : Prop := FunD K x qual (defArgs st) (defBody st) (defScope st) dvs kws f fd
def DefAt (K : PySem.W.Frag) (mg : Str → Option Value) (x : Str) (st : Stmt) (dvs : List V) (kws : List (Str × V)) : Prop := ∃ f fd, FD K x x st dvs kws f fd ∧ mg x = some (.ref f)
def DefOk (P : Program) (w : World) (K : PySem.W.Frag) (mg : Str → Option Value) (base : Heap) (CX : CXT) (k : Nat) (x : Str) (st : Stmt) (dvs : List V) (kws : List (Str × V)) (ps : List Str) (sp : Sp) : Prop :=
  ∃ f fd, FD K x x st dvs kws f fd ∧ mg x = some (.ref f) ∧ FnOk P w K mg base CX k f fd ps sp
section
variable {P : Program} {w : World} {K : PySem.W.Frag} {mg : Str → Option Value} {base : Heap} {CX : CXT} {k : Nat} {x : Str} {st : Stmt} {dvs : List V} {kws : List (Str × V)} {ps : List Str} {sp : Sp}
theorem DefAt.ok (h : DefAt K mg x st dvs kws) (g : ∀ f fd, FD K x x st dvs kws f fd → FnOk P w K mg base CX k f fd ps sp) : DefOk P w K mg base CX k x st dvs kws ps sp := by
  obtain ⟨f, fd, F, m⟩ := h
  exact ⟨f, fd, F, m, g f fd F⟩
theorem DefOk.mono {j : Nat} (h : DefOk P w K mg base CX j x st dvs kws ps sp) (e : j ≤ k) : DefOk P w K mg base CX k x st dvs kws ps sp := by
  obtain ⟨f, fd, F, m, g⟩ := h
  exact ⟨f, fd, F, m, g.mono e⟩
/-- a def that lets nothing out -/
theorem FunD.ok0 {qual : Str} {params : Arguments} {body : List Stmt} {scope : Scope} {f : Addr} {fd : FuncData} {N : List Str} (F : FunD K x qual params body scope dvs kws f fd) (S : FnScope N ps scope) (len : ∀ vs H Q E, sp vs H Q E → vs.length = ps.length)
    (hbody : ∀ (cdv : Value) (A : Around) (outer : List Env) (s : Shared) (H : Hp) (vs : List V) (Q : VK) (E : XK), Room k (A.deeper (envOfC qual scope s.heap.objs.size f cdv)) → sp vs H Q E →
      ∃ t, PSs (cxOf CX0 P w K mg base N qual scope f cdv A outer s H E).nox body t ∧ t { nx := fun _ H' => Q .non H', rt := Q } (L2.start N vs) H) : FnOk P w K mg base CX0 (k + 1) f fd ps sp := by
  refine FunD.ok F S len fun cdv A outer s H vs Q E hr h => ?_
  obtain ⟨t, h1, h2⟩ := hbody cdv A outer s H vs Q E hr h
  exact ⟨t, h1.nox, h2⟩
end
section
variable {X : Cx} {CX : CXT} {k n : Nat} {ps ks : List Str} {sp : Sp} {E : XK} {x : Str} {st : Stmt} {dvs : List V} {kvs : List (Str × V)} {p pos : Pos} {e : Expr} {es : List Expr} {kws : List Keyword} {t tk : TA} {gV : List V → List V → List V}
theorem pe_kc (G : DefOk X.prog X.w X.K X.mg X.base CX k x st dvs kvs ps sp) (hr : Room k X.A) (hg : Gl X x) (hb : ∀ f fd, FD X.K x x st dvs kvs f fd → KB X.K fd ps n ks gV) (hx : Passes CX X E)
    (ha : PA X (e :: es) t) (hkw : PK X kws tk) (hall : (backToKw pos (keywordEach kws X.env)).all (·.1.isSome) = true := by rfl) (hks : (backToKw pos (keywordEach kws X.env)).filterMap (·.1) = ks := by rfl)
    (hdb : (x == ("__debug__" : Str)) = false := by decide) (he : starEach (e :: es) X.env = (false, eval e X.env) :: starEach es X.env := by rfl)
    (hpl : ((backTo pos (starEach (e :: es) X.env)).any (·.1) || (backToKw pos (keywordEach kws X.env)).any (·.1.isNone)) = false := by rfl) :
    PE X (.Call (.Name x p) (e :: es) kws pos) (tCl sp n ks.length gV E t tk) := by
  obtain ⟨f, fd, F, m, g⟩ := G
  exact pe_kcall g hr hg m F.kp (hb f fd F) hx ha hkw hall hks hdb he hpl
theorem pe_kc0 (G : DefOk X.prog X.w X.K X.mg X.base CX k x st dvs kvs ps sp) (hr : Room k X.A) (hg : Gl X x) (hb : ∀ f fd, FD X.K x x st dvs kvs f fd → KB X.K fd ps 0 ks gV) (hx : Passes CX X E)
    (hkw : PK X kws tk) (hall : (backToKw pos (keywordEach kws X.env)).all (·.1.isSome) = true := by rfl) (hks : (backToKw pos (keywordEach kws X.env)).filterMap (·.1) = ks := by rfl)
    (hdb : (x == ("__debug__" : Str)) = false := by decide)
    (hpl : ((backTo pos (starEach [] X.env)).any (·.1) || (backToKw pos (keywordEach kws X.env)).any (·.1.isNone)) = false := by rfl) :
    PE X (.Call (.Name x p) [] kws pos) (tCl sp 0 ks.length gV E tNil tk) := by
  obtain ⟨f, fd, F, m, g⟩ := G
  exact pe_kcall0 g hr hg m F.kp (hb f fd F) hx hkw hall hks hdb hpl
end
/-! ### how a call binds -/
section
variable {K : PySem.W.Frag} {x qual : Str} {params : Arguments} {body : List Stmt} {scope : Scope} {dvs : List V} {kws : List (Str × V)} {f : Addr} {fd : FuncData} {ps : List Str} {n : Nat} {ks : List Str} {gV : List V → List V → List V}
/-- no defaults, no keyword-only one lacks -/
theorem FunD.kbA (F : FunD K x qual params body scope [] kws f fd)
    (h : ∀ (kV doc pm : Value) (an : Option Addr) (cdv ct : Value) (vs : List V) (us : List Value) (zs : List V) (ws : List Value), Vals vs us → Vals zs ws → vs.length = n → zs.length = ks.length →
      ∃ rs, bindArgs (PySem.W.fnOf x qual params body scope .none kV doc pm an cdv ct) ⟨us, ks.zip ws⟩ = pure (ps.zip rs) ∧ Vals (gV vs zs) rs) : KB K fd ps n ks gV := by
  obtain ⟨oc, od, dV, kV, doc, pm, an, cdv, ct, osl, rfl, lk, hcd, hD, hK⟩ := F.ex
  rcases hD with ⟨_, rfl⟩ | ⟨e, _⟩
  · intro s us ws vs zs X r1 r2 l1 l2
    obtain ⟨rs, e, r⟩ := h kV doc pm an cdv ct vs us zs ws r1 r2 l1 l2
    exact ⟨rs, .of_eq e, r⟩
  · exact absurd rfl e
/-- defaults, no keyword-only one lacks -/
theorem FunD.kbC (F : FunD K x qual params body scope dvs kws f fd) (hd : dvs ≠ [])
    (h : ∀ (T : Addr) (kV doc pm : Value) (an : Option Addr) (cdv ct : Value) (vs : List V) (us : List Value) (zs : List V) (ws its : List Value), Vals vs us → Vals zs ws → Vals dvs its → vs.length = n → zs.length = ks.length →
      ∃ k, bindArgs (PySem.W.fnOf x qual params body scope (.ref T) kV doc pm an cdv ct) ⟨us, ks.zip ws⟩ = seqItems? (.ref T) >>= k ∧ ∃ rs, k (some its.toArray) = pure (ps.zip rs) ∧ Vals (gV vs zs) rs) : KB K fd ps n ks gV := by
  obtain ⟨oc, od, dV, kV, doc, pm, an, cdv, ct, osl, rfl, lk, hcd, hD, hK⟩ := F.ex
  rcases hD with ⟨e, _⟩ | ⟨_, T, o, its, m, rfl, lT, oT, rT⟩
  · exact absurd e hd
  · intro s us ws vs zs X r1 r2 l1 l2
    obtain ⟨k, e1, rs, e2, r⟩ := h T kV doc pm an cdv ct vs us zs ws its r1 r2 rT l1 l2
    refine ⟨rs, BindsTo.of_looks fun M => ?_, r⟩
    rw [e1]
    exact looks_items X lT oT (.of_pure e2)
/-- no defaults; the keyword-only ones ms lack -/
theorem FunD.kbB (F : FunD K x qual params body scope [] kws f fd) (ms : List (Str × V)) (hk : kws ≠ []) (hms : ∀ q ∈ ms, q ∈ kws)
    (h : ∀ (D : Addr) (doc pm : Value) (an : Option Addr) (cdv ct : Value) (vs : List V) (us : List Value) (zs : List V) (ws mv : List Value), Vals vs us → Vals zs ws → Vals (ms.map (·.2)) mv → vs.length = n → zs.length = ks.length →
      ∃ rs, KwChain D ((ms.map (·.1)).zip mv) (bindArgs (PySem.W.fnOf x qual params body scope .none (.ref D) doc pm an cdv ct) ⟨us, ks.zip ws⟩) (ps.zip rs) ∧ Vals (gV vs zs) rs) : KB K fd ps n ks gV := by
  obtain ⟨oc, od, dV, kV, doc, pm, an, cdv, ct, osl, rfl, lk, hcd, hD, hK⟩ := F.ex
  rcases hD with ⟨_, rfl⟩ | ⟨e, _⟩
  · rcases hK with e | ⟨D, rfl, hq⟩
    · exact absurd e hk
    · obtain ⟨mv, hl, rk, hks⟩ := kwd_vals (ms := ms) fun q hm => hq q (hms q hm)
      intro s us ws vs zs X r1 r2 l1 l2
      obtain ⟨rs, e, r⟩ := h D doc pm an cdv ct vs us zs ws mv r1 r2 rk l1 l2
      exact ⟨rs, BindsTo.of_looks fun M => KwChain.looks X hks e, r⟩
  · exact absurd rfl e
/-- defaults; the keyword-only ones ms lack -/
theorem FunD.kbD (F : FunD K x qual params body scope dvs kws f fd) (ms : List (Str × V)) (hd : dvs ≠ []) (hk : kws ≠ []) (hms : ∀ q ∈ ms, q ∈ kws)
    (h : ∀ (T D : Addr) (doc pm : Value) (an : Option Addr) (cdv ct : Value) (vs : List V) (us : List Value) (zs : List V) (ws its mv : List Value), Vals vs us → Vals zs ws → Vals dvs its → Vals (ms.map (·.2)) mv → vs.length = n → zs.length = ks.length →
      ∃ k, bindArgs (PySem.W.fnOf x qual params body scope (.ref T) (.ref D) doc pm an cdv ct) ⟨us, ks.zip ws⟩ = seqItems? (.ref T) >>= k ∧ ∃ rs, KwChain D ((ms.map (·.1)).zip mv) (k (some its.toArray)) (ps.zip rs) ∧ Vals (gV vs zs) rs) : KB K fd ps n ks gV := by
  obtain ⟨oc, od, dV, kV, doc, pm, an, cdv, ct, osl, rfl, lk, hcd, hD, hK⟩ := F.ex
  rcases hD with ⟨e, _⟩ | ⟨_, T, o, its, m, rfl, lT, oT, rT⟩
  · exact absurd e hd
  · rcases hK with e | ⟨D, rfl, hq⟩
    · exact absurd e hk
    · obtain ⟨mv, hl, rk, hks⟩ := kwd_vals (ms := ms) fun q hm => hq q (hms q hm)
      intro s us ws vs zs X r1 r2 l1 l2
      obtain ⟨k, e1, rs, e2, r⟩ := h T D doc pm an cdv ct vs us zs ws its mv r1 r2 rT rk l1 l2
      refine ⟨rs, BindsTo.of_looks fun M => ?_, r⟩
      rw [e1]
      exact looks_items X lT oT (KwChain.looks X hks e2)
end
/-! ### operators with wider conditions -/
def CMulC (i j : Int) : Prop := CMul i j ∨ CMulX i j
theorem CMulC.ok {i j : Int} (h : CMulC i j) : IntMulOk i j := by
  rcases h with h | h
  · exact h.ok
  · exact h.ok
/-- a positive divisor of at most 9000 bits, or a dividend of at most 4000 bits more -/
def CDivC (i j : Int) : Prop := 0 < j ∧ (j.natAbs < 2 ^ 9000 ∨ Builtin.Int.intBits i ≤ Builtin.Int.intBits j + 4000)
theorem CDivC.p {i j : Int} (h : CDivC i j) : CDivP i j := by
  obtain ⟨h0, h | h⟩ := h
  · exact ⟨h0, PyProof.noPylong_of_log2 (PySem.Flt.log2_lt_of (by decide) h)⟩
  · exact divp_ok h0 h
section
variable {X : Cx}
theorem op_mulC : OpR X (binaryOp .Mult) (rI CMulC fun i j => .int (i * j)) := opI fun _ _ _ _ _ _ _ hc q => mul_int q hc.ok
theorem iop_mulC : OpR X (inplaceOp .Mult) (rI CMulC fun i j => .int (i * j)) := opI fun _ _ _ _ _ _ _ hc q => imul_int q hc.ok
theorem op_fdivC : OpR X (binaryOp .FloorDiv) (rI CDivC fun i j => .int (i / j)) := opI fun i j _ _ _ _ _ hc q => by
  have h1 : (0 : Int) < j := hc.1
  exact floordiv_int (by omega) (by rw [Int.fdiv_eq_ediv_of_nonneg i (by omega)]; exact q) (.inl hc.p.2)
theorem iop_fdivC : OpR X (inplaceOp .FloorDiv) (rI CDivC fun i j => .int (i / j)) := opI fun i j _ _ _ _ _ hc q => by
  have h1 : (0 : Int) < j := hc.1
  exact ifloordiv_int (by omega) (by rw [Int.fdiv_eq_ediv_of_nonneg i (by omega)]; exact q) (.inl hc.p.2)
theorem call_divmodC : CallR X (.builtin "divmod") (fun xs H Q => ∃ i j, xs = [.int i, .int j] ∧ CDivC i j ∧ ∀ p, H p = none → Q (.ref p) (upd H p (.tup [.int (i / j), .int (i % j)]))) := by
  intro pins s σ H xs us Q I r h
  obtain ⟨i, j, e, c, q⟩ := h
  exact call_divmodW pins s σ H xs us Q I r ⟨i, j, e, c.p, q⟩
end
/-! ### loops -/
theorem while_go {c : TT} {tb : TS} {D : Ends} {σ : L2.St} {H : Hp} (W : Nat → L2.St → Hp → Prop) (m : Nat) (h0 : W m σ H)
    (turn : ∀ m σ H, W m σ H → c σ H fun b H1 => if b = true then tb { D with nx := fun σ' H' => ∃ m', m' < m ∧ W m' σ' H', ct := fun σ' H' => ∃ m', m' < m ∧ W m' σ' H', bk := D.nx } σ H1 else D.nx σ H1)
    (mono : ∀ σ H (Q Q' : Bool → Hp → Prop), (∀ b H1, Q b H1 → Q' b H1) → c σ H Q → c σ H Q') : tWhile c tb D σ H := by
  refine ⟨W, ⟨m, h0⟩, fun m σ H w => mono σ H _ _ (fun b H1 q => ?_) (turn m σ H w)⟩
  cases b with
  | false => exact q
  | true => exact ⟨fun σ' H' => ∃ m', m' < m ∧ W m' σ' H', fun _ _ h => h, q⟩
/-- the same, without the test's mono (the test is read at once) -/
theorem while_in {c : TT} {tb : TS} {D : Ends} {σ : L2.St} {H : Hp} (W : Nat → L2.St → Hp → Prop) (m : Nat) (h0 : W m σ H)
    (turn : ∀ m σ H, W m σ H → ∃ b H1, (∀ Q : Bool → Hp → Prop, Q b H1 → c σ H Q) ∧ if b = true then tb { D with nx := fun σ' H' => ∃ m', m' < m ∧ W m' σ' H', ct := fun σ' H' => ∃ m', m' < m ∧ W m' σ' H', bk := D.nx } σ H1 else D.nx σ H1) : tWhile c tb D σ H := by
  refine ⟨W, ⟨m, h0⟩, fun m σ H w => ?_⟩
  obtain ⟨b, H1, hc, q⟩ := turn m σ H w
  refine hc _ ?_
  cases b with
  | false => exact q
  | true => exact ⟨fun σ' H' => ∃ m', m' < m ∧ W m' σ' H', fun _ _ h => h, q⟩
/-- for i, x in enumerate(xs) -/
theorem for_enum {K : PySem.W.Frag} {a : Addr} {xs : List V} {g : TG} {tb : TS} {D : Ends} {σ : L2.St} {H : Hp} (Pv : Nat → L2.St → Hp → Prop) (h0 : Pv 0 σ H) (hl : ∀ i σ H, i ≤ xs.length → Pv i σ H → SqL K H a xs)
    (hs : ∀ i x σ H, xs[i]? = some x → Pv i σ H → ∀ T, H T = none → g (.ref T) σ (upd H T (.tup [.int (i : Nat), x])) fun σ2 H2 => tb { D with nx := Pv (i + 1), ct := Pv (i + 1), bk := D.nx } σ2 H2) (hd : ∀ σ H, Pv xs.length σ H → D.nx σ H) :
    ∃ W : Nat → Nat → L2.St → Hp → Prop, (∃ m, W 0 m σ H) ∧ ∀ i m σ H, W i m σ H →
      ((Ite K a).stop i H ∧ D.nx σ H) ∨ ((Ite K a).go i H ∧ ∃ N : L2.St → Hp → Prop, (∀ σ' H', N σ' H' → ∃ m', m' < m ∧ W (i + 1) m' σ' H') ∧ ∀ x H', (Ite K a).yld i H x H' → g x σ H' fun σ2 H2 => tb { D with nx := N, ct := N, bk := D.nx } σ2 H2) := by
  refine ⟨fun i m σ H => m = xs.length - i ∧ i ≤ xs.length ∧ Pv i σ H, ⟨xs.length, by simp, Nat.zero_le _, h0⟩, ?_⟩
  rintro i m σ H ⟨rfl, hi, p⟩
  have q := hl i σ H hi p
  by_cases hlt : i < xs.length
  · refine .inr ⟨⟨xs, xs[i], q, by simp [hlt]⟩, Pv (i + 1), fun σ' H' p' => ⟨xs.length - (i + 1), by omega, rfl, hlt, p'⟩, fun x H' y => ?_⟩
    obtain ⟨T, x1, rfl, hT, rfl, hx⟩ := y
    exact hs i x1 σ H (hx xs q) p T hT
  · have e : i = xs.length := by omega
    subst e
    exact .inl ⟨⟨xs, q, Nat.le_refl _⟩, hd σ H p⟩
/-! ### heaps: what was tracked stands, but for some -/
def But (m l : Addr) (H H' : Hp) : Prop := ∀ a o, a ≠ m → a ≠ l → H a = some o → H' a = some o
theorem look_new {H : Hp} {p b : Addr} {o x : HO} (e : H b = some x) (hp : H p = none) : upd H p o b = some x := by
  rw [upd_ne (ne_of_none e hp)]
  exact e
theorem look_mut {H : Hp} {p b : Addr} {o x : HO} (hne : b ≠ p) (e : H b = some x) : upd H p o b = some x := by
  rw [upd_ne hne]
  exact e
theorem same_new {H : Hp} {p : Addr} {o : HO} (hp : H p = none) : Same H (upd H p o) := fun _ _ e => look_new e hp
theorem same_but {m l : Addr} {H H' : Hp} (s : Same H H') : But m l H H' := fun a o _ _ e => s a o e
theorem But.trans {m l : Addr} {H H1 H2 : Hp} (a : But m l H H1) (b : But m l H1 H2) : But m l H H2 := fun c o h1 h2 e => b c o h1 h2 (a c o h1 h2 e)
theorem But.refl {m l : Addr} {H : Hp} : But m l H H := fun _ _ _ _ e => e
theorem same_tup {K : PySem.W.Frag} {H H' : Hp} {a : Addr} {xs : List V} (e : Same H H') (h : SqT K H a xs) : SqT K H' a xs := by
  rcases h with (h | ⟨o, h⟩) | h
  · exact .inl (.inl (e _ _ h))
  · exact .inl (.inr ⟨o, e _ _ h⟩)
  · exact .inr h
theorem neR {H : Hp} {p b : Addr} {x : HO} (e : H b = some x) (hp : H p = none) : p ≠ b := fun z => by
  rw [z, e] at hp
  cases hp
/-! ### the kinds that isinstance asks of -/
/-- what is no whole number: an object that is no int -/
def NoInt (K : PySem.W.Frag) (H : Hp) (x : V) : Prop := ∃ t, TyX K H x t ∧ PySem.W.kitOne K t (.type "int") = some false
def KindOk (K : PySem.W.Frag) (H : Hp) : V → Prop
  | .int _ => True
  | .bl _ => True
  | x => NoInt K H x
def wholeIn : V → Int → Int → Bool
  | .int i, lo, hi => decide (lo ≤ i) && decide (i ≤ hi)
  | _, _, _ => false
theorem kit_int_int {K : PySem.W.Frag} : PySem.W.kitOne K (.type "int") (.type "int") = some true := kit_ty (by decide +kernel)
theorem kit_int_bool {K : PySem.W.Frag} : PySem.W.kitOne K (.type "int") (.type "bool") = some false := kit_ty (by decide +kernel)
theorem kit_bool_int {K : PySem.W.Frag} : PySem.W.kitOne K (.type "bool") (.type "int") = some true := kit_ty (by decide +kernel)
theorem kit_bool_bool {K : PySem.W.Frag} : PySem.W.kitOne K (.type "bool") (.type "bool") = some true := kit_ty (by decide +kernel)
theorem kit_str_str {K : PySem.W.Frag} : PySem.W.kitOne K (.type "str") (.type "str") = some true := kit_ty (by decide +kernel)
theorem tyx_int {K : PySem.W.Frag} {H : Hp} (i : Int) : TyX K H (.int i) (.type "int") := .base (.int i)
theorem tyx_bl {K : PySem.W.Frag} {H : Hp} (b : Bool) : TyX K H (.bl b) (.type "bool") := .base (.bl b)
theorem tyx_str {K : PySem.W.Frag} {H : Hp} (z : Str) : TyX K H (.str z) (.type "str") := .base (.str z)
theorem noInt_str {K : PySem.W.Frag} {H : Hp} (z : Str) : NoInt K H (.str z) := ⟨_, tyx_str z, kit_ty (by decide +kernel)⟩
theorem noInt_non {K : PySem.W.Frag} {H : Hp} : NoInt K H .non := ⟨_, .base .non, kit_ty (by decide +kernel)⟩
theorem noInt_lst {K : PySem.W.Frag} {H : Hp} {a : Addr} {xs : List V} (e : H a = some (.lst xs)) : NoInt K H (.ref a) := ⟨_, .base (.lst e), kit_ty (by decide +kernel)⟩
theorem noInt_tup {K : PySem.W.Frag} {H : Hp} {a : Addr} {xs : List V} (e : H a = some (.tup xs)) : NoInt K H (.ref a) := ⟨_, .base (.tup e), kit_ty (by decide +kernel)⟩
theorem noInt_dK {K : PySem.W.Frag} {H : Hp} {a : Addr} {xs : List (Key × V)} (e : H a = some (.dK xs)) : NoInt K H (.ref a) := ⟨_, .base (.dK e), kit_ty (by decide +kernel)⟩
/-- isinstance, its answer known -/
theorem rIsi_of {K : PySem.W.Frag} {x : V} {n : String} {t : Value} {b : Bool} {H : Hp} {Q : VK} (ty : TyX K H x t) (e : PySem.W.kitOne K t (.type n) = some b) (q : Q (.bl b) H) : rIsi K [x, .ty n] H Q := ⟨x, .ty n, t, .type n, b, rfl, .ty n, ty, e, q⟩
/-! ### lists of flat things compared -/
def datV : V → PyData
  | .non => .none
  | .bl b => .bool b
  | .int i => .int i
  | .str x => .str x
  | _ => .none
/-- flat, texts of real signs -/
def okV : V → Bool
  | .non => true
  | .bl _ => true
  | .int _ => true
  | .str x => (PyData.str x).canLay0
  | _ => false
theorem flat_ok : ∀ {x : V}, okV x = true → flatV x = true
  | .non, _ => rfl
  | .bl _, _ => rfl
  | .int _, _ => rfl
  | .str _, _ => rfl
  | .byt _, h => by cases h
  | .flt _, h => by cases h
  | .ref _, h => by cases h
  | .ty _, h => by cases h
theorem dp_flat {K : PySem.W.Frag} {H : Hp} : ∀ {x : V}, okV x = true → Dp K H x (datV x)
  | .non, _ => .non
  | .bl b, _ => .bl b
  | .int i, _ => .int i
  | .str x, _ => .str x
  | .byt _, h => by cases h
  | .flt _, h => by cases h
  | .ref _, h => by cases h
  | .ty _, h => by cases h
theorem dpAll_flat {K : PySem.W.Frag} {H : Hp} : ∀ {xs : List V}, xs.all okV = true → DpAll K H xs (xs.map datV)
  | [], _ => .nil
  | x :: xs, h => by
    rw [List.all_cons, Bool.and_eq_true] at h
    exact .cons (dp_flat h.1) (dpAll_flat h.2)
theorem canLay_datV : ∀ {x : V}, okV x = true → (datV x).canLay0 = true
  | .non, _ => rfl
  | .bl _, _ => rfl
  | .int _, _ => rfl
  | .str _, h => h
  | .byt _, h => by cases h
  | .flt _, h => by cases h
  | .ref _, h => by cases h
  | .ty _, h => by cases h
theorem canLayAll_datV : ∀ {xs : List V}, xs.all okV = true → PyData.canLayAll0 (xs.map datV) = true
  | [], _ => rfl
  | x :: xs, h => by
    rw [List.all_cons, Bool.and_eq_true] at h
    show ((datV x).canLay0 && PyData.canLayAll0 (xs.map datV)) = true
    rw [canLay_datV h.1, canLayAll_datV h.2]
    rfl
theorem depth_datV (x : V) : (datV x).depth ≤ 1 := by
  cases x <;> simp [datV, PyData.depth]
theorem depthAll_datV : ∀ xs : List V, PyData.depthAll (xs.map datV) ≤ 1
  | [] => by simp [PyData.depthAll]
  | x :: xs => by
    have h1 := depth_datV x
    have h2 := depthAll_datV xs
    simp only [List.map_cons, PyData.depthAll]
    omega
theorem shaped_lst {xs : List V} (h : xs.all okV = true) : SeqAt.shaped (.list (xs.map datV)) = true := by
  have h2 := depthAll_datV xs
  show ((PyData.list (xs.map datV)).canLay0 && decide ((PyData.list (xs.map datV)).depth ≤ 64)) = true
  rw [show (PyData.list (xs.map datV)).canLay0 = true from canLayAll_datV h, Bool.true_and]
  refine decide_eq_true ?_
  simp only [PyData.depth]
  omega
theorem shaped_tup {xs : List V} (h : xs.all okV = true) : SeqAt.shaped (.tuple (xs.map datV)) = true := by
  have h2 := depthAll_datV xs
  show ((PyData.tuple (xs.map datV)).canLay0 && decide ((PyData.tuple (xs.map datV)).depth ≤ 64)) = true
  rw [show (PyData.tuple (xs.map datV)).canLay0 = true from canLayAll_datV h, Bool.true_and]
  refine decide_eq_true ?_
  simp only [PyData.depth]
  omega
/-- flat values: == as Python has it -/
def eqL : List V → List V → Bool
  | [], [] => true
  | x :: xs, y :: ys => eqV x y && eqL xs ys
  | _, _ => false
theorem eqv_datV : ∀ {x y : V}, okV x = true → okV y = true → PyData.eqv (datV x) (datV y) = eqV x y := by
  intro x y hx hy
  cases x <;> cases y <;> first | (cases hx; done) | (cases hy; done) | (simp [datV, PyData.eqv, eqV])
theorem eqvAll_datV : ∀ {xs ys : List V}, xs.all okV = true → ys.all okV = true → PyData.eqvAll (xs.map datV) (ys.map datV) = eqL xs ys
  | [], [], _, _ => by simp [PyData.eqvAll, eqL]
  | [], _ :: _, _, _ => by simp [PyData.eqvAll, eqL]
  | _ :: _, [], _, _ => by simp [PyData.eqvAll, eqL]
  | x :: xs, y :: ys, hx, hy => by
    rw [List.all_cons, Bool.and_eq_true] at hx hy
    simp only [List.map_cons, PyData.eqvAll, eqL]
    rw [eqv_datV hx.1 hy.1, eqvAll_datV hx.2 hy.2]
theorem eqL_refl : ∀ {xs : List V}, xs.all flatV = true → eqL xs xs = true
  | [], _ => rfl
  | x :: xs, h => by
    rw [List.all_cons, Bool.and_eq_true] at h
    have e : eqV x x = true := by
      obtain ⟨h1, _⟩ := h
      cases x <;> first | (cases h1; done) | simp [eqV]
    simp only [eqL, e, eqL_refl h.2, Bool.and_self]
theorem rEqD_lst {K : PySem.W.Frag} {H : Hp} {a b : Addr} {xs ys : List V} {Q : VK} (ha : SqL K H a xs) (hb : SqL K H b ys) (fx : xs.all okV = true) (fy : ys.all okV = true) (q : Q (.bl (eqL xs ys)) H) : rEqD K (.ref a) (.ref b) H Q := by
  refine ⟨_, _, .lst ha (dpAll_flat fx), .lst hb (dpAll_flat fy), shaped_lst fx, shaped_lst fy, ?_⟩
  have e : PyData.eqv (.list (xs.map datV)) (.list (ys.map datV)) = eqL xs ys := by rw [PyData.eqv, eqvAll_datV fx fy]
  rw [e]
  exact q
theorem rNeD_lst {K : PySem.W.Frag} {H : Hp} {a b : Addr} {xs ys : List V} {Q : VK} (ha : SqL K H a xs) (hb : SqL K H b ys) (fx : xs.all okV = true) (fy : ys.all okV = true) (q : Q (.bl (!eqL xs ys)) H) : rNeD K (.ref a) (.ref b) H Q := by
  refine ⟨_, _, .lst ha (dpAll_flat fx), .lst hb (dpAll_flat fy), shaped_lst fx, shaped_lst fy, ?_⟩
  have e : PyData.eqv (.list (xs.map datV)) (.list (ys.map datV)) = eqL xs ys := by rw [PyData.eqv, eqvAll_datV fx fy]
  rw [e]
  exact q
theorem rEqD_tup {K : PySem.W.Frag} {H : Hp} {a b : Addr} {xs ys : List V} {Q : VK} (ha : SqT K H a xs) (hb : SqT K H b ys) (fx : xs.all okV = true) (fy : ys.all okV = true) (q : Q (.bl (eqL xs ys)) H) : rEqD K (.ref a) (.ref b) H Q := by
  refine ⟨_, _, .tup ha (dpAll_flat fx), .tup hb (dpAll_flat fy), shaped_tup fx, shaped_tup fy, ?_⟩
  have e : PyData.eqv (.tuple (xs.map datV)) (.tuple (ys.map datV)) = eqL xs ys := by rw [PyData.eqv, eqvAll_datV fx fy]
  rw [e]
  exact q
theorem rNeD_tup {K : PySem.W.Frag} {H : Hp} {a b : Addr} {xs ys : List V} {Q : VK} (ha : SqT K H a xs) (hb : SqT K H b ys) (fx : xs.all okV = true) (fy : ys.all okV = true) (q : Q (.bl (!eqL xs ys)) H) : rNeD K (.ref a) (.ref b) H Q := by
  refine ⟨_, _, .tup ha (dpAll_flat fx), .tup hb (dpAll_flat fy), shaped_tup fx, shaped_tup fy, ?_⟩
  have e : PyData.eqv (.tuple (xs.map datV)) (.tuple (ys.map datV)) = eqL xs ys := by rw [PyData.eqv, eqvAll_datV fx fy]
  rw [e]
  exact q
theorem ok_ints (ns : List Int) : (ns.map V.int).all okV = true := by
  rw [List.all_eq_true]
  intro x hx
  obtain ⟨i, _, rfl⟩ := List.mem_map.mp hx
  rfl
/-! ### where a def stands -/
section
variable {K : PySem.W.Frag} {mg : Str → Option Value} {h : Heap} {x : Str} {st : Stmt} {f : Addr} {oc : Value} {od an : Option Addr} {osl : Array (Option Value)} {kV doc pm cdv ct : Value}
theorem DefAt.mk0 (X : K.In h) (G : h.Ns mainGlobals mg) (a : PySem.W.nsIn K mainGlobals x = some (some (.ref f)))
    (l : K.lookup f = some ⟨oc, od, .func (PySem.W.fnOf x x (defArgs st) (defBody st) (defScope st) .none kV doc pm an cdv ct), osl⟩) (c : PySem.W.codeIn K cdv x = true) (k : PySem.W.keepIn K (.ref f) = true) : DefAt K mg x st [] [] :=
  ⟨f, _, ⟨⟨oc, od, .none, kV, doc, pm, an, cdv, ct, osl, rfl, l, c, .inl ⟨rfl, rfl⟩, .inl rfl⟩, k⟩, PySem.W.mg_of X G a⟩
theorem KwdV.one {D : Addr} {y : Str} {v : V} {u : Value} {kws : List (Str × V)} (e : PySem.W.nsIn K D y = some (some u)) (r : RelV v u) (h : kws = [] ∨ KwdV K (.ref D) kws) : KwdV K (.ref D) ((y, v) :: kws) := by
  refine .inr ⟨D, rfl, fun q hq => ?_⟩
  rcases List.mem_cons.mp hq with rfl | hq
  · exact ⟨u, e, r⟩
  · rcases h with h | h | ⟨D', e', hh⟩
    · rw [h] at hq
      cases hq
    · rw [h] at hq
      cases hq
    · cases e'
      exact hh q hq
theorem DefAt.mkD {dvs : List V} {kws : List (Str × V)} {dV : Value} (X : K.In h) (G : h.Ns mainGlobals mg) (a : PySem.W.nsIn K mainGlobals x = some (some (.ref f)))
    (l : K.lookup f = some ⟨oc, od, .func (PySem.W.fnOf x x (defArgs st) (defBody st) (defScope st) dV kV doc pm an cdv ct), osl⟩) (c : PySem.W.codeIn K cdv x = true) (k : PySem.W.keepIn K (.ref f) = true)
    (d : DflV K dV dvs) (w : KwdV K kV kws) : DefAt K mg x st dvs kws :=
  ⟨f, _, ⟨⟨oc, od, dV, kV, doc, pm, an, cdv, ct, osl, rfl, l, c, d, w⟩, k⟩, PySem.W.mg_of X G a⟩
theorem dfl_mk {T : Addr} {c1 : Value} {e1 : Option Addr} {its : List Value} {n : Nat} {sl : Array (Option Value)} {dvs : List V} (l : K.lookup T = some ⟨c1, e1, .seq its.toArray n, sl⟩) (hd : dvs ≠ []) (r : Vals dvs its) : DflV K (.ref T) dvs :=
  .inr ⟨hd, T, _, its, n, rfl, l, rfl, r⟩
end
/-! ### what the laws draw by -/
def Drw (H : Hp) (m l : Addr) (b : Nat) : Prop := ∃ (c : Addr) (k : Nat) (cs ls : List Int), H m = some (.dK [(.inr "cells", .ref c), (.inr "left", .ref l), (.inr "spot", .int k)]) ∧ H c = some (.lst (cs.map V.int)) ∧ H l = some (.lst (ls.map V.int)) ∧
  c ≠ l ∧ k ≤ b ∧ cs.length = 64 ∧ (∀ x ∈ cs, 0 ≤ x ∧ x < 2147483648) ∧ ls.length ≤ 63
theorem Drw.mono {H : Hp} {m l : Addr} {b b' : Nat} (d : Drw H m l b) (h : b ≤ b') : Drw H m l b' := by
  obtain ⟨c, k, cs, ls, e1, e2, e3, e4, e5, e6⟩ := d
  exact ⟨c, k, cs, ls, e1, e2, e3, e4, Nat.le_trans e5 h, e6⟩
theorem Drw.same {H H' : Hp} {m l : Addr} {b : Nat} (d : Drw H m l b) (s : Same H H') : Drw H' m l b := by
  obtain ⟨c, k, cs, ls, e1, e2, e3, e4⟩ := d
  exact ⟨c, k, cs, ls, s _ _ e1, s _ _ e2, s _ _ e3, e4⟩
theorem Drw.m {H : Hp} {m l : Addr} {b : Nat} (d : Drw H m l b) : ∃ kvs, H m = some (.dK kvs) := by
  obtain ⟨c, k, cs, ls, e1, _⟩ := d
  exact ⟨_, e1⟩
theorem Drw.l {H : Hp} {m l : Addr} {b : Nat} (d : Drw H m l b) : ∃ xs, H l = some (.lst xs) := by
  obtain ⟨c, k, cs, ls, e1, e2, e3, _⟩ := d
  exact ⟨_, e3⟩
theorem Drw.ne {H : Hp} {m l : Addr} {b : Nat} (d : Drw H m l b) : m ≠ l := by
  obtain ⟨c, k, cs, ls, e1, e2, e3, _⟩ := d
  exact ne_of e1 e3 (by intro z; cases z)
/-- a tuple, an instance .. stands apart from what is drawn by -/
theorem But.at {m l a : Addr} {H H' : Hp} {b : Nat} {o : HO} (h : But m l H H') (d : Drw H m l b) (e : H a = some o) (h1 : ∀ kvs, o ≠ .dK kvs) (h2 : ∀ xs, o ≠ .lst xs) : H' a = some o := by
  obtain ⟨kvs, em⟩ := d.m
  obtain ⟨xs, el⟩ := d.l
  exact h a o (ne_of e em (h1 kvs)) (ne_of e el (h2 xs)) e
theorem But.free {m l p : Addr} {H H' : Hp} {b : Nat} (h : But m l H H') (d' : Drw H' m l b) (e : H' p = none) : H p = none := by
  obtain ⟨kvs, em⟩ := d'.m
  obtain ⟨xs, el⟩ := d'.l
  have n1 : p ≠ m := fun z => by rw [z, em] at e; cases e
  have n2 : p ≠ l := fun z => by rw [z, el] at e; cases e
  cases q : H p with
  | none => rfl
  | some o =>
    rw [h p o n1 n2 q] at e
    cases e

theorem mem_set_of {α : Type} {x y : α} : ∀ {xs : List α} {i : Nat}, y ∈ xs.set i x → y = x ∨ y ∈ xs
  | [], _, h => by cases h
  | a :: xs, 0, h => by
    rcases List.mem_cons.mp h with h | h
    · exact .inl h
    · exact .inr (List.mem_cons_of_mem _ h)
  | a :: xs, i + 1, h => by
    rcases List.mem_cons.mp h with h | h
    · exact .inr (by rw [h]; exact List.mem_cons_self ..)
    · rcases mem_set_of (xs := xs) h with h | h
      · exact .inl h
      · exact .inr (List.mem_cons_of_mem _ h)
theorem ix_int {ns : List Int} {i : Int} (h0 : 0 ≤ i) (h1 : i < ns.length) : ∃ x, ns[i.toNat]? = some x ∧ x ∈ ns ∧ atI (ns.map V.int) i = some (.int x) := by
  have hj : i.toNat < ns.length := by omega
  refine ⟨ns[i.toNat], List.getElem?_eq_getElem hj, List.getElem_mem hj, ?_⟩
  have h2 : atI (ns.map V.int) ((i.toNat : Nat) : Int) = some (.int ns[i.toNat]) := by
    refine atI_nat ?_
    rw [List.getElem?_map, List.getElem?_eq_getElem hj]
    rfl
  have e : ((i.toNat : Nat) : Int) = i := by omega
  rw [e] at h2
  exact h2
theorem ixN_int {n : Nat} {i : Int} (h0 : 0 ≤ i) (h1 : i < n) : ixN n i = some i.toNat := by
  unfold ixN
  rw [if_pos h0, if_pos h1]
theorem cxK {CX : CXT} {P : Program} {w : World} {K : PySem.W.Frag} {mg : Str → Option Value} {base : Heap} {N : List Str} {qual : Str} {scope : Scope} {f : Addr} {cd : Value} {A : Around} {outer : List Env} {s : Shared} {H : Hp} {E : XK} :
    (cxOf CX P w K mg base N qual scope f cd A outer s H E).K = K := rfl
theorem dget_str {H : Hp} {a : Addr} {kvs : List (Key × V)} {x : Str} {v : V} (e : H a = some (.dK kvs)) (h : valV kvs (.inr x) = some v) : DGet H a (.str x) (some v) := by
  rw [← h]
  exact DGet.k (k := .inr x) e
theorem dput_str {H : Hp} {a : Addr} {kvs kvs' : List (Key × V)} {x : Str} {v : V} (e : H a = some (.dK kvs)) (hl : kvs.length < sizeLine) (h : putK kvs (.inr x) v = kvs') : DPut H a (.str x) v (upd H a (.dK kvs')) := by
  rw [← h]
  exact DPut.k (k := .inr x) e hl
theorem eqL_nil {xs : List V} (h : eqL xs [] = false) : 0 < xs.length := by
  cases xs with
  | nil => cases h
  | cons x xs => exact Nat.succ_pos _
/-! ### loops as read -/
def LoopF (J : It) (g : TG) (tb : TS) (D : Ends) (σ : L2.St) (H : Hp) : Prop := ∃ W : Nat → Nat → L2.St → Hp → Prop, (∃ m, W 0 m σ H) ∧ ∀ i m σ H, W i m σ H →
  (J.stop i H ∧ D.nx σ H) ∨ (J.go i H ∧ ∃ N : L2.St → Hp → Prop, (∀ σ' H', N σ' H' → ∃ m', m' < m ∧ W (i + 1) m' σ' H') ∧ ∀ x H', J.yld i H x H' → g x σ H' fun σ2 H2 => tb { D with nx := N, ct := N, bk := D.nx } σ2 H2)
theorem tFor_rd {wi : TI} {g : TG} {tb : TS} {D : Ends} {σ : L2.St} {H : Hp} : tFor wi g tb D σ H = wi σ H fun J H1 => LoopF J g tb D σ H1 := rfl
def LoopC (J : It) (g : TG) (tt : TT) (te : TE) (vs : List Nat) (σ : L2.St) (Q : VK) (H1 : Hp) : Prop := ∀ D, H1 D = none → ∃ W : Nat → Nat → Hp → Prop, (∃ m, W 0 m (upd H1 D (.lst []))) ∧ ∀ i m H, W i m H →
  (J.stop i H ∧ Q (.ref D) H) ∨ (J.go i H ∧ ∃ Nx : Hp → Prop, (∀ H', Nx H' → ∃ m', m' < m ∧ W (i + 1) m' H') ∧ ∀ x H', J.yld i H x H' → g x (wipe σ vs) H' fun σ2 H2 => wipe σ2 vs = wipe σ vs ∧ tt σ2 H2 fun b H3 =>
    if b = true then te σ2 H3 fun y H4 => ∃ acc, H4 D = some (.lst acc) ∧ acc.length < sizeLine ∧ Nx (upd H4 D (.lst (acc ++ [y]))) else Nx H3)
theorem tLc_rd {wi : TI} {g : TG} {tt : TT} {te : TE} {vs : List Nat} {σ : L2.St} {H : Hp} {Q : VK} : tLc wi g tt te vs σ H Q = wi σ H fun J H1 => LoopC J g tt te vs σ Q H1 := rfl
section
variable {K : PySem.W.Frag} {a b : Addr} {xs ys : List V} {g : TG} {tb : TS} {D : Ends} {σ : L2.St} {H : Hp} {tt : TT} {te : TE} {vs : List Nat} {Q : VK}
theorem loop_list (Pv : Nat → L2.St → Hp → Prop) (h0 : Pv 0 σ H) (hl : ∀ i σ H, i ≤ xs.length → Pv i σ H → SqL K H a xs)
    (hs : ∀ i x σ H, xs[i]? = some x → Pv i σ H → g x σ H fun σ2 H2 => tb { D with nx := Pv (i + 1), ct := Pv (i + 1), bk := D.nx } σ2 H2) (hd : ∀ σ H, Pv xs.length σ H → D.nx σ H) : LoopF (Itl K a) g tb D σ H := for_list Pv h0 hl hs hd
theorem loop_tup (Pv : Nat → L2.St → Hp → Prop) (h0 : Pv 0 σ H) (hl : ∀ i σ H, i ≤ xs.length → Pv i σ H → SqT K H a xs)
    (hs : ∀ i x σ H, xs[i]? = some x → Pv i σ H → g x σ H fun σ2 H2 => tb { D with nx := Pv (i + 1), ct := Pv (i + 1), bk := D.nx } σ2 H2) (hd : ∀ σ H, Pv xs.length σ H → D.nx σ H) : LoopF (Itt K a) g tb D σ H := for_tup Pv h0 hl hs hd
theorem loop_range {lo : Int} {n : Nat} (Pv : Nat → L2.St → Hp → Prop) (h0 : Pv 0 σ H)
    (hs : ∀ i σ H, i < n → Pv i σ H → g (.int (lo + i)) σ H fun σ2 H2 => tb { D with nx := Pv (i + 1), ct := Pv (i + 1), bk := D.nx } σ2 H2) (hd : ∀ σ H, Pv n σ H → D.nx σ H) : LoopF (Itr lo n) g tb D σ H := for_range Pv h0 hs hd
theorem loop_enum (Pv : Nat → L2.St → Hp → Prop) (h0 : Pv 0 σ H) (hl : ∀ i σ H, i ≤ xs.length → Pv i σ H → SqL K H a xs)
    (hs : ∀ i x σ H, xs[i]? = some x → Pv i σ H → ∀ T, H T = none → g (.ref T) σ (upd H T (.tup [.int (i : Nat), x])) fun σ2 H2 => tb { D with nx := Pv (i + 1), ct := Pv (i + 1), bk := D.nx } σ2 H2) (hd : ∀ σ H, Pv xs.length σ H → D.nx σ H) : LoopF (Ite K a) g tb D σ H := for_enum Pv h0 hl hs hd
theorem loop_zip (hl : xs.length = ys.length) (Pv : Nat → L2.St → Hp → Prop) (h0 : Pv 0 σ H) (hq : ∀ i σ H, i ≤ xs.length → Pv i σ H → SqL K H a xs ∧ SqL K H b ys)
    (hs : ∀ i x y σ H, xs[i]? = some x → ys[i]? = some y → Pv i σ H → ∀ T, H T = none → g (.ref T) σ (upd H T (.tup [x, y])) fun σ2 H2 => tb { D with nx := Pv (i + 1), ct := Pv (i + 1), bk := D.nx } σ2 H2) (hd : ∀ σ H, Pv xs.length σ H → D.nx σ H) : LoopF (Itz K a b) g tb D σ H := by
  refine ⟨fun i m σ H => m = xs.length - i ∧ i ≤ xs.length ∧ Pv i σ H, ⟨xs.length, by simp, Nat.zero_le _, h0⟩, ?_⟩
  rintro i m σ H ⟨rfl, hi, p⟩
  obtain ⟨qa, qb⟩ := hq i σ H hi p
  by_cases hlt : i < xs.length
  · have hlt2 : i < ys.length := by omega
    refine .inr ⟨⟨xs, ys, xs[i], ys[i], qa, qb, by simp [hlt], by simp [hlt2]⟩, Pv (i + 1), fun σ' H' p' => ⟨xs.length - (i + 1), by omega, rfl, hlt, p'⟩, fun x H' y => ?_⟩
    obtain ⟨T, x1, x2, rfl, hT, rfl, hx, hy⟩ := y
    exact hs i x1 x2 σ H (hx xs qa) (hy ys qb) p T hT
  · have e : i = xs.length := by omega
    subst e
    exact .inl ⟨⟨xs, ys, qa, qb, .inl (Nat.le_refl _)⟩, hd σ H p⟩
theorem loopc_range {lo : Int} {n : Nat} (Pv : Addr → Nat → Hp → Prop) (h0 : ∀ D, H D = none → Pv D 0 (upd H D (.lst [])))
    (hs : ∀ D, H D = none → ∀ i H', i < n → Pv D i H' → g (.int (lo + i)) (wipe σ vs) H' fun σ2 H2 => wipe σ2 vs = wipe σ vs ∧ tt σ2 H2 fun b H3 =>
      if b = true then te σ2 H3 fun y H4 => ∃ acc, H4 D = some (.lst acc) ∧ acc.length < sizeLine ∧ Pv D (i + 1) (upd H4 D (.lst (acc ++ [y]))) else Pv D (i + 1) H3) (hd : ∀ D, H D = none → ∀ H', Pv D n H' → Q (.ref D) H') : LoopC (Itr lo n) g tt te vs σ Q H :=
  fun D hD => lc_range (Pv D) (h0 D hD) (hs D hD) (hd D hD)
theorem loopc_list (Pv : Addr → Nat → Hp → Prop) (h0 : ∀ D, H D = none → Pv D 0 (upd H D (.lst []))) (hl : ∀ D, H D = none → ∀ i H', i ≤ xs.length → Pv D i H' → SqL K H' a xs)
    (hs : ∀ D, H D = none → ∀ i x H', xs[i]? = some x → Pv D i H' → g x (wipe σ vs) H' fun σ2 H2 => wipe σ2 vs = wipe σ vs ∧ tt σ2 H2 fun b H3 =>
      if b = true then te σ2 H3 fun y H4 => ∃ acc, H4 D = some (.lst acc) ∧ acc.length < sizeLine ∧ Pv D (i + 1) (upd H4 D (.lst (acc ++ [y]))) else Pv D (i + 1) H3) (hd : ∀ D, H D = none → ∀ H', Pv D xs.length H' → Q (.ref D) H') : LoopC (Itl K a) g tt te vs σ Q H :=
  fun D hD => lc_list (Pv D) (h0 D hD) (hl D hD) (hs D hD) (hd D hD)
theorem loopc_tup (Pv : Addr → Nat → Hp → Prop) (h0 : ∀ D, H D = none → Pv D 0 (upd H D (.lst []))) (hl : ∀ D, H D = none → ∀ i H', i ≤ xs.length → Pv D i H' → SqT K H' a xs)
    (hs : ∀ D, H D = none → ∀ i x H', xs[i]? = some x → Pv D i H' → g x (wipe σ vs) H' fun σ2 H2 => wipe σ2 vs = wipe σ vs ∧ tt σ2 H2 fun b H3 =>
      if b = true then te σ2 H3 fun y H4 => ∃ acc, H4 D = some (.lst acc) ∧ acc.length < sizeLine ∧ Pv D (i + 1) (upd H4 D (.lst (acc ++ [y]))) else Pv D (i + 1) H3) (hd : ∀ D, H D = none → ∀ H', Pv D xs.length H' → Q (.ref D) H') : LoopC (Itt K a) g tt te vs σ Q H :=
  fun D hD => lc_tup (Pv D) (h0 D hD) (hl D hD) (hs D hD) (hd D hD)
end
theorem getElem?_map_int {ns : List Int} {i : Nat} {x : V} (h : (ns.map V.int)[i]? = some x) : ∃ z, ns[i]? = some z ∧ x = .int z ∧ z ∈ ns := by
  rw [List.getElem?_map] at h
  cases e : ns[i]? with
  | none =>
    rw [e] at h
    cases h
  | some z =>
    rw [e] at h
    exact ⟨z, rfl, (Option.some.inj h).symm, List.mem_of_getElem? e⟩
theorem same_upd {H H' : Hp} {p : Addr} {o : HO} (s : Same H H') (hp : H p = none) : Same H (upd H' p o) := fun b x e => look_mut (ne_of_none e hp) (s b x e)
theorem size_lt {n : Nat} (h : n ≤ 100000) : n < sizeLine := by
  rw [sizeLine_eq]
  omega
theorem size_le {n : Nat} (h : n ≤ 100000) : n ≤ sizeLine := Nat.le_of_lt (size_lt h)
section
variable {K : PySem.W.Frag} {H : Hp} {p : Addr} {xs : List V} {i : Int} {v : V} {Q : VK}
theorem ixl_of (h : SqL K H p xs) (e : atI xs i = some v) (q : Q v H) : rIxL K (.ref p) (.int i) H Q := ⟨p, xs, i, v, rfl, rfl, h, e, q⟩
theorem ixt_of (h : SqT K H p xs) (e : atI xs i = some v) (q : Q v H) : rIxT K (.ref p) (.int i) H Q := ⟨p, xs, i, v, rfl, rfl, h, e, q⟩
theorem setl_of {j : Nat} {R : Hp → Prop} (h : H p = some (.lst xs)) (e : ixN xs.length i = some j) (q : R (upd H p (.lst (xs.set j v)))) : rSetL (.ref p) (.int i) v H R := ⟨p, xs, i, j, rfl, rfl, h, e, q⟩
end
theorem wholeIn_int {i lo hi : Int} : wholeIn (.int i) lo hi = (decide (lo ≤ i) && decide (i ≤ hi)) := rfl
theorem wholeIn_yes {i lo hi : Int} (h1 : lo ≤ i) (h2 : i ≤ hi) : wholeIn (.int i) lo hi = true := by
  rw [wholeIn_int, decide_eq_true h1, decide_eq_true h2]
  rfl
theorem wholeIn_no {i lo hi : Int} (h : ¬ (lo ≤ i ∧ i ≤ hi)) : wholeIn (.int i) lo hi = false := by
  rw [wholeIn_int]
  by_cases h1 : lo ≤ i
  · rw [decide_eq_true h1, decide_eq_false (fun z => h ⟨h1, z⟩)]
    rfl
  · rw [decide_eq_false h1]
    rfl
/-! ### new tuples and lists, the heap behind them a letter -/
def tTupA (t : TA) : TE := fun σ H Q => t σ H fun xs H1 => xs.length ≤ sizeLine ∧ ∀ p H', H1 p = none → Same H1 H' → H' p = some (.tup xs) → Q (.ref p) H'
def tLstA (t : TA) : TE := fun σ H Q => t σ H fun xs H1 => xs.length ≤ sizeLine ∧ ∀ p H', H1 p = none → Same H1 H' → H' p = some (.lst xs) → Q (.ref p) H'
section
variable {X : Cx} {es : List Expr} {e : Expr} {t : TA} {u v : TE} {pos : Pos}
/-- the reading closed under weaker wishes -/
theorem pa_cl (h : PA X es t) : PA X es (fun σ H Q => ∃ Q0, t σ H Q0 ∧ ∀ xs H1, Q0 xs H1 → Q xs H1) := by
  refine ⟨fun pos pins s σ H Q I q => ?_⟩
  obtain ⟨Q0, q0, m⟩ := q
  refine thn (h.run pos pins s σ H Q0 I q0) fun us s1 z => ?_
  obtain ⟨xs, H1, I1, r1, q1⟩ := z
  exact ⟨xs, H1, I1, r1, m xs H1 q1⟩
theorem pe_imp (h : PE X e u) (m : ∀ σ H Q, v σ H Q → u σ H Q) : PE X e v := ⟨fun pins s σ H Q I q => h.run pins s σ H Q I (m σ H Q q)⟩
theorem pe_tupA {x1} (h : PA X es t) : PE X (.Tuple es x1 pos) (tTupA t) := pe_imp (pe_tup (pa_cl h)) fun _ _ _ q => ⟨_, q, fun _ _ z => ⟨z.1, fun p hp => z.2 p _ hp (same_new hp) upd_same⟩⟩
theorem pe_lstA (h : PA X es t) : PE X (.List es pos) (tLstA t) := pe_imp (pe_lst (pa_cl h)) fun _ _ _ q => ⟨_, q, fun _ _ z => ⟨z.1, fun p hp => z.2 p _ hp (same_new hp) upd_same⟩⟩
theorem call_divmodA : CallR X (.builtin "divmod") (fun xs H Q => ∃ i j, xs = [.int i, .int j] ∧ CDivC i j ∧ ∀ p H', H p = none → Same H H' → H' p = some (.tup [.int (i / j), .int (i % j)]) → Q (.ref p) H') := by
  intro pins s σ H xs us Q I r h
  obtain ⟨i, j, e, c, q⟩ := h
  exact call_divmodW pins s σ H xs us Q I r ⟨i, j, e, c.p, fun p hp => q p _ hp (same_new hp) upd_same⟩
end
section
variable {K : PySem.W.Frag} {a b : Addr} {xs ys : List V} {g : TG} {tb : TS} {D : Ends} {σ : L2.St} {H : Hp}
theorem loop_enumA (Pv : Nat → L2.St → Hp → Prop) (h0 : Pv 0 σ H) (hl : ∀ i σ H, i ≤ xs.length → Pv i σ H → SqL K H a xs)
    (hs : ∀ i x σ H, xs[i]? = some x → Pv i σ H → ∀ T H', H T = none → Same H H' → H' T = some (.tup [.int (i : Nat), x]) → g (.ref T) σ H' fun σ2 H2 => tb { D with nx := Pv (i + 1), ct := Pv (i + 1), bk := D.nx } σ2 H2) (hd : ∀ σ H, Pv xs.length σ H → D.nx σ H) : LoopF (Ite K a) g tb D σ H :=
  loop_enum Pv h0 hl (fun i x σ H hx p T hT => hs i x σ H hx p T _ hT (same_new hT) upd_same) hd
theorem loop_zipA (hl : xs.length = ys.length) (Pv : Nat → L2.St → Hp → Prop) (h0 : Pv 0 σ H) (hq : ∀ i σ H, i ≤ xs.length → Pv i σ H → SqL K H a xs ∧ SqL K H b ys)
    (hs : ∀ i x y σ H, xs[i]? = some x → ys[i]? = some y → Pv i σ H → ∀ T H', H T = none → Same H H' → H' T = some (.tup [x, y]) → g (.ref T) σ H' fun σ2 H2 => tb { D with nx := Pv (i + 1), ct := Pv (i + 1), bk := D.nx } σ2 H2) (hd : ∀ σ H, Pv xs.length σ H → D.nx σ H) : LoopF (Itz K a b) g tb D σ H :=
  loop_zip hl Pv h0 hq (fun i x y σ H hx hy p T hT => hs i x y σ H hx hy p T _ hT (same_new hT) upd_same) hd
theorem gtup_of {n : Nat} {t : TGs} {Q : L2.St → Hp → Prop} (h : H a = some (.tup xs)) (hn : xs.length = n) (q : t xs σ H Q) : gTup K n t (.ref a) σ H Q := ⟨a, xs, rfl, SqT.of h, hn, q⟩
end
theorem But.lst {m l a : Addr} {H H' : Hp} {b : Nat} {xs : List V} (h : But m l H H') (d : Drw H m l b) (e : H a = some (.lst xs)) (hl : a ≠ l) : H' a = some (.lst xs) := by
  obtain ⟨kvs, em⟩ := d.m
  exact h a _ (ne_of e em (by intro z; cases z)) hl e
def trues (n : Nat) : List Bool := List.replicate n true
theorem trues_succ (n : Nat) : (trues (n + 1)).map V.bl = (trues n).map V.bl ++ [.bl true] := by
  unfold trues
  rw [List.replicate_succ', List.map_append]
  rfl
theorem trues_all (n : Nat) : (trues n).all id = true := by
  unfold trues
  rw [List.all_eq_true]
  intro x hx
  exact (List.mem_replicate.mp hx).2
theorem trues_len (n : Nat) : ((trues n).map V.bl).length = n := by
  rw [List.length_map]
  exact List.length_replicate
theorem DefOk.fin {P : Program} {w : World} {K : PySem.W.Frag} {mg : Str → Option Value} {CX : CXT} {k : Nat} {x y : Str} {st : Stmt} {sp : Sp} {fa : Addr} (d : DefAt K mg x st [] []) (hfa : mg x = some (.ref fa))
    (hb : ∀ (kV doc pm : Value) (an : Option Addr) (cdv ct : Value) (us : List Value), us.length = ([y] : List Str).length → bindArgs (PySem.W.fnOf x x (defArgs st) (defBody st) (defScope st) .none kV doc pm an cdv ct) ⟨us, []⟩ = pure (([y] : List Str).zip us))
    (h : ∀ base : Heap, DefOk P w K mg base CX k x st [] [] [y] sp) :
    ∃ fd : FuncData, (∀ (s : Shared) (v : Value), BindsTo s fd ⟨[v], []⟩ [(y, v)]) ∧ ∀ base : Heap, K.In base → base.Ns mainGlobals mg → FnOk P w K mg base CX k fa fd [y] sp := by
  obtain ⟨f, fd, F, m⟩ := d
  have e : f = fa := by
    rw [hfa] at m
    exact (Value.ref.inj (Option.some.inj m)).symm
  subst e
  refine ⟨fd, fun s v => FunD.bindsA F hb s [v] rfl, fun base _ _ => ?_⟩
  obtain ⟨f', fd', F', m', ok⟩ := h base
  have e' : f' = f := by
    rw [m] at m'
    exact (Value.ref.inj (Option.some.inj m')).symm
  subst e'
  have e2 : fd' = fd := by
    obtain ⟨_, _, _, _, _, _, _, _, _, _, _, l1, _⟩ := F.ex
    obtain ⟨_, _, _, _, _, _, _, _, _, _, _, l2, _⟩ := F'.ex
    rw [l1] at l2
    injection l2 with l2
    injection l2 with _ _ l2
    injection l2 with l2
    exact l2.symm
  subst e2
  exact ok
theorem gc_mk {K : PySem.W.Frag} {h : Heap} {mg : Str → Option Value} {x : Str} {u : Value} {v : V} (X : K.In h) (G : h.Ns mainGlobals mg) (e : PySem.W.nsIn K mainGlobals x = some (some u)) (r : RelV v u) : ∃ u, mg x = some u ∧ RelV v u :=
  ⟨u, PySem.W.mg_of X G e, r⟩
/-! ### classes -/
def MethAt (K : PySem.W.Frag) (C : Addr) (m qual : Str) (st : Stmt) (dvs : List V) (kws : List (Str × V)) : Prop := ∃ f fd, FD K m qual st dvs kws f fd ∧ Meth K C m f
def MethOk (P : Program) (w : World) (K : PySem.W.Frag) (mg : Str → Option Value) (base : Heap) (CX : CXT) (k : Nat) (C : Addr) (m qual : Str) (st : Stmt) (dvs : List V) (kws : List (Str × V)) (ps : List Str) (sp : Sp) : Prop :=
  ∃ f fd, FD K m qual st dvs kws f fd ∧ Meth K C m f ∧ FnOk P w K mg base CX k f fd ps sp
def InitAt (K : PySem.W.Frag) (C : Addr) (qual : Str) (st : Stmt) (dvs : List V) (kws : List (Str × V)) : Prop := ∃ f fd, FD K "__init__" qual st dvs kws f fd ∧ Mk K C f
def InitOk (P : Program) (w : World) (K : PySem.W.Frag) (mg : Str → Option Value) (base : Heap) (CX : CXT) (k : Nat) (C : Addr) (qual : Str) (st : Stmt) (dvs : List V) (kws : List (Str × V)) (ps : List Str) (sp : Sp) : Prop :=
  ∃ f fd, FD K "__init__" qual st dvs kws f fd ∧ Mk K C f ∧ FnOk P w K mg base CX k f fd ps sp
section
variable {P : Program} {w : World} {K : PySem.W.Frag} {mg : Str → Option Value} {base : Heap} {CX : CXT} {k : Nat} {m qual : Str} {st : Stmt} {dvs : List V} {kws : List (Str × V)} {ps : List Str} {sp : Sp} {C : Addr}
theorem MethAt.ok (h : MethAt K C m qual st dvs kws) (g : ∀ f fd, FD K m qual st dvs kws f fd → FnOk P w K mg base CX k f fd ps sp) : MethOk P w K mg base CX k C m qual st dvs kws ps sp := by
  obtain ⟨f, fd, F, z⟩ := h
  exact ⟨f, fd, F, z, g f fd F⟩
theorem InitAt.ok (h : InitAt K C qual st dvs kws) (g : ∀ f fd, FD K "__init__" qual st dvs kws f fd → FnOk P w K mg base CX k f fd ps sp) : InitOk P w K mg base CX k C qual st dvs kws ps sp := by
  obtain ⟨f, fd, F, z⟩ := h
  exact ⟨f, fd, F, z, g f fd F⟩
end
/-- o.m(..), the method's promise -/
def tMe (C : Addr) (m : Str) (n : Nat) (sp : Sp) (gV : List V → List V → List V) (E : XK) (to : TE) (t : TA) : TE := fun σ H Q => to σ H fun x H1 => ∃ a dx fs, x = .ref a ∧ H1 a = some (.ins C dx fs) ∧ fs.lookup m = none ∧
  t σ H1 fun vs H2 => vs.length = n ∧ sp (gV (.ref a :: vs) []) H2 Q E
/-- C(..): a new instance, then __init__ -/
def tMk (C : Addr) (n m : Nat) (sp : Sp) (gV : List V → List V → List V) (E : XK) (t tk : TA) : TE := fun σ H Q => t σ H fun vs H1 => tk σ H1 fun zs H2 => vs.length = n ∧ zs.length = m ∧ ∀ x dx H', H2 x = none → Same H2 H' → H' x = some (.ins C dx []) →
  sp (gV (.ref x :: vs) zs) H' (fun v H3 => v = .non ∧ Q (.ref x) H3) E
section
variable {X : Cx} {CX : CXT} {k n : Nat} {ps ks : List Str} {sp : Sp} {E : XK} {C : Addr} {x m qual : Str} {st : Stmt} {dvs : List V} {kvs : List (Str × V)} {p pos apos : Pos} {o e : Expr} {es : List Expr} {kws : List Keyword} {t tk : TA} {to : TE} {gV : List V → List V → List V}
theorem pe_me {pl : Sem Bool} (ho : PE X o to) (c : Cls X.K C) (G : MethOk X.prog X.w X.K X.mg X.base CX k C m qual st dvs kvs ps sp) (hr : Room k X.A) (hb : ∀ f fd, FD X.K m qual st dvs kvs f fd → KB X.K fd ps (n + 1) [] gV) (hx : Passes CX X E) (ha : PA X (e :: es) t)
    (hst : starEach (e :: es) X.env = (false, eval e X.env) :: starEach es X.env := by rfl) (hpl : (backTo pos (starEach es X.env)).any (·.1) = false := by rfl)
    (ht : eval (.Call (.Attribute o m apos) (e :: es) [] pos) X.env = (do
      let ov ← eval o X.env; standAt apos.atName
      let (f, first) ← holding [ov] (getMethod ov m pl)
      callWith pos f first (backTo pos (starEach (e :: es) X.env)) (backToKw pos (keywordEach [] X.env))) := by rfl) :
    PE X (.Call (.Attribute o m apos) (e :: es) [] pos) (tMe C m n sp gV E to t) := by
  obtain ⟨f, fd, F, hm, g⟩ := G
  refine ⟨fun pins s σ H Q I h => PySem.W.methodCall_KW (pl := pl) (thn (ho.run pins s σ H _ I h) fun u s1 z => ?_) ht⟩
  obtain ⟨x, H1, I1, rx, a, dx, fs, ex, ea, l, q⟩ := z
  subst ex
  cases rx
  refine getmeth_ok I1 ea c hm l (PySem.W.callWith_K (first := [.ref a]) (h₀ := X.base) I.ok.mod.kin hm.kp (thn (ha.run pos pins s1 σ H1 _ I1 q) fun us s2 z2 => ?_) hst hpl)
  obtain ⟨vs, H2, I2, r, l1, q2⟩ := z2
  exact ⟨I2.kIn, run_kb (us := .ref a :: us) (vs := .ref a :: vs) (ws := []) (zs := []) g hr (hb f fd F) hx I2 (.cons rfl r) .nil (congrArg Nat.succ l1) rfl q2⟩
theorem pe_me0 {pl : Sem Bool} (ho : PE X o to) (c : Cls X.K C) (G : MethOk X.prog X.w X.K X.mg X.base CX k C m qual st dvs kvs ps sp) (hr : Room k X.A) (hb : ∀ f fd, FD X.K m qual st dvs kvs f fd → KB X.K fd ps 1 [] gV) (hx : Passes CX X E)
    (ht : eval (.Call (.Attribute o m apos) [] [] pos) X.env = (do
      let ov ← eval o X.env; standAt apos.atName
      let (f, first) ← holding [ov] (getMethod ov m pl)
      callWith pos f first (backTo pos (starEach [] X.env)) (backToKw pos (keywordEach [] X.env))) := by rfl) :
    PE X (.Call (.Attribute o m apos) [] [] pos) (tMe C m 0 sp gV E to tNil) := by
  obtain ⟨f, fd, F, hm, g⟩ := G
  refine ⟨fun pins s σ H Q I h => PySem.W.methodCall_KW (pl := pl) (thn (ho.run pins s σ H _ I h) fun u s1 z => ?_) ht⟩
  obtain ⟨x, H1, I1, rx, a, dx, fs, ex, ea, l, l1, q⟩ := z
  subst ex
  cases rx
  exact getmeth_ok I1 ea c hm l (PySem.W.callWith_K0 (first := [.ref a]) I1.kIn hm.kp (run_kb (us := [.ref a]) (vs := [.ref a]) (ws := []) (zs := []) g hr (hb f fd F) hx I1 (.cons rfl .nil) .nil rfl rfl q))
theorem run_mkb {f : Addr} {fd : FuncData} {pins : List (Addr × Obj)} {σ : L2.St} {H : Hp} {s : Shared} {Q : VK} {us ws : List Value} {vs zs : List V} (M : Mk X.K C f) (F : FnOk X.prog X.w X.K X.mg X.base CX k f fd ps sp) (hr : Room (k + 1) X.A)
    (hb : KB X.K fd ps (n + 1) ks gV) (hx : Passes CX X E) (I : Inv X pins σ H s) (r : Vals vs us) (rz : Vals zs ws) (l1 : vs.length = n) (l2 : zs.length = ks.length)
    (h : ∀ x dx H', H x = none → Same H H' → H' x = some (.ins C dx []) → sp (gV (.ref x :: vs) zs) H' (fun v H3 => v = .non ∧ Q (.ref x) H3) E) :
    wpAny (model X.prog X.w) X.A (call (.ref C) us (ks.zip ws)) (EP X pins σ Q) X.xe s := by
  have n1 : H (s.heap.objs.size + 1) = none := I.hok.fresh (Nat.le_succ _)
  have n2 : H s.heap.objs.size = none := I.hok.fresh (Nat.le_refl _)
  have hq := h (s.heap.objs.size + 1) s.heap.objs.size (upd (upd H s.heap.objs.size (.own (s.heap.objs.size + 1))) (s.heap.objs.size + 1) (.ins C s.heap.objs.size [])) n1
    (same_upd (same_new n2) n1) upd_same
  have I2 := Inv.made (C := C) I
  have r1 : Vals (V.ref (s.heap.objs.size + 1) :: vs) (Value.ref (s.heap.objs.size + 1) :: us) := .cons rfl r
  obtain ⟨rs, b, r2⟩ := hb _ (Value.ref (s.heap.objs.size + 1) :: us) ws _ zs I2.kIn r1 rz (congrArg Nat.succ l1) l2
  refine wpAny_call (make_map (f := f) I.kIn M.makes M.init (beq_iff_eq.mp M.fn) (codeAny_mono (F.run _ X.stack _ _ ⟨Value.ref (s.heap.objs.size + 1) :: us, ks.zip ws⟩ rs _ _ E (hr.make C us (ks.zip ws)) (I2.env0.make C us (ks.zip ws)) b r2 hq) fun r s' z => ?_))
  match r, z with
  | .error e, z => exact hx pins σ _ _ e s' I2 z
  | .ok (.ret u), z =>
    obtain ⟨v, H', I3, rv, ev, q3⟩ := I2.after z
    subst ev
    exact ⟨rv, ⟨V.ref (s.heap.objs.size + 1), H', I3, rfl, q3⟩⟩
theorem pe_mk (G : InitOk X.prog X.w X.K X.mg X.base CX k C qual st dvs kvs ps sp) (hr : Room (k + 1) X.A) (hg : Gl X x) (hm : X.mg x = some (.ref C)) (hb : ∀ f fd, FD X.K "__init__" qual st dvs kvs f fd → KB X.K fd ps (n + 1) ks gV) (hx : Passes CX X E)
    (ha : PA X (e :: es) t) (hkw : PK X kws tk) (hall : (backToKw pos (keywordEach kws X.env)).all (·.1.isSome) = true := by rfl) (hks : (backToKw pos (keywordEach kws X.env)).filterMap (·.1) = ks := by rfl)
    (hdb : (x == ("__debug__" : Str)) = false := by decide) (he : starEach (e :: es) X.env = (false, eval e X.env) :: starEach es X.env := by rfl)
    (hpl : ((backTo pos (starEach (e :: es) X.env)).any (·.1) || (backToKw pos (keywordEach kws X.env)).any (·.1.isNone)) = false := by rfl) :
    PE X (.Call (.Name x p) (e :: es) kws pos) (tMk C n ks.length sp gV E t tk) := by
  obtain ⟨f, fd, F, M, g⟩ := G
  refine ⟨fun pins s σ H Q I h => wpAny_Call_Name_kw (ld_glob I hg hm ?_ hdb)⟩
  refine PySem.W.callWith_KW (h₀ := X.base) I.ok.mod.kin M.kp hall (thn (ha.run pos pins s σ H _ I h) fun us s1 ⟨vs, H1, I1, r, z⟩ => thn (hkw.run pos pins s1 σ H1 _ I1 z) fun ws s2 ⟨zs, H2, I2, rz, l1, l2, q2⟩ => ⟨I2.kIn, ?_⟩) hpl he
  rw [hks]
  exact run_mkb M g hr (hb f fd F) hx I2 r rz l1 l2 q2
theorem pe_mk0 (G : InitOk X.prog X.w X.K X.mg X.base CX k C qual st dvs kvs ps sp) (hr : Room (k + 1) X.A) (hg : Gl X x) (hm : X.mg x = some (.ref C)) (hb : ∀ f fd, FD X.K "__init__" qual st dvs kvs f fd → KB X.K fd ps 1 ks gV) (hx : Passes CX X E)
    (hkw : PK X kws tk) (hall : (backToKw pos (keywordEach kws X.env)).all (·.1.isSome) = true := by rfl) (hks : (backToKw pos (keywordEach kws X.env)).filterMap (·.1) = ks := by rfl)
    (hdb : (x == ("__debug__" : Str)) = false := by decide)
    (hpl : ((backTo pos (starEach [] X.env)).any (·.1) || (backToKw pos (keywordEach kws X.env)).any (·.1.isNone)) = false := by rfl) :
    PE X (.Call (.Name x p) [] kws pos) (tMk C 0 ks.length sp gV E tNil tk) := by
  obtain ⟨f, fd, F, M, g⟩ := G
  refine ⟨fun pins s σ H Q I h => wpAny_Call_Name_kw (ld_glob I hg hm ?_ hdb)⟩
  refine PySem.W.callWith_KW0 (h₀ := X.base) I.ok.mod.kin M.kp hall (thn (hkw.run pos pins s σ H _ I h) fun ws s2 ⟨zs, H2, I2, rz, l1, l2, q2⟩ => ⟨I2.kIn, ?_⟩) hpl
  rw [hks]
  exact run_mkb (us := []) (vs := []) M g hr (hb f fd F) hx I2 .nil rz rfl l2 q2
end
/-! ### fields -/
def FldQ (K : PySem.W.Frag) (f : Str) (x : V) (H : Hp) (Q : VK) : Prop := ∃ a C dx fs v, x = .ref a ∧ H a = some (.ins C dx fs) ∧ Cls K C ∧ NoAttr K C f ∧ fs.lookup f = some v ∧ Q v H
theorem tFld_rd {K : PySem.W.Frag} {ta : TE} {f : Str} {σ : L2.St} {H : Hp} {Q : VK} : tFld K ta f σ H Q = ta σ H fun x H1 => FldQ K f x H1 Q := rfl
def SetQ (K : PySem.W.Frag) (f : Str) (x y : V) (H : Hp) (R : Hp → Prop) : Prop := ∃ a C dx fs, x = .ref a ∧ H a = some (.ins C dx fs) ∧ Cls K C ∧ NoAttr K C f ∧ fs.length < 1000 ∧ R (upd H a (.ins C dx (putF f y fs)))
theorem sFld_rd {K : PySem.W.Frag} {ta tv : TE} {f : Str} {D : Ends} {σ : L2.St} {H : Hp} : sFld K ta tv f D σ H = tv σ H fun y H1 => ta σ H1 fun x H2 => SetQ K f x y H2 (D.nx σ) := rfl
section
variable {K : PySem.W.Frag} {f : Str} {a C dx : Addr} {fs fs' : List (Str × V)} {v y : V} {H : Hp} {Q : VK} {R : Hp → Prop}
theorem fldq_of (e : H a = some (.ins C dx fs)) (c : Cls K C) (n : NoAttr K C f) (l : fs.lookup f = some v) (q : Q v H) : FldQ K f (.ref a) H Q := ⟨a, C, dx, fs, v, rfl, e, c, n, l, q⟩
theorem setq_of (e : H a = some (.ins C dx fs)) (c : Cls K C) (n : NoAttr K C f) (hl : fs.length < 1000) (hf : putF f y fs = fs') (q : ∀ H', (∀ b, b ≠ a → H' b = H b) → H' a = some (.ins C dx fs') → R H') : SetQ K f (.ref a) y H R :=
  ⟨a, C, dx, fs, rfl, e, c, n, hl, q _ (fun _ hb => upd_ne hb) (by rw [upd_same, hf])⟩
end
theorem tyx_sqt {K : PySem.W.Frag} {H : Hp} {a : Addr} {xs : List V} (h : SqT K H a xs) : TyX K H (.ref a) (.type "tuple") := by
  rcases h with (h | ⟨o, h⟩) | ⟨o, its, n, h1, h2, _⟩
  · exact .base (.tup h)
  · exact .fTuple h
  · exact .kTuple h1 h2
theorem sqt_at {K : PySem.W.Frag} {H H' : Hp} {a : Addr} {xs : List V} (h : SqT K H a xs) (k : ∀ o, H a = some o → H' a = some o) : SqT K H' a xs := by
  rcases h with (h | ⟨o, h⟩) | h
  · exact .inl (.inl (k _ h))
  · exact .inl (.inr ⟨o, k _ h⟩)
  · exact .inr h
theorem noInt_sqt {K : PySem.W.Frag} {H : Hp} {a : Addr} {xs : List V} (h : SqT K H a xs) : NoInt K H (.ref a) := ⟨_, tyx_sqt h, kit_ty (by decide +kernel)⟩
/-! ### shapes and numbers -/
structure Sh where
  p : Int
  lo : Int
  hi : Int
def Sh.vs (s : Sh) : List V := [.int s.p, .int s.lo, .int s.hi]
structure Sh.Ok (s : Sh) : Prop where
  p1 : 2 ≤ s.p
  p2 : s.p ≤ 64
  l1 : -1100 ≤ s.lo
  l2 : s.lo ≤ 0
  h1 : s.lo ≤ s.hi
  h2 : s.hi ≤ 1000
structure Nm where
  sh : Sh
  side : Int
  bits : Int
  scale : Int
  st : Str
def Nm.fs (x : Nm) (t : Addr) : List (Str × V) := [("form", .ref t), ("side", .int x.side), ("bits", .int x.bits), ("scale", .int x.scale), ("state", .str x.st)]
/-- a finite number as it may be -/
structure Nm.Fin (x : Nm) : Prop where
  ok : x.sh.Ok
  s1 : 0 ≤ x.side
  s2 : x.side ≤ 1
  b1 : 0 ≤ x.bits
  b2 : x.bits < 2 ^ x.sh.p.toNat
  e1 : x.sh.lo ≤ x.scale
  e2 : x.scale ≤ x.sh.hi
  nm : x.sh.lo < x.scale → 2 ^ (x.sh.p - 1).toNat ≤ x.bits
  st : x.st = "finite"
/-- any number as it may be -/
inductive Nm.Ok (x : Nm) : Prop where
  | fin (h : x.Fin)
  | inf (h : x.sh.Ok) (s1 : 0 ≤ x.side) (s2 : x.side ≤ 1) (b : x.bits = 0) (e : x.scale = x.sh.lo) (st : x.st = "infinite")
  | nan (h : x.sh.Ok) (s : x.side = 0) (b : x.bits = 0) (e : x.scale = x.sh.lo) (st : x.st = "nan")
def IsNum (K : PySem.W.Frag) (C : Addr) (H : Hp) (a : Addr) (x : Nm) : Prop := ∃ dx t, H a = some (.ins C dx (x.fs t)) ∧ SqT K H t x.sh.vs
theorem IsNum.same {K : PySem.W.Frag} {C a : Addr} {H H' : Hp} {x : Nm} (h : IsNum K C H a x) (s : Same H H') : IsNum K C H' a x := by
  obtain ⟨dx, t, e1, e2⟩ := h
  exact ⟨dx, t, s _ _ e1, same_tup s e2⟩
theorem IsNum.but {K : PySem.W.Frag} {C a m l : Addr} {H H' : Hp} {b : Nat} {x : Nm} (h : IsNum K C H a x) (s : But m l H H') (d : Drw H m l b) : IsNum K C H' a x := by
  obtain ⟨dx, t, e1, e2⟩ := h
  refine ⟨dx, t, s.at d e1 (fun _ z => by cases z) (fun _ z => by cases z), ?_⟩
  rcases e2 with (h | ⟨o, h⟩) | h
  · exact .inl (.inl (s.at d h (fun _ z => by cases z) (fun _ z => by cases z)))
  · exact .inl (.inr ⟨o, s.at d h (fun _ z => by cases z) (fun _ z => by cases z)⟩)
  · exact .inr h
/-- what the text has of the class of numbers -/
structure NumCls (K : PySem.W.Frag) (C : Addr) : Prop where
  c : Cls K C
  n_form : NoAttr K C "form"
  n_side : NoAttr K C "side"
  n_bits : NoAttr K C "bits"
  n_scale : NoAttr K C "scale"
  n_state : NoAttr K C "state"
section
variable {K : PySem.W.Frag} {C a : Addr} {H : Hp} {x : Nm} {Q : VK}
theorem IsNum.form (h : IsNum K C H a x) (c : NumCls K C) (q : ∀ t, SqT K H t x.sh.vs → Q (.ref t) H) : FldQ K "form" (.ref a) H Q := by
  obtain ⟨dx, t, e1, e2⟩ := h
  exact fldq_of e1 c.c c.n_form rfl (q t e2)
theorem IsNum.side (h : IsNum K C H a x) (c : NumCls K C) (q : Q (.int x.side) H) : FldQ K "side" (.ref a) H Q := by
  obtain ⟨dx, t, e1, e2⟩ := h
  exact fldq_of e1 c.c c.n_side rfl q
theorem IsNum.bits (h : IsNum K C H a x) (c : NumCls K C) (q : Q (.int x.bits) H) : FldQ K "bits" (.ref a) H Q := by
  obtain ⟨dx, t, e1, e2⟩ := h
  exact fldq_of e1 c.c c.n_bits rfl q
theorem IsNum.scale (h : IsNum K C H a x) (c : NumCls K C) (q : Q (.int x.scale) H) : FldQ K "scale" (.ref a) H Q := by
  obtain ⟨dx, t, e1, e2⟩ := h
  exact fldq_of e1 c.c c.n_scale rfl q
theorem IsNum.state (h : IsNum K C H a x) (c : NumCls K C) (q : Q (.str x.st) H) : FldQ K "state" (.ref a) H Q := by
  obtain ⟨dx, t, e1, e2⟩ := h
  exact fldq_of e1 c.c c.n_state rfl q
/-- a method is called -/
theorem IsNum.me {m : Str} {n : Nat} {sp : Sp} {gV : List V → List V → List V} {E : XK} {t : TA} {σ : L2.St} (h : IsNum K C H a x) (hm : ∀ t, (x.fs t).lookup m = none) (q : t σ H fun vs H2 => vs.length = n ∧ sp (gV (.ref a :: vs) []) H2 Q E) :
    ∃ a' dx fs, V.ref a = .ref a' ∧ H a' = some (.ins C dx fs) ∧ fs.lookup m = none ∧ t σ H fun vs H2 => vs.length = n ∧ sp (gV (.ref a' :: vs) []) H2 Q E := by
  obtain ⟨dx, t', e1, e2⟩ := h
  exact ⟨a, dx, _, rfl, e1, hm t', q⟩
end
def MeQ (C : Addr) (m : Str) (x : V) (H : Hp) (R : V → Prop) : Prop := ∃ a dx fs, x = .ref a ∧ H a = some (.ins C dx fs) ∧ fs.lookup m = none ∧ R (.ref a)
theorem tMe_rd {C : Addr} {m : Str} {n : Nat} {sp : Sp} {gV : List V → List V → List V} {E : XK} {to : TE} {t : TA} {σ : L2.St} {H : Hp} {Q : VK} :
    tMe C m n sp gV E to t σ H Q = to σ H fun x H1 => MeQ C m x H1 fun a => t σ H1 fun vs H2 => vs.length = n ∧ sp (gV (a :: vs) []) H2 Q E := rfl
theorem IsNum.meq {K : PySem.W.Frag} {C a : Addr} {H : Hp} {x : Nm} {m : Str} {R : V → Prop} (h : IsNum K C H a x) (hm : ∀ t, (x.fs t).lookup m = none) (q : R (.ref a)) : MeQ C m (.ref a) H R := by
  obtain ⟨dx, t', e1, e2⟩ := h
  exact ⟨a, dx, _, rfl, e1, hm t', q⟩
section
variable {K : PySem.W.Frag} {C : Addr} {m qual : Str} {st : Stmt} {f : Addr} {oc dV : Value} {od an : Option Addr} {osl : Array (Option Value)} {kV doc pm cdv ct : Value} {dvs : List V} {kws : List (Str × V)}
theorem MethAt.mk (a : PySem.W.findIn K (.ref C) m = some (some (.ref f))) (i : PySem.W.isFn K (.ref f) = true)
    (l : K.lookup f = some ⟨oc, od, .func (PySem.W.fnOf m qual (defArgs st) (defBody st) (defScope st) dV kV doc pm an cdv ct), osl⟩) (c : PySem.W.codeIn K cdv qual = true) (k : PySem.W.keepIn K (.ref f) = true)
    (d : DflV K dV dvs) (w : KwdV K kV kws) : MethAt K C m qual st dvs kws := ⟨f, _, ⟨⟨oc, od, dV, kV, doc, pm, an, cdv, ct, osl, rfl, l, c, d, w⟩, k⟩, ⟨a, i, k⟩⟩
theorem InitAt.mk (a : PySem.W.findIn K (.ref C) "__init__" = some (some (.ref f))) (i : PySem.W.isFn K (.ref f) = true) (mk : PySem.W.makesIn K C = true) (kC : PySem.W.keepIn K (.ref C) = true)
    (l : K.lookup f = some ⟨oc, od, .func (PySem.W.fnOf "__init__" qual (defArgs st) (defBody st) (defScope st) dV kV doc pm an cdv ct), osl⟩) (c : PySem.W.codeIn K cdv qual = true) (k : PySem.W.keepIn K (.ref f) = true)
    (d : DflV K dV dvs) (w : KwdV K kV kws) : InitAt K C qual st dvs kws := ⟨f, _, ⟨⟨oc, od, dV, kV, doc, pm, an, cdv, ct, osl, rfl, l, c, d, w⟩, k⟩, ⟨mk, a, i, kC⟩⟩
theorem Cls.mk' (a : PySem.W.plainGet K C Str.empty = true) (b : PySem.W.hasDictIn K C = true) (c : PySem.W.plainOver K C = true) (d : PySem.W.findIn K (.ref C) "__setattr__" = some (some (.builtin "object.__setattr__"))) : Cls K C := ⟨a, b, c, d⟩
theorem kt_mk {T : Addr} {e1 : Option Addr} {its : List Value} {n : Nat} {sl : Array (Option Value)} {xs : List V} (l : K.lookup T = some ⟨.type "tuple", e1, .seq its.toArray n, sl⟩) (hz : its.length ≤ 1000) (r : Vals xs its) : ∀ H, SqT K H T xs := fun H =>
  .inr ⟨_, its.toArray, n, l, rfl, rfl, by rw [List.size_toArray]; exact size_le (by omega), by simpa using r⟩
end
/-! ### whole numbers -/
def absI (i : Int) : Int := if i < 0 then -i else i
theorem dd_iff {a b : Prop} [Decidable a] [Decidable b] (h : a ↔ b) : decide (decide a = decide b) = true := decide_eq_true (by
  by_cases z : a
  · rw [decide_eq_true z, decide_eq_true (h.mp z)]
  · rw [decide_eq_false z, decide_eq_false (fun y => z (h.mpr y))])
theorem wholeOf_parts (n : Int) {d : Int} (h : 0 < d) : ∃ q r, n = d * q + r ∧ 0 ≤ r ∧ r < d ∧ n / d = q ∧ n % d = r :=
  ⟨n / d, n % d, (Int.mul_ediv_add_emod n d).symm, Int.emod_nonneg _ (by omega), Int.emod_lt_of_pos _ h, rfl, rfl⟩
theorem parts_neg {n d q r : Int} (h : 0 < d) (e : n = d * q + r) (h0 : 0 ≤ r) (h1 : r < d) : (-n) / d = (if r = 0 then -q else -q - 1) ∧ (-n) % d = (if r = 0 then 0 else d - r) := by
  have key : ∀ q' r', -n = d * q' + r' → 0 ≤ r' → r' < d → (-n) / d = q' ∧ (-n) % d = r' := fun q' r' e' a b => by
    have e2 : -n = r' + d * q' := by omega
    constructor
    · rw [e2, Int.add_mul_ediv_left _ _ (by omega), Int.ediv_eq_zero_of_lt a b, Int.zero_add]
    · rw [e2, Int.add_mul_emod_self_left, Int.emod_eq_of_lt a b]
  by_cases z : r = 0
  · rw [if_pos z, if_pos z]
    refine key _ _ ?_ (by omega) (by omega)
    rw [e, Int.mul_neg]
    omega
  · rw [if_neg z, if_neg z]
    refine key _ _ ?_ (by omega) (by omega)
    rw [e, Int.mul_sub, Int.mul_neg]
    omega
theorem size3000 {n : Int} (h1 : -(10 ^ 3000) < n) (h2 : n < 10 ^ 3000) : n.natAbs < 2 ^ 10000 := by
  have e : n.natAbs < 10 ^ 3000 := by
    have e2 : ((10 ^ 3000 : Nat) : Int) = 10 ^ 3000 := by rw [Int.natCast_pow]; rfl
    generalize (10 : Int) ^ 3000 = B at h1 h2 e2
    generalize (10 : Nat) ^ 3000 = C at e2 ⊢
    omega
  exact Nat.lt_of_lt_of_le e (by decide +kernel)
theorem map_str {l : List Str} {i : Nat} {x : V} (h : (l.map V.str)[i]? = some x) : ∃ z, l[i]? = some z ∧ x = .str z := by
  rw [List.getElem?_map] at h
  cases e : l[i]? with
  | none =>
    rw [e] at h
    cases h
  | some z =>
    rw [e] at h
    exact ⟨z, rfl, (Option.some.inj h).symm⟩
theorem p2 (n : Nat) : (0 : Int) < 2 ^ n := PySem.W.kbt_pos n
theorem p2_add (a b : Nat) : (2 : Int) ^ (a + b) = 2 ^ a * 2 ^ b := Int.pow_add ..
/-- both sides by 2 ^ N -/
theorem by_pow {d s o : Int} {N : Nat} (h : 0 ≤ o + N) : d * 2 ^ o.toNat ≤ s * 2 ^ (-o).toNat ↔ d * 2 ^ (o + N).toNat ≤ s * 2 ^ N := by
  rcases Int.lt_or_le o 0 with z | z
  · have e1 : o.toNat = 0 := by omega
    have e2 : N = (-o).toNat + (o + N).toNat := by omega
    rw [e1, Int.pow_zero, Int.mul_one]
    conv => rhs; rw [e2]
    rw [p2_add, ← Int.mul_assoc, show ((o : Int) + (((-o).toNat + (o + (N : Int)).toNat : Nat) : Int)).toNat = (o + N).toNat by omega]
    exact ⟨fun x => Int.mul_le_mul_of_nonneg_right x (Int.le_of_lt (p2 _)), fun x => Int.le_of_mul_le_mul_right x (p2 _)⟩
  · have e1 : (-o).toNat = 0 := by omega
    have e2 : (o + N).toNat = o.toNat + N := by omega
    rw [e1, Int.pow_zero, Int.mul_one, e2, p2_add, ← Int.mul_assoc]
    exact ⟨fun x => Int.mul_le_mul_of_nonneg_right x (Int.le_of_lt (p2 _)), fun x => Int.le_of_mul_le_mul_right x (p2 _)⟩
theorem by_pow' {d s o : Int} {N : Nat} (h : 0 ≤ o + N) : s * 2 ^ (-o).toNat < d * 2 ^ o.toNat ↔ s * 2 ^ N < d * 2 ^ (o + N).toNat := by
  have k := by_pow (d := d) (s := s) h
  constructor
  · intro x
    rcases Int.lt_or_le (s * 2 ^ N) (d * 2 ^ (o + N).toNat) with z | z
    · exact z
    · have := k.mpr z
      omega
  · intro x
    rcases Int.lt_or_le (s * 2 ^ (-o).toNat) (d * 2 ^ o.toNat) with z | z
    · exact z
    · have := k.mp z
      omega
theorem bits_spec {i : Int} (h : 0 < i) : ∃ k : Nat, Builtin.Int.intBits i = k + 1 ∧ 2 ^ k ≤ i ∧ i < 2 ^ (k + 1) := by
  refine ⟨i.natAbs.log2, ?_, ?_, ?_⟩
  · unfold Builtin.Int.intBits
    rw [if_neg (show ¬ (i == 0) = true by simpa using (show i ≠ 0 by omega))]
  · have z := (Nat.le_log2 (show i.natAbs ≠ 0 by omega)).mp (Nat.le_refl i.natAbs.log2)
    have e : ((2 ^ i.natAbs.log2 : Nat) : Int) = 2 ^ i.natAbs.log2 := PySem.W.kbt_cast _
    omega
  · have z := (Nat.log2_lt (show i.natAbs ≠ 0 by omega)).mp (Nat.lt_succ_self i.natAbs.log2)
    have e : ((2 ^ (i.natAbs.log2 + 1) : Nat) : Int) = 2 ^ (i.natAbs.log2 + 1) := PySem.W.kbt_cast _
    have z2 : i.natAbs < 2 ^ (i.natAbs.log2 + 1) := z
    omega
theorem absI_pos {n : Int} (h : n ≠ 0) : 0 < absI n := by
  unfold absI
  split <;> omega
theorem absI_nat (n : Int) : (absI n).natAbs = n.natAbs := by
  unfold absI
  split <;> omega
theorem pow_le_one (n : Nat) : (1 : Int) ≤ 2 ^ n := by
  have := p2 n
  omega
theorem p2_mono {a b : Nat} (h : a ≤ b) : (2 : Int) ^ a ≤ 2 ^ b := by
  obtain ⟨c, rfl⟩ := Nat.le.dest h
  rw [p2_add]
  have h1 := p2 a
  have h2 := Int.mul_le_mul_of_nonneg_left (pow_le_one c) (Int.le_of_lt h1)
  omega
/-- the first of two, what follows a letter -/
theorem seq_gen {a b : TS} {D : Ends} {σ : L2.St} {H : Hp} (h : ∀ R : L2.St → Hp → Prop, (∀ σ' H', b D σ' H' → R σ' H') → a { D with nx := R } σ H) : tSeq a b D σ H := h _ fun _ _ x => x
theorem Drw.new {H : Hp} {m l p : Addr} {b : Nat} (d : Drw H m l b) (hp : H p = none) : p ≠ l := by
  obtain ⟨xs, e⟩ := d.l
  exact neR e hp
/-- some item of a list, a tuple -/
theorem ixl_any {K : PySem.W.Frag} {H : Hp} {p : Addr} {xs : List V} {i : Int} {Q : VK} (h : SqL K H p xs) (h0 : 0 ≤ i) (h1 : i < xs.length) (q : ∀ v ∈ xs, Q v H) : rIxL K (.ref p) (.int i) H Q := by
  have hj : i.toNat < xs.length := by omega
  have e := atI_nat (List.getElem?_eq_getElem hj)
  rw [show ((i.toNat : Nat) : Int) = i by omega] at e
  exact ixl_of h e (q _ (List.getElem_mem hj))
theorem ixt_any {K : PySem.W.Frag} {H : Hp} {p : Addr} {xs : List V} {i : Int} {Q : VK} (h : SqT K H p xs) (h0 : 0 ≤ i) (h1 : i < xs.length) (q : ∀ v ∈ xs, Q v H) : rIxT K (.ref p) (.int i) H Q := by
  have hj : i.toNat < xs.length := by omega
  have e := atI_nat (List.getElem?_eq_getElem hj)
  rw [show ((i.toNat : Nat) : Int) = i by omega] at e
  exact ixt_of h e (q _ (List.getElem_mem hj))
theorem all1 {p : V → Prop} {a : V} (ha : p a) : ∀ v ∈ [a], p v := fun v h => by
  rcases List.mem_cons.mp h with rfl | h
  · exact ha
  · cases h
theorem allc {p : V → Prop} {a : V} {l : List V} (ha : p a) (h : ∀ v ∈ l, p v) : ∀ v ∈ a :: l, p v := fun v z => by
  rcases List.mem_cons.mp z with rfl | z
  · exact ha
  · exact h v z
def minI (a b : Int) : Int := if b < a then b else a
def maxI (a b : Int) : Int := if b > a then b else a
theorem ixl_ints {K : PySem.W.Frag} {H : Hp} {p : Addr} (ns : List Int) {i : Int} {Q : VK} (h : SqL K H p (ns.map V.int)) (h0 : 0 ≤ i) (h1 : i < ns.length) (q : ∀ x ∈ ns, Q (.int x) H) : rIxL K (.ref p) (.int i) H Q := by
  obtain ⟨x, _, hm, e⟩ := ix_int h0 h1
  exact ixl_of h e (q x hm)
section
variable {K : PySem.W.Frag} {H : Hp} {a b : Addr} {xs ys : List V} {Q : VK}
theorem catT_of (ha : SqT K H a xs) (hb : SqT K H b ys) (hx : xs ≠ []) (hy : ys ≠ []) (hz : xs.length + ys.length ≤ 100000) (q : ∀ p H', H p = none → Same H H' → H' p = some (.tup (xs ++ ys)) → Q (.ref p) H') : rCatT K (.ref a) (.ref b) H Q :=
  ⟨a, b, xs, ys, rfl, rfl, ha, hb, hx, size_le hz, fun e => absurd e hy, fun _ p hp => q p _ hp (same_new hp) upd_same⟩
theorem slT_of {lo hi : Option Int} (h : SqT K H a xs) (hw : ¬ (HT.sIx xs.length 0 lo = 0 ∧ HT.sIx xs.length xs.length hi = xs.length)) (e : cutV xs lo hi = ys) (q : ∀ p H', H p = none → Same H H' → H' p = some (.tup ys) → Q (.ref p) H') : rSlT K (.ref a) lo hi H Q :=
  ⟨a, xs, rfl, h, hw, fun p hp => q p _ hp (same_new hp) (by rw [upd_same, e])⟩
end
def infN (sh : Sh) (side : Int) : Nm := ⟨sh, side, 0, sh.lo, "infinite"⟩
def finN (sh : Sh) (side bits scale : Int) : Nm := ⟨sh, side, bits, scale, "finite"⟩
theorem fin_zero {sh : Sh} (h : sh.Ok) {side : Int} (s1 : 0 ≤ side) (s2 : side ≤ 1) : (finN sh side 0 sh.lo).Fin :=
  ⟨h, s1, s2, Int.le_refl _, Int.pow_pos (by decide), Int.le_refl _, h.h1, fun z => absurd z (Int.lt_irrefl _), rfl⟩
theorem shl_small {i j : Int} (h0 : 0 ≤ j) (h1 : j ≤ 100000) (hi : i.natAbs < 2 ^ 100000) : CShl i j := by
  obtain ⟨k, rfl⟩ := Int.eq_ofNat_of_zero_le h0
  exact shl_ok (n := 100000) hi (by omega)
theorem small_nat {i : Int} (h : i.natAbs < 2 ^ 64) : i.natAbs < 2 ^ 100000 := Nat.lt_of_lt_of_le h (Nat.pow_le_pow_right (n := 2) (i := 64) (j := 100000) (by decide) (by decide))
def greatN (sh : Sh) (side : Int) : Nm := finN sh side (2 ^ sh.p.toNat - 1) sh.hi
theorem shl_big {i j : Int} (h0 : 0 ≤ j) (h1 : j ≤ 1000000) (hi : i.natAbs < 2 ^ 100000) : CShl i j := by
  obtain ⟨k, rfl⟩ := Int.eq_ofNat_of_zero_le h0
  exact shl_ok (n := 100000) hi (by omega)
theorem bits_mono {a b : Int} {k : Nat} (ha : 0 ≤ a) (hb : 0 < b) (h : a < 2 ^ k * b) : Builtin.Int.intBits a ≤ Builtin.Int.intBits b + k := by
  obtain ⟨j, e1, e2, e3⟩ := bits_spec hb
  rw [e1]
  refine PyProof.Rows.intBits_le (k := j + 1 + k) ?_
  have : 2 ^ k * b < 2 ^ k * 2 ^ (j + 1) := Int.mul_lt_mul_of_pos_left e3 (p2 _)
  rw [← p2_add] at this
  have e : ((2 ^ (j + 1 + k) : Nat) : Int) = 2 ^ (k + (j + 1)) := by
    rw [PySem.W.kbt_cast]
    congr 1
    omega
  omega
theorem bits_neg (a : Int) : Builtin.Int.intBits (-a) = Builtin.Int.intBits a := by
  unfold Builtin.Int.intBits
  rw [Int.natAbs_neg]
  by_cases h : a = 0
  · subst h
    rfl
  · rw [if_neg (show ¬ (-a == 0) = true by simpa using h), if_neg (show ¬ (a == 0) = true by simpa using h)]
theorem nat_shl {i : Int} {a k : Nat} (h : i.natAbs < 2 ^ a) : (i * 2 ^ k).natAbs < 2 ^ (a + k) := by
  rw [Int.natAbs_mul, Int.natAbs_pow, Nat.pow_add]
  exact Nat.mul_lt_mul_of_pos_right h (Nat.pow_pos (by decide))
theorem app_of {H : Hp} {p : Addr} {xs : List V} {y : V} {Q : VK} (e : H p = some (.lst xs)) (hz : xs.length ≤ 99999) (q : ∀ H', (∀ b, b ≠ p → H' b = H b) → H' p = some (.lst (xs ++ [y])) → Q .non H') : rAppend (.ref p) [y] H Q :=
  ⟨p, xs, y, rfl, rfl, e, size_lt (by omega), q _ (fun _ hb => upd_ne hb) upd_same⟩
/-- another list changed -/
theorem Drw.put {H H' : Hp} {m l p : Addr} {b : Nat} {xs : List V} (d : Drw H m l b) (e : H p = some (.lst xs)) (hx : xs.length ≠ 64) (hl : p ≠ l) (k : ∀ b, b ≠ p → H' b = H b) : Drw H' m l b := by
  obtain ⟨c, i, cs, ls, e1, e2, e3, e4, e5, e6, e7⟩ := d
  have n1 : m ≠ p := ne_of e1 e (by intro z; cases z)
  have n2 : c ≠ p := by
    intro z
    rw [z, e] at e2
    injection e2 with e2
    injection e2 with e2
    rw [e2, List.length_map] at hx
    exact hx e6
  exact ⟨c, i, cs, ls, by rw [k m n1]; exact e1, by rw [k c n2]; exact e2, by rw [k l (Ne.symm hl)]; exact e3, e4, e5, e6, e7⟩
end DW
namespace DW
open PySem PySem.Spec PyProof.Rows L2
local macro_rules | `(tactic| walk_at "rd") => `(tactic| try simp only [tSeq, tAsg, gName, tPar, tPar3, tCons, tNil, tC, tVar, tOp, tTest, rI0, rI, rEq, rNe, scal, tIfS, tNext, tRet, tRetN, tAug, tDrop, tUn, rU, tIf, tAnd, tOr, tNot, tAndV, tOrV, tNotV, tChain, tB, tTup, tLst, tTupA, tLstA, tCB, tCl, tNever, gTup, gCons, gNil, ipI, rIsB, rNotB, cxK, tFor_rd, tLc_rd, wipe, tDisp, tPairs, tBits, tDGet, sDPut, tFld_rd, sFld_rd, tMe_rd, tMk, tYes, tSl, tPart, tNoPart, tBM, gSub, iRng1, iRng2, iList, iTup, iEnum, iZip,
  L2.start, List.map_cons, List.map_nil, List.length_cons, List.length_nil, List.replicate, Nat.reduceAdd, Nat.reduceSub, List.cons_append, List.nil_append, List.getElem?_cons_zero, List.getElem?_cons_succ, List.set_cons_zero, List.set_cons_succ,
  Option.some.injEq, V.int.injEq, V.str.injEq, V.bl.injEq, V.ref.injEq, List.cons.injEq, exists_eq_left, exists_eq_left', exists_eq, exists_eq', exists_false, exists_and_left, and_assoc, and_true, true_and, false_and, and_false, false_or, or_false, true_or, or_true, decide_eq_true_eq, decide_true, decide_false, Bool.not_eq_true', Bool.not_eq_true, decide_eq_false_iff_not, Int.one_mul, if_true, if_false, ite_true, ite_false, Bool.false_eq_true, Bool.not_true, Bool.not_false, reduceCtorEq, reduceIte, CPow, Int.reduceLE, Int.reduceLT, Int.reduceAbs, Nat.reducePow, Nat.reduceLT, Int.reduceToNat, Int.reducePow, Int.reduceNeg])
def topS (i : Nat) : Stmt := PySem.Challenge.pw_digitway_k26_whole_what_a_sum_loses.main.body.getD i (.Pass ⟨0, 0, 0, 0⟩)
abbrev s__law_folded : Stmt := topS 34
abbrev N__law_folded : List Str := ["_law_script", "_law_found", "_law_k", "_law_cell"]
theorem sc__law_folded : FnScope N__law_folded ["_law_script"] (defScope s__law_folded) := ⟨rfl, rfl, rfl, by decide +kernel, rfl, by decide +kernel, by decide +kernel⟩

abbrev s__law_begun : Stmt := topS 36
abbrev N__law_begun : List Str := ["_law_script", "_law_m", "_law_cell"]
theorem sc__law_begun : FnScope N__law_begun ["_law_script"] (defScope s__law_begun) := ⟨rfl, rfl, rfl, by decide +kernel, rfl, by decide +kernel, by decide +kernel⟩

abbrev s__law_mixed : Stmt := topS 33
abbrev N__law_mixed : List Str := ["_law_cell", "_law_k", "_law_turned"]
theorem sc__law_mixed : FnScope N__law_mixed ["_law_cell", "_law_k"] (defScope s__law_mixed) := ⟨rfl, rfl, rfl, by decide +kernel, rfl, by decide +kernel, by decide +kernel⟩

abbrev s__law_draw : Stmt := topS 35
abbrev N__law_draw : List Str := ["_law_m", "_law_top", "_law_k", "_law_spot", "_law_cell"]
theorem sc__law_draw : FnScope N__law_draw ["_law_m", "_law_top"] (defScope s__law_draw) := ⟨rfl, rfl, rfl, by decide +kernel, rfl, by decide +kernel, by decide +kernel⟩

abbrev s__law_small_form : Stmt := topS 38
abbrev N__law_small_form : List Str := ["_law_m", "_law_low"]
theorem sc__law_small_form : FnScope N__law_small_form ["_law_m"] (defScope s__law_small_form) := ⟨rfl, rfl, rfl, by decide +kernel, rfl, by decide +kernel, by decide +kernel⟩

abbrev s__law_form : Stmt := topS 39
abbrev N__law_form : List Str := ["_law_m", "_law_road", "_law_low"]
theorem sc__law_form : FnScope N__law_form ["_law_m"] (defScope s__law_form) := ⟨rfl, rfl, rfl, by decide +kernel, rfl, by decide +kernel, by decide +kernel⟩

abbrev s__law_great : Stmt := topS 37
abbrev N__law_great : List Str := ["_law_m", "_law_top", "_law_found", "_law_room"]
theorem sc__law_great : FnScope N__law_great ["_law_m", "_law_top"] (defScope s__law_great) := ⟨rfl, rfl, rfl, by decide +kernel, rfl, by decide +kernel, by decide +kernel⟩

abbrev s__law_parts : Stmt := topS 40
abbrev N__law_parts : List Str := ["_law_m", "_law_form_here", "_law_precision", "_law_low", "_law_high", "_law_full", "_law_side", "_law_road", "_law_scale", "_law_near"]
theorem sc__law_parts : FnScope N__law_parts ["_law_m", "_law_form_here"] (defScope s__law_parts) := ⟨rfl, rfl, rfl, by decide +kernel, rfl, by decide +kernel, by decide +kernel⟩

abbrev s__law_near_parts : Stmt := topS 44
abbrev N__law_near_parts : List Str := ["_law_m", "_law_form_here", "_law_parts_here", "_law_full", "_law_scale", "_law_bits"]
theorem sc__law_near_parts : FnScope N__law_near_parts ["_law_m", "_law_form_here", "_law_parts_here"] (defScope s__law_near_parts) := ⟨rfl, rfl, rfl, by decide +kernel, rfl, by decide +kernel, by decide +kernel⟩

abbrev s__law_sum : Stmt := topS 42
abbrev N__law_sum : List Str := ["_law_one_parts", "_law_other_parts", "_law_least", "_law_found", "_law_side", "_law_bits", "_law_scale"]
theorem sc__law_sum : FnScope N__law_sum ["_law_one_parts", "_law_other_parts"] (defScope s__law_sum) := ⟨rfl, rfl, rfl, by decide +kernel, rfl, by decide +kernel, by decide +kernel⟩

abbrev s__law_fraction : Stmt := topS 43
abbrev N__law_fraction : List Str := ["_law_size", "_law_scale"]
theorem sc__law_fraction : FnScope N__law_fraction ["_law_size", "_law_scale"] (defScope s__law_fraction) := ⟨rfl, rfl, rfl, by decide +kernel, rfl, by decide +kernel, by decide +kernel⟩

abbrev s_raised : Stmt := topS 11
abbrev N_raised : List Str := ["base", "many", "found", "piece", "left"]
theorem sc_raised : FnScope N_raised ["base", "many"] (defScope s_raised) := ⟨rfl, rfl, rfl, by decide +kernel, rfl, by decide +kernel, by decide +kernel⟩

abbrev s_is_whole : Stmt := topS 9
abbrev N_is_whole : List Str := ["thing", "least", "most"]
theorem sc_is_whole : FnScope N_is_whole ["thing", "least", "most"] (defScope s_is_whole) := ⟨rfl, rfl, rfl, by decide +kernel, rfl, by decide +kernel, by decide +kernel⟩

abbrev s_need_fraction : Stmt := topS 27
abbrev N_need_fraction : List Str := ["numerator", "denominator", "most"]
theorem sc_need_fraction : FnScope N_need_fraction ["numerator", "denominator"] (defScope s_need_fraction) := ⟨rfl, rfl, rfl, by decide +kernel, rfl, by decide +kernel, by decide +kernel⟩

abbrev s_is_shape : Stmt := topS 10
abbrev N_is_shape : List Str := ["thing"]
theorem sc_is_shape : FnScope N_is_shape ["thing"] (defScope s_is_shape) := ⟨rfl, rfl, rfl, by decide +kernel, rfl, by decide +kernel, by decide +kernel⟩

abbrev s_is_way : Stmt := topS 25
abbrev N_is_way : List Str := ["thing"]
theorem sc_is_way : FnScope N_is_way ["thing"] (defScope s_is_way) := ⟨rfl, rfl, rfl, by decide +kernel, rfl, by decide +kernel, by decide +kernel⟩

abbrev s_Number___init__ : Stmt := inClass (topS 14) 0
abbrev N_Number___init__ : List Str := ["self", "shape", "sign", "significand", "exponent", "precision", "low", "high", "scale"]
theorem sc_Number___init__ : FnScope N_Number___init__ ["self", "shape", "sign", "significand", "exponent"] (defScope s_Number___init__) := ⟨rfl, rfl, rfl, by decide +kernel, rfl, by decide +kernel, by decide +kernel⟩

abbrev s_halvings_in : Stmt := topS 28
abbrev N_halvings_in : List Str := ["size", "denominator", "many", "reached"]
theorem sc_halvings_in : FnScope N_halvings_in ["size", "denominator"] (defScope s_halvings_in) := ⟨rfl, rfl, rfl, by decide +kernel, rfl, by decide +kernel, by decide +kernel⟩

abbrev s_whole_of : Stmt := topS 26
abbrev N_whole_of : List Str := ["numerator", "denominator", "way", "whole", "rest"]
theorem sc_whole_of : FnScope N_whole_of ["numerator", "denominator", "way"] (defScope s_whole_of) := ⟨rfl, rfl, rfl, by decide +kernel, rfl, by decide +kernel, by decide +kernel⟩

abbrev s_greatest : Stmt := topS 16
abbrev N_greatest : List Str := ["shape", "sign"]
theorem sc_greatest : FnScope N_greatest ["shape", "sign"] (defScope s_greatest) := ⟨rfl, rfl, rfl, by decide +kernel, rfl, by decide +kernel, by decide +kernel⟩

abbrev s_infinite : Stmt := topS 15
abbrev N_infinite : List Str := ["shape", "sign", "found"]
theorem sc_infinite : FnScope N_infinite ["shape", "sign"] (defScope s_infinite) := ⟨rfl, rfl, rfl, by decide +kernel, rfl, by decide +kernel, by decide +kernel⟩

abbrev s_overflown : Stmt := topS 29
abbrev N_overflown : List Str := ["shape", "way", "side"]
theorem sc_overflown : FnScope N_overflown ["shape", "way", "side"] (defScope s_overflown) := ⟨rfl, rfl, rfl, by decide +kernel, rfl, by decide +kernel, by decide +kernel⟩

abbrev s_rounded_so : Stmt := topS 30
abbrev N_rounded_so : List Str := ["numerator", "denominator", "shape", "way", "sign", "precision", "low", "high", "side", "size", "order", "scale", "over", "under", "bits", "flags"]
theorem sc_rounded_so : FnScope N_rounded_so ["numerator", "denominator", "shape", "way", "sign"] (defScope s_rounded_so) := ⟨rfl, rfl, rfl, by decide +kernel, rfl, by decide +kernel, by decide +kernel⟩

abbrev s_rounded : Stmt := topS 31
abbrev N_rounded : List Str := ["numerator", "denominator", "shape", "way", "sign"]
theorem sc_rounded : FnScope N_rounded ["numerator", "denominator", "shape", "way", "sign"] (defScope s_rounded) := ⟨rfl, rfl, rfl, by decide +kernel, rfl, by decide +kernel, by decide +kernel⟩

abbrev s_Number_kind : Stmt := inClass (topS 14) 3
abbrev N_Number_kind : List Str := ["self"]
theorem sc_Number_kind : FnScope N_Number_kind ["self"] (defScope s_Number_kind) := ⟨rfl, rfl, rfl, by decide +kernel, rfl, by decide +kernel, by decide +kernel⟩

abbrev s_Number_sign : Stmt := inClass (topS 14) 2
abbrev N_Number_sign : List Str := ["self"]
theorem sc_Number_sign : FnScope N_Number_sign ["self"] (defScope s_Number_sign) := ⟨rfl, rfl, rfl, by decide +kernel, rfl, by decide +kernel, by decide +kernel⟩

abbrev s_Number_need_finite : Stmt := inClass (topS 14) 4
abbrev N_Number_need_finite : List Str := ["self"]
theorem sc_Number_need_finite : FnScope N_Number_need_finite ["self"] (defScope s_Number_need_finite) := ⟨rfl, rfl, rfl, by decide +kernel, rfl, by decide +kernel, by decide +kernel⟩

abbrev s_Number_parts : Stmt := inClass (topS 14) 5
abbrev N_Number_parts : List Str := ["self"]
theorem sc_Number_parts : FnScope N_Number_parts ["self"] (defScope s_Number_parts) := ⟨rfl, rfl, rfl, by decide +kernel, rfl, by decide +kernel, by decide +kernel⟩

abbrev s__law_roads : Stmt := topS 41
abbrev N__law_roads : List Str := []
theorem sc__law_roads : FnScope N__law_roads [] (defScope s__law_roads) := ⟨rfl, rfl, rfl, by decide +kernel, rfl, by decide +kernel, by decide +kernel⟩

abbrev s__law_left_right : Stmt := topS 45
abbrev N__law_left_right : List Str := ["_law_m", "_law_form_here", "_law_size", "_law_least", "_law_road", "_law_over", "_law_under", "_law_made", "_law_marks", "_law_told", "_law_lost", "_law_again"]
theorem sc__law_left_right : FnScope N__law_left_right ["_law_m", "_law_form_here", "_law_size", "_law_least", "_law_road"] (defScope s__law_left_right) := ⟨rfl, rfl, rfl, by decide +kernel, rfl, by decide +kernel, by decide +kernel⟩

abbrev s__law_near_right : Stmt := topS 46
abbrev N__law_near_right : List Str := ["_law_form_here", "_law_one_parts", "_law_other_parts", "_law_size", "_law_least", "_law_twice", "_law_back", "_law_over", "_law_under", "_law_road", "_law_made", "_law_marks", "_law_told"]
theorem sc__law_near_right : FnScope N__law_near_right ["_law_form_here", "_law_one_parts", "_law_other_parts"] (defScope s__law_near_right) := ⟨rfl, rfl, rfl, by decide +kernel, rfl, by decide +kernel, by decide +kernel⟩

abbrev s_law : Stmt := topS 47
abbrev N_law : List Str := ["_law_script", "_law_m", "_law_turn", "_law_form_here", "_law_ones", "_law_size", "_law_least", "_law_road"]
theorem sc_law : FnScope N_law ["_law_script"] (defScope s_law) := ⟨rfl, rfl, rfl, by decide +kernel, rfl, by decide +kernel, by decide +kernel⟩

abbrev s_top_rank : Stmt := topS 13
abbrev N_top_rank : List Str := ["shape"]
theorem sc_top_rank : FnScope N_top_rank ["shape"] (defScope s_top_rank) := ⟨rfl, rfl, rfl, by decide +kernel, rfl, by decide +kernel, by decide +kernel⟩

abbrev s_Number_shape : Stmt := inClass (topS 14) 1
abbrev N_Number_shape : List Str := ["self"]
theorem sc_Number_shape : FnScope N_Number_shape ["self"] (defScope s_Number_shape) := ⟨rfl, rfl, rfl, by decide +kernel, rfl, by decide +kernel, by decide +kernel⟩

theorem b__law_folded1 {K : PySem.W.Frag} : ∀ f fd, FD K "_law_folded" "_law_folded" s__law_folded [] [] f fd → KB K fd ["_law_script"] 1 [] (fun vs _ => vs) := fun f fd F =>
  FunD.kbA F fun _ _ _ _ _ _ vs us zs ws r1 r2 l1 l2 => match vs, us, zs, ws, r1, r2, l1, l2 with
  | [_], [y0], [], [], (.cons p0 .nil), .nil, _, _ => ⟨[y0], rfl, (.cons p0 .nil)⟩

theorem b__law_mixed2 {K : PySem.W.Frag} : ∀ f fd, FD K "_law_mixed" "_law_mixed" s__law_mixed [] [] f fd → KB K fd ["_law_cell", "_law_k"] 2 [] (fun vs _ => vs) := fun f fd F =>
  FunD.kbA F fun _ _ _ _ _ _ vs us zs ws r1 r2 l1 l2 => match vs, us, zs, ws, r1, r2, l1, l2 with
  | [_, _], [y0, y1], [], [], (.cons p0 (.cons p1 .nil)), .nil, _, _ => ⟨[y0, y1], rfl, (.cons p0 (.cons p1 .nil))⟩

theorem b__law_draw2 {K : PySem.W.Frag} : ∀ f fd, FD K "_law_draw" "_law_draw" s__law_draw [] [] f fd → KB K fd ["_law_m", "_law_top"] 2 [] (fun vs _ => vs) := fun f fd F =>
  FunD.kbA F fun _ _ _ _ _ _ vs us zs ws r1 r2 l1 l2 => match vs, us, zs, ws, r1, r2, l1, l2 with
  | [_, _], [y0, y1], [], [], (.cons p0 (.cons p1 .nil)), .nil, _, _ => ⟨[y0, y1], rfl, (.cons p0 (.cons p1 .nil))⟩

theorem b__law_small_form1 {K : PySem.W.Frag} : ∀ f fd, FD K "_law_small_form" "_law_small_form" s__law_small_form [] [] f fd → KB K fd ["_law_m"] 1 [] (fun vs _ => vs) := fun f fd F =>
  FunD.kbA F fun _ _ _ _ _ _ vs us zs ws r1 r2 l1 l2 => match vs, us, zs, ws, r1, r2, l1, l2 with
  | [_], [y0], [], [], (.cons p0 .nil), .nil, _, _ => ⟨[y0], rfl, (.cons p0 .nil)⟩

theorem b__law_great2 {K : PySem.W.Frag} : ∀ f fd, FD K "_law_great" "_law_great" s__law_great [] [] f fd → KB K fd ["_law_m", "_law_top"] 2 [] (fun vs _ => vs) := fun f fd F =>
  FunD.kbA F fun _ _ _ _ _ _ vs us zs ws r1 r2 l1 l2 => match vs, us, zs, ws, r1, r2, l1, l2 with
  | [_, _], [y0, y1], [], [], (.cons p0 (.cons p1 .nil)), .nil, _, _ => ⟨[y0, y1], rfl, (.cons p0 (.cons p1 .nil))⟩

theorem b_raised2 {K : PySem.W.Frag} : ∀ f fd, FD K "raised" "raised" s_raised [] [] f fd → KB K fd ["base", "many"] 2 [] (fun vs _ => vs) := fun f fd F =>
  FunD.kbA F fun _ _ _ _ _ _ vs us zs ws r1 r2 l1 l2 => match vs, us, zs, ws, r1, r2, l1, l2 with
  | [_, _], [y0, y1], [], [], (.cons p0 (.cons p1 .nil)), .nil, _, _ => ⟨[y0, y1], rfl, (.cons p0 (.cons p1 .nil))⟩

theorem b_is_whole3 {K : PySem.W.Frag} : ∀ f fd, FD K "is_whole" "is_whole" s_is_whole [] [] f fd → KB K fd ["thing", "least", "most"] 3 [] (fun vs _ => vs) := fun f fd F =>
  FunD.kbA F fun _ _ _ _ _ _ vs us zs ws r1 r2 l1 l2 => match vs, us, zs, ws, r1, r2, l1, l2 with
  | [_, _, _], [y0, y1, y2], [], [], (.cons p0 (.cons p1 (.cons p2 .nil))), .nil, _, _ => ⟨[y0, y1, y2], rfl, (.cons p0 (.cons p1 (.cons p2 .nil)))⟩

theorem b_is_shape1 {K : PySem.W.Frag} : ∀ f fd, FD K "is_shape" "is_shape" s_is_shape [] [] f fd → KB K fd ["thing"] 1 [] (fun vs _ => vs) := fun f fd F =>
  FunD.kbA F fun _ _ _ _ _ _ vs us zs ws r1 r2 l1 l2 => match vs, us, zs, ws, r1, r2, l1, l2 with
  | [_], [y0], [], [], (.cons p0 .nil), .nil, _, _ => ⟨[y0], rfl, (.cons p0 .nil)⟩

theorem b_Number1_sign_significand_exponent {K : PySem.W.Frag} {a_DOUBLE : Addr} : ∀ f fd, FD K "__init__" "Number.__init__" s_Number___init__ [.ref a_DOUBLE] [("sign", .int (0)), ("significand", .int (0)), ("exponent", .non)] f fd → KB K fd ["self", "shape", "sign", "significand", "exponent"] 2 ["sign", "significand", "exponent"] (fun vs zs => match vs, zs with | [x0, x1], [z0, z1, z2] => [x0, x1, z0, z1, z2] | _, _ => []) := fun f fd F =>
  FunD.kbC F (by simp) fun _ _ _ _ _ _ _ vs us zs ws its r1 r2 r3 l1 l2 => match vs, us, zs, ws, its, r1, r2, r3, l1, l2 with
  | [_, _], [y0, y1], [_, _, _], [w0, w1, w2], [t0], (.cons p0 (.cons p1 .nil)), (.cons k0 (.cons k1 (.cons k2 .nil))), (.cons d0 .nil), _, _ => ⟨_, rfl, [y0, y1, w0, w1, w2], rfl, (.cons p0 (.cons p1 (.cons k0 (.cons k1 (.cons k2 .nil)))))⟩

theorem b_Number1_sign {K : PySem.W.Frag} {a_DOUBLE : Addr} : ∀ f fd, FD K "__init__" "Number.__init__" s_Number___init__ [.ref a_DOUBLE] [("sign", .int (0)), ("significand", .int (0)), ("exponent", .non)] f fd → KB K fd ["self", "shape", "sign", "significand", "exponent"] 2 ["sign"] (fun vs zs => match vs, zs with | [x0, x1], [z0] => [x0, x1, z0, (.int (0)), (.non)] | _, _ => []) := fun f fd F =>
  FunD.kbD F [("significand", .int (0)), ("exponent", .non)] (by simp) (by simp) (by intro q hq; simp only [List.mem_cons, List.not_mem_nil, or_false] at hq ⊢; first | exact hq | (rcases hq with rfl | rfl | rfl | rfl <;> simp) | (rcases hq with rfl | rfl | rfl <;> simp) | (rcases hq with rfl | rfl <;> simp) | (subst hq; simp)) fun _ _ _ _ _ _ _ vs us zs ws its mv r1 r2 r3 r4 l1 l2 => match vs, us, zs, ws, its, mv, r1, r2, r3, r4, l1, l2 with
  | [_, _], [y0, y1], [_], [w0], [t0], [v0, v1], (.cons p0 (.cons p1 .nil)), (.cons k0 .nil), (.cons d0 .nil), (.cons m0 (.cons m1 .nil)), _, _ => ⟨_, rfl, [y0, y1, w0, v0, v1], ⟨_, _, _, _, _, _, rfl, rfl, ⟨_, _, _, _, _, _, rfl, rfl, rfl⟩⟩, (.cons p0 (.cons p1 (.cons k0 (.cons m0 (.cons m1 .nil)))))⟩

theorem b_greatest1_sign {K : PySem.W.Frag} {a_DOUBLE : Addr} : ∀ f fd, FD K "greatest" "greatest" s_greatest [.ref a_DOUBLE] [("sign", .int (0))] f fd → KB K fd ["shape", "sign"] 1 ["sign"] (fun vs zs => match vs, zs with | [x0], [z0] => [x0, z0] | _, _ => []) := fun f fd F =>
  FunD.kbC F (by simp) fun _ _ _ _ _ _ _ vs us zs ws its r1 r2 r3 l1 l2 => match vs, us, zs, ws, its, r1, r2, r3, l1, l2 with
  | [_], [y0], [_], [w0], [t0], (.cons p0 .nil), (.cons k0 .nil), (.cons d0 .nil), _, _ => ⟨_, rfl, [y0, w0], rfl, (.cons p0 (.cons k0 .nil))⟩

theorem b_infinite1_sign {K : PySem.W.Frag} {a_DOUBLE : Addr} : ∀ f fd, FD K "infinite" "infinite" s_infinite [.ref a_DOUBLE] [("sign", .int (0))] f fd → KB K fd ["shape", "sign"] 1 ["sign"] (fun vs zs => match vs, zs with | [x0], [z0] => [x0, z0] | _, _ => []) := fun f fd F =>
  FunD.kbC F (by simp) fun _ _ _ _ _ _ _ vs us zs ws its r1 r2 r3 l1 l2 => match vs, us, zs, ws, its, r1, r2, r3, l1, l2 with
  | [_], [y0], [_], [w0], [t0], (.cons p0 .nil), (.cons k0 .nil), (.cons d0 .nil), _, _ => ⟨_, rfl, [y0, w0], rfl, (.cons p0 (.cons k0 .nil))⟩

theorem b_halvings_in2 {K : PySem.W.Frag} : ∀ f fd, FD K "halvings_in" "halvings_in" s_halvings_in [] [] f fd → KB K fd ["size", "denominator"] 2 [] (fun vs _ => vs) := fun f fd F =>
  FunD.kbA F fun _ _ _ _ _ _ vs us zs ws r1 r2 l1 l2 => match vs, us, zs, ws, r1, r2, l1, l2 with
  | [_, _], [y0, y1], [], [], (.cons p0 (.cons p1 .nil)), .nil, _, _ => ⟨[y0, y1], rfl, (.cons p0 (.cons p1 .nil))⟩

theorem b_whole_of3 {K : PySem.W.Frag} : ∀ f fd, FD K "whole_of" "whole_of" s_whole_of [] [] f fd → KB K fd ["numerator", "denominator", "way"] 3 [] (fun vs _ => vs) := fun f fd F =>
  FunD.kbA F fun _ _ _ _ _ _ vs us zs ws r1 r2 l1 l2 => match vs, us, zs, ws, r1, r2, l1, l2 with
  | [_, _, _], [y0, y1, y2], [], [], (.cons p0 (.cons p1 (.cons p2 .nil))), .nil, _, _ => ⟨[y0, y1, y2], rfl, (.cons p0 (.cons p1 (.cons p2 .nil)))⟩

theorem b_overflown3 {K : PySem.W.Frag} : ∀ f fd, FD K "overflown" "overflown" s_overflown [] [] f fd → KB K fd ["shape", "way", "side"] 3 [] (fun vs _ => vs) := fun f fd F =>
  FunD.kbA F fun _ _ _ _ _ _ vs us zs ws r1 r2 l1 l2 => match vs, us, zs, ws, r1, r2, l1, l2 with
  | [_, _, _], [y0, y1, y2], [], [], (.cons p0 (.cons p1 (.cons p2 .nil))), .nil, _, _ => ⟨[y0, y1, y2], rfl, (.cons p0 (.cons p1 (.cons p2 .nil)))⟩

theorem b_need_fraction2 {K : PySem.W.Frag} : ∀ f fd, FD K "need_fraction" "need_fraction" s_need_fraction [] [] f fd → KB K fd ["numerator", "denominator"] 2 [] (fun vs _ => vs) := fun f fd F =>
  FunD.kbA F fun _ _ _ _ _ _ vs us zs ws r1 r2 l1 l2 => match vs, us, zs, ws, r1, r2, l1, l2 with
  | [_, _], [y0, y1], [], [], (.cons p0 (.cons p1 .nil)), .nil, _, _ => ⟨[y0, y1], rfl, (.cons p0 (.cons p1 .nil))⟩

theorem b_is_way1 {K : PySem.W.Frag} : ∀ f fd, FD K "is_way" "is_way" s_is_way [] [] f fd → KB K fd ["thing"] 1 [] (fun vs _ => vs) := fun f fd F =>
  FunD.kbA F fun _ _ _ _ _ _ vs us zs ws r1 r2 l1 l2 => match vs, us, zs, ws, r1, r2, l1, l2 with
  | [_], [y0], [], [], (.cons p0 .nil), .nil, _, _ => ⟨[y0], rfl, (.cons p0 .nil)⟩

theorem b_rounded_so5 {K : PySem.W.Frag} : ∀ f fd, FD K "rounded_so" "rounded_so" s_rounded_so [] [] f fd → KB K fd ["numerator", "denominator", "shape", "way", "sign"] 5 [] (fun vs _ => vs) := fun f fd F =>
  FunD.kbA F fun _ _ _ _ _ _ vs us zs ws r1 r2 l1 l2 => match vs, us, zs, ws, r1, r2, l1, l2 with
  | [_, _, _, _, _], [y0, y1, y2, y3, y4], [], [], (.cons p0 (.cons p1 (.cons p2 (.cons p3 (.cons p4 .nil))))), .nil, _, _ => ⟨[y0, y1, y2, y3, y4], rfl, (.cons p0 (.cons p1 (.cons p2 (.cons p3 (.cons p4 .nil)))))⟩

theorem b_Number_need_finite0 {K : PySem.W.Frag} : ∀ f fd, FD K "need_finite" "Number.need_finite" s_Number_need_finite [] [] f fd → KB K fd ["self"] 1 [] (fun vs _ => vs) := fun f fd F =>
  FunD.kbA F fun _ _ _ _ _ _ vs us zs ws r1 r2 l1 l2 => match vs, us, zs, ws, r1, r2, l1, l2 with
  | [_], [y0], [], [], (.cons p0 .nil), .nil, _, _ => ⟨[y0], rfl, (.cons p0 .nil)⟩

theorem b__law_fraction2 {K : PySem.W.Frag} : ∀ f fd, FD K "_law_fraction" "_law_fraction" s__law_fraction [] [] f fd → KB K fd ["_law_size", "_law_scale"] 2 [] (fun vs _ => vs) := fun f fd F =>
  FunD.kbA F fun _ _ _ _ _ _ vs us zs ws r1 r2 l1 l2 => match vs, us, zs, ws, r1, r2, l1, l2 with
  | [_, _], [y0, y1], [], [], (.cons p0 (.cons p1 .nil)), .nil, _, _ => ⟨[y0, y1], rfl, (.cons p0 (.cons p1 .nil))⟩

theorem b_rounded2_shape_way {K : PySem.W.Frag} {a_DOUBLE : Addr} : ∀ f fd, FD K "rounded" "rounded" s_rounded [.int (1)] [("shape", .ref a_DOUBLE), ("way", .str "nearest"), ("sign", .int (0))] f fd → KB K fd ["numerator", "denominator", "shape", "way", "sign"] 2 ["shape", "way"] (fun vs zs => match vs, zs with | [x0, x1], [z0, z1] => [x0, x1, z0, z1, (.int (0))] | _, _ => []) := fun f fd F =>
  FunD.kbD F [("sign", .int (0))] (by simp) (by simp) (by intro q hq; simp only [List.mem_cons, List.not_mem_nil, or_false] at hq ⊢; first | exact hq | (rcases hq with rfl | rfl | rfl | rfl <;> simp) | (rcases hq with rfl | rfl | rfl <;> simp) | (rcases hq with rfl | rfl <;> simp) | (subst hq; simp)) fun _ _ _ _ _ _ _ vs us zs ws its mv r1 r2 r3 r4 l1 l2 => match vs, us, zs, ws, its, mv, r1, r2, r3, r4, l1, l2 with
  | [_, _], [y0, y1], [_, _], [w0, w1], [t0], [v0], (.cons p0 (.cons p1 .nil)), (.cons k0 (.cons k1 .nil)), (.cons d0 .nil), (.cons m0 .nil), _, _ => ⟨_, rfl, [y0, y1, w0, w1, v0], ⟨_, _, _, _, _, _, rfl, rfl, rfl⟩, (.cons p0 (.cons p1 (.cons k0 (.cons k1 (.cons m0 .nil)))))⟩

theorem b_Number_kind0 {K : PySem.W.Frag} : ∀ f fd, FD K "kind" "Number.kind" s_Number_kind [] [] f fd → KB K fd ["self"] 1 [] (fun vs _ => vs) := fun f fd F =>
  FunD.kbA F fun _ _ _ _ _ _ vs us zs ws r1 r2 l1 l2 => match vs, us, zs, ws, r1, r2, l1, l2 with
  | [_], [y0], [], [], (.cons p0 .nil), .nil, _, _ => ⟨[y0], rfl, (.cons p0 .nil)⟩

theorem b_Number_sign0 {K : PySem.W.Frag} : ∀ f fd, FD K "sign" "Number.sign" s_Number_sign [] [] f fd → KB K fd ["self"] 1 [] (fun vs _ => vs) := fun f fd F =>
  FunD.kbA F fun _ _ _ _ _ _ vs us zs ws r1 r2 l1 l2 => match vs, us, zs, ws, r1, r2, l1, l2 with
  | [_], [y0], [], [], (.cons p0 .nil), .nil, _, _ => ⟨[y0], rfl, (.cons p0 .nil)⟩

theorem b_Number_parts0 {K : PySem.W.Frag} : ∀ f fd, FD K "parts" "Number.parts" s_Number_parts [] [] f fd → KB K fd ["self"] 1 [] (fun vs _ => vs) := fun f fd F =>
  FunD.kbA F fun _ _ _ _ _ _ vs us zs ws r1 r2 l1 l2 => match vs, us, zs, ws, r1, r2, l1, l2 with
  | [_], [y0], [], [], (.cons p0 .nil), .nil, _, _ => ⟨[y0], rfl, (.cons p0 .nil)⟩

theorem b__law_sum2 {K : PySem.W.Frag} : ∀ f fd, FD K "_law_sum" "_law_sum" s__law_sum [] [] f fd → KB K fd ["_law_one_parts", "_law_other_parts"] 2 [] (fun vs _ => vs) := fun f fd F =>
  FunD.kbA F fun _ _ _ _ _ _ vs us zs ws r1 r2 l1 l2 => match vs, us, zs, ws, r1, r2, l1, l2 with
  | [_, _], [y0, y1], [], [], (.cons p0 (.cons p1 .nil)), .nil, _, _ => ⟨[y0, y1], rfl, (.cons p0 (.cons p1 .nil))⟩

theorem b__law_roads0 {K : PySem.W.Frag} : ∀ f fd, FD K "_law_roads" "_law_roads" s__law_roads [] [] f fd → KB K fd [] 0 [] (fun vs _ => vs) := fun f fd F =>
  FunD.kbA F fun _ _ _ _ _ _ vs us zs ws r1 r2 l1 l2 => match vs, us, zs, ws, r1, r2, l1, l2 with
  | [], [], [], [], .nil, .nil, _, _ => ⟨[], rfl, .nil⟩

theorem b__law_begun1 {K : PySem.W.Frag} : ∀ f fd, FD K "_law_begun" "_law_begun" s__law_begun [] [] f fd → KB K fd ["_law_script"] 1 [] (fun vs _ => vs) := fun f fd F =>
  FunD.kbA F fun _ _ _ _ _ _ vs us zs ws r1 r2 l1 l2 => match vs, us, zs, ws, r1, r2, l1, l2 with
  | [_], [y0], [], [], (.cons p0 .nil), .nil, _, _ => ⟨[y0], rfl, (.cons p0 .nil)⟩

theorem b__law_form1 {K : PySem.W.Frag} : ∀ f fd, FD K "_law_form" "_law_form" s__law_form [] [] f fd → KB K fd ["_law_m"] 1 [] (fun vs _ => vs) := fun f fd F =>
  FunD.kbA F fun _ _ _ _ _ _ vs us zs ws r1 r2 l1 l2 => match vs, us, zs, ws, r1, r2, l1, l2 with
  | [_], [y0], [], [], (.cons p0 .nil), .nil, _, _ => ⟨[y0], rfl, (.cons p0 .nil)⟩

theorem b__law_parts2 {K : PySem.W.Frag} : ∀ f fd, FD K "_law_parts" "_law_parts" s__law_parts [] [] f fd → KB K fd ["_law_m", "_law_form_here"] 2 [] (fun vs _ => vs) := fun f fd F =>
  FunD.kbA F fun _ _ _ _ _ _ vs us zs ws r1 r2 l1 l2 => match vs, us, zs, ws, r1, r2, l1, l2 with
  | [_, _], [y0, y1], [], [], (.cons p0 (.cons p1 .nil)), .nil, _, _ => ⟨[y0, y1], rfl, (.cons p0 (.cons p1 .nil))⟩

theorem b__law_near_parts3 {K : PySem.W.Frag} : ∀ f fd, FD K "_law_near_parts" "_law_near_parts" s__law_near_parts [] [] f fd → KB K fd ["_law_m", "_law_form_here", "_law_parts_here"] 3 [] (fun vs _ => vs) := fun f fd F =>
  FunD.kbA F fun _ _ _ _ _ _ vs us zs ws r1 r2 l1 l2 => match vs, us, zs, ws, r1, r2, l1, l2 with
  | [_, _, _], [y0, y1, y2], [], [], (.cons p0 (.cons p1 (.cons p2 .nil))), .nil, _, _ => ⟨[y0, y1, y2], rfl, (.cons p0 (.cons p1 (.cons p2 .nil)))⟩

theorem b__law_left_right5 {K : PySem.W.Frag} : ∀ f fd, FD K "_law_left_right" "_law_left_right" s__law_left_right [] [] f fd → KB K fd ["_law_m", "_law_form_here", "_law_size", "_law_least", "_law_road"] 5 [] (fun vs _ => vs) := fun f fd F =>
  FunD.kbA F fun _ _ _ _ _ _ vs us zs ws r1 r2 l1 l2 => match vs, us, zs, ws, r1, r2, l1, l2 with
  | [_, _, _, _, _], [y0, y1, y2, y3, y4], [], [], (.cons p0 (.cons p1 (.cons p2 (.cons p3 (.cons p4 .nil))))), .nil, _, _ => ⟨[y0, y1, y2, y3, y4], rfl, (.cons p0 (.cons p1 (.cons p2 (.cons p3 (.cons p4 .nil)))))⟩

theorem b__law_near_right3 {K : PySem.W.Frag} : ∀ f fd, FD K "_law_near_right" "_law_near_right" s__law_near_right [] [] f fd → KB K fd ["_law_form_here", "_law_one_parts", "_law_other_parts"] 3 [] (fun vs _ => vs) := fun f fd F =>
  FunD.kbA F fun _ _ _ _ _ _ vs us zs ws r1 r2 l1 l2 => match vs, us, zs, ws, r1, r2, l1, l2 with
  | [_, _, _], [y0, y1, y2], [], [], (.cons p0 (.cons p1 (.cons p2 .nil))), .nil, _, _ => ⟨[y0, y1, y2], rfl, (.cons p0 (.cons p1 (.cons p2 .nil)))⟩

structure Tx (K : PySem.W.Frag) (mg : Str → Option Value) (c_Number a_DOUBLE : Addr) : Prop where
  d__law_folded : DefAt K mg "_law_folded" s__law_folded [] []
  d__law_begun : DefAt K mg "_law_begun" s__law_begun [] []
  d__law_mixed : DefAt K mg "_law_mixed" s__law_mixed [] []
  d__law_draw : DefAt K mg "_law_draw" s__law_draw [] []
  d__law_small_form : DefAt K mg "_law_small_form" s__law_small_form [] []
  d__law_form : DefAt K mg "_law_form" s__law_form [] []
  d__law_great : DefAt K mg "_law_great" s__law_great [] []
  d__law_parts : DefAt K mg "_law_parts" s__law_parts [] []
  d__law_near_parts : DefAt K mg "_law_near_parts" s__law_near_parts [] []
  d__law_sum : DefAt K mg "_law_sum" s__law_sum [] []
  d__law_fraction : DefAt K mg "_law_fraction" s__law_fraction [] []
  d_raised : DefAt K mg "raised" s_raised [] []
  d_is_whole : DefAt K mg "is_whole" s_is_whole [] []
  d_need_fraction : DefAt K mg "need_fraction" s_need_fraction [] []
  d_is_shape : DefAt K mg "is_shape" s_is_shape [] []
  d_is_way : DefAt K mg "is_way" s_is_way [] []
  d_Number___init__ : InitAt K c_Number "Number.__init__" s_Number___init__ [.ref a_DOUBLE] [("sign", .int (0)), ("significand", .int (0)), ("exponent", .non)]
  d_halvings_in : DefAt K mg "halvings_in" s_halvings_in [] []
  d_whole_of : DefAt K mg "whole_of" s_whole_of [] []
  d_greatest : DefAt K mg "greatest" s_greatest [.ref a_DOUBLE] [("sign", .int (0))]
  d_infinite : DefAt K mg "infinite" s_infinite [.ref a_DOUBLE] [("sign", .int (0))]
  d_overflown : DefAt K mg "overflown" s_overflown [] []
  d_rounded_so : DefAt K mg "rounded_so" s_rounded_so [] []
  d_rounded : DefAt K mg "rounded" s_rounded [.int (1)] [("shape", .ref a_DOUBLE), ("way", .str "nearest"), ("sign", .int (0))]
  d_Number_kind : MethAt K c_Number "kind" "Number.kind" s_Number_kind [] []
  d_Number_sign : MethAt K c_Number "sign" "Number.sign" s_Number_sign [] []
  d_Number_need_finite : MethAt K c_Number "need_finite" "Number.need_finite" s_Number_need_finite [] []
  d_Number_parts : MethAt K c_Number "parts" "Number.parts" s_Number_parts [] []
  d__law_roads : DefAt K mg "_law_roads" s__law_roads [] []
  d__law_left_right : DefAt K mg "_law_left_right" s__law_left_right [] []
  d__law_near_right : DefAt K mg "_law_near_right" s__law_near_right [] []
  d_law : DefAt K mg "law" s_law [] []
  d_top_rank : DefAt K mg "top_rank" s_top_rank [] []
  d_Number_shape : MethAt K c_Number "shape" "Number.shape" s_Number_shape [] []
  cl_Number : Cls K c_Number
  g_Number : mg "Number" = some (.ref c_Number)
  n_Number_form : NoAttr K c_Number "form"
  n_Number_side : NoAttr K c_Number "side"
  n_Number_bits : NoAttr K c_Number "bits"
  n_Number_scale : NoAttr K c_Number "scale"
  n_Number_state : NoAttr K c_Number "state"
  g_DOUBLE : mg "DOUBLE" = some (.ref a_DOUBLE)
  t_DOUBLE : ∀ H, SqT K H a_DOUBLE [.int (53), .int (-1074), .int (971)]
  z_abs : mg "abs" = none
  z_bool : mg "bool" = none
  z_divmod : mg "divmod" = none
  z_enumerate : mg "enumerate" = none
  z_int : mg "int" = none
  z_isinstance : mg "isinstance" = none
  z_len : mg "len" = none
  z_max : mg "max" = none
  z_min : mg "min" = none
  z_range : mg "range" = none
  z_str : mg "str" = none
  z_tuple : mg "tuple" = none
  c_AWAY : ∃ u, mg "AWAY" = some u ∧ RelV (.str "away") u
  c_DOWN : ∃ u, mg "DOWN" = some u ∧ RelV (.str "down") u
  c_LEAST_LOW : ∃ u, mg "LEAST_LOW" = some u ∧ RelV (.int (-1100)) u
  c_MOST_FIGURES : ∃ u, mg "MOST_FIGURES" = some u ∧ RelV (.int (3000)) u
  c_MOST_HIGH : ∃ u, mg "MOST_HIGH" = some u ∧ RelV (.int (1000)) u
  c_MOST_PRECISION : ∃ u, mg "MOST_PRECISION" = some u ∧ RelV (.int (64)) u
  c_NEAREST : ∃ u, mg "NEAREST" = some u ∧ RelV (.str "nearest") u
  c_UP : ∃ u, mg "UP" = some u ∧ RelV (.str "up") u
  c_ZERO : ∃ u, mg "ZERO" = some u ∧ RelV (.str "zero") u
end DW
namespace DW
open PySem PySem.Spec PyProof.Rows L2
local macro_rules | `(tactic| walk_at "rd") => `(tactic| try simp only [tSeq, tAsg, gName, tPar, tPar3, tCons, tNil, tC, tVar, tOp, tTest, rI0, rI, rEq, rNe, scal, tIfS, tNext, tRet, tRetN, tAug, tDrop, tUn, rU, tIf, tAnd, tOr, tNot, tAndV, tOrV, tNotV, tChain, tB, tTup, tLst, tTupA, tLstA, tCB, tCl, tNever, gTup, gCons, gNil, ipI, rIsB, rNotB, cxK, tFor_rd, tLc_rd, wipe, tDisp, tPairs, tBits, tDGet, sDPut, tFld_rd, sFld_rd, tMe_rd, tMk, tYes, tSl, tPart, tNoPart, tBM, gSub, iRng1, iRng2, iList, iTup, iEnum, iZip,
  L2.start, List.map_cons, List.map_nil, List.length_cons, List.length_nil, List.replicate, Nat.reduceAdd, Nat.reduceSub, List.cons_append, List.nil_append, List.getElem?_cons_zero, List.getElem?_cons_succ, List.set_cons_zero, List.set_cons_succ,
  Option.some.injEq, V.int.injEq, V.str.injEq, V.bl.injEq, V.ref.injEq, List.cons.injEq, exists_eq_left, exists_eq_left', exists_eq, exists_eq', exists_false, exists_and_left, and_assoc, and_true, true_and, false_and, and_false, false_or, or_false, true_or, or_true, decide_eq_true_eq, decide_true, decide_false, Bool.not_eq_true', Bool.not_eq_true, decide_eq_false_iff_not, Int.one_mul, if_true, if_false, ite_true, ite_false, Bool.false_eq_true, Bool.not_true, Bool.not_false, reduceCtorEq, reduceIte, CPow, Int.reduceLE, Int.reduceLT, Int.reduceAbs, Nat.reducePow, Nat.reduceLT, Int.reduceToNat, Int.reducePow, Int.reduceNeg])
def sp__law_folded (K : PySem.W.Frag) : Sp := fun vs H Q _ => ∃ (a : Addr) (ns : List Int), vs = [.ref a] ∧ SqL K H a (ns.map V.int) ∧ ns.length ≤ 63 ∧
  ∀ H' p (cs : List Int), Same H H' → H p = none → H' p = some (.lst (cs.map V.int)) → cs.length = 64 → (∀ x ∈ cs, 0 ≤ x ∧ x < 2147483648) → Q (.ref p) H'
def sp__law_begun (K : PySem.W.Frag) : Sp := fun vs H Q _ => ∃ (a : Addr) (ns : List Int), vs = [.ref a] ∧ SqL K H a (ns.map V.int) ∧ ns.length ≤ 63 ∧
  ∀ H' m l, Same H H' → H m = none → H l = none → Drw H' m l 0 → Q (.ref m) H'
def sp__law_mixed : Sp := fun vs H Q _ => ∃ (c : Int) (k : Nat), vs = [.int c, .int k] ∧ 0 ≤ c ∧ c < 2 ^ 60 ∧ k ≤ 2 ^ 50 ∧ ∀ r : Int, 0 ≤ r → r < 2147483648 → Q (.int r) H
def sp__law_draw : Sp := fun vs H Q _ => ∃ (m l : Addr) (b : Nat) (top : Int), vs = [.ref m, .int top] ∧ Drw H m l b ∧ b ≤ 2 ^ 40 ∧ 0 < top ∧ top < 2 ^ 30 ∧
  ∀ (r : Int) H', 0 ≤ r → r < top → But m l H H' → Drw H' m l (b + 1) → Q (.int r) H'
def sp__law_small_form (K : PySem.W.Frag) : Sp := fun vs H Q _ => ∃ (m l : Addr) (b : Nat), vs = [.ref m] ∧ Drw H m l b ∧ b ≤ 2 ^ 39 ∧
  ∀ H' p (sh : Sh), Drw H' m l (b + 3) → But m l H H' → H p = none → H' p = some (.tup sh.vs) → sh.Ok → sh.p ≤ 5 → -6 ≤ sh.lo → sh.hi ≤ sh.lo + 6 → Q (.ref p) H'
def sp__law_form (K : PySem.W.Frag) : Sp := fun vs H Q _ => ∃ (m l : Addr) (b : Nat), vs = [.ref m] ∧ Drw H m l b ∧ b ≤ 2 ^ 38 ∧
  ∀ H' p (sh : Sh), Drw H' m l (b + 8) → But m l H H' → H p = none → H' p = some (.tup sh.vs) → sh.Ok → Q (.ref p) H'
def sp__law_great : Sp := fun vs H Q _ => ∃ (m l : Addr) (b n : Nat) (top : Int), vs = [.ref m, .int top] ∧ Drw H m l b ∧ b + n ≤ 2 ^ 40 ∧ 1 ≤ n ∧ n ≤ 2000 ∧ 0 < top ∧ top ≤ 10 ^ (6 * n) ∧
  ∀ (r : Int) H', 0 ≤ r → r < top → But m l H H' → Drw H' m l (b + n) → Q (.int r) H'
def sp__law_parts (K : PySem.W.Frag) : Sp := fun vs H Q _ => ∃ (m l : Addr) (b : Nat) (t : Addr) (sh : Sh), vs = [.ref m, .ref t] ∧ Drw H m l b ∧ b ≤ 2 ^ 38 ∧ H t = some (.tup sh.vs) ∧ sh.Ok ∧
  ∀ H' p s bt e, Drw H' m l (b + 9) → But m l H H' → H p = none → H' p = some (.tup [.int s, .int bt, .int e]) → (finN sh s bt e).Fin → Q (.ref p) H'
def sp__law_near_parts (K : PySem.W.Frag) : Sp := fun vs H Q _ => ∃ (m l : Addr) (b : Nat) (t : Addr) (sh : Sh) (t2 : Addr) (s0 b0 e0 : Int), vs = [.ref m, .ref t, .ref t2] ∧ Drw H m l b ∧ b ≤ 2 ^ 38 ∧ H t = some (.tup sh.vs) ∧ sh.Ok ∧ H t2 = some (.tup [.int s0, .int b0, .int e0]) ∧
  ∀ H' p s bt e, Drw H' m l (b + 9) → But m l H H' → H p = none → H' p = some (.tup [.int s, .int bt, .int e]) → (finN sh s bt e).Fin → Q (.ref p) H'
def sp__law_sum (K : PySem.W.Frag) : Sp := fun vs H Q _ => ∃ (t1 t2 : Addr) (s1 b1 e1 s2 b2 e2 : Int), vs = [.ref t1, .ref t2] ∧ SqT K H t1 [.int s1, .int b1, .int e1] ∧ SqT K H t2 [.int s2, .int b2, .int e2] ∧ b1.natAbs < 2 ^ 10000 ∧ b2.natAbs < 2 ^ 10000 ∧ -10000 ≤ e1 ∧ e1 ≤ 10000 ∧ -10000 ≤ e2 ∧ e2 ≤ 10000 ∧ 0 ≤ s1 ∧ s1 ≤ 1 ∧ 0 ≤ s2 ∧ s2 ≤ 1 ∧
  ∀ H' p, Same H H' → H p = none → H' p = some (.tup [.int (b1 * 2 ^ (e1 - minI e1 e2).toNat * (1 - 2 * s1) + b2 * 2 ^ (e2 - minI e1 e2).toNat * (1 - 2 * s2)), .int (minI e1 e2)]) → Q (.ref p) H'
def sp__law_fraction2 : Sp := fun vs H Q _ => ∃ (n e : Int), vs = [.int n, .int e] ∧ n.natAbs < 2 ^ 100000 ∧ -100000 ≤ e ∧ e ≤ 100000 ∧
  ∀ H' p, Same H H' → H p = none → H' p = some (.tup [.int (n * 2 ^ e.toNat), .int (2 ^ (-e).toNat)]) → Q (.ref p) H'
def sp_raised : Sp := fun vs H Q _ => ∃ (b : Int) (m : Nat), vs = [.int b, .int m] ∧ b.natAbs < 2 ^ 200 ∧ m ≤ 100000 ∧ Q (.int (b ^ m)) H
theorem pow_size {b : Int} {m : Nat} (hb : b.natAbs < 2 ^ 200) : (b ^ m).natAbs < 2 ^ (200 * m + 1) := by
  rw [Int.natAbs_pow]
  have h1 : b.natAbs ^ m ≤ (2 ^ 200) ^ m := Nat.pow_le_pow_left (Nat.le_of_lt hb) m
  rw [← Nat.pow_mul] at h1
  exact Nat.lt_of_le_of_lt h1 (Nat.pow_lt_pow_right (by decide) (Nat.lt_succ_self _))
theorem pow_mul_size {b x y : Int} {m : Nat} (hb : b.natAbs < 2 ^ 200) (hm : m ≤ 100000) (hx : x ∣ b ^ m) (hy : y ∣ b ^ m) (h0 : b ≠ 0) : CMulC x y := by
  have hz := pow_size (m := m) hb
  have hp : b ^ m ≠ 0 := Int.pow_ne_zero h0
  have key : ∀ z : Int, z ∣ b ^ m → z.natAbs < 2 ^ (200 * m + 1) := fun z hd =>
    Nat.lt_of_le_of_lt (Nat.le_of_dvd (Int.natAbs_pos.mpr hp) (Int.natAbs_dvd_natAbs.mpr hd)) hz
  exact .inr (mulx_ok (key x hx) (key y hy) (by omega))
def sp_is_whole (K : PySem.W.Frag) : Sp := fun vs H Q _ => ∃ x lo hi, vs = [x, .int lo, .int hi] ∧ KindOk K H x ∧ Q (.bl (wholeIn x lo hi)) H
def sp_need_fraction : Sp := fun vs H Q _ => ∃ n d : Int, vs = [.int n, .int d] ∧ -(10 ^ 3000) < n ∧ n < 10 ^ 3000 ∧ 1 ≤ d ∧ d ≤ 10 ^ 3000 ∧ Q .non H
def shapeOk (s : Sh) : Bool := wholeIn (.int s.p) 2 64 && (wholeIn (.int s.lo) (-1100) 0 && wholeIn (.int s.hi) s.lo 1000)
theorem shapeOk_of {s : Sh} (h : s.Ok) : shapeOk s = true := by
  unfold shapeOk
  rw [wholeIn_yes h.p1 h.p2, wholeIn_yes h.l1 h.l2, wholeIn_yes h.h1 h.h2]
  rfl
def sp_is_shape (K : PySem.W.Frag) : Sp := fun vs H Q _ => ∃ (t : Addr) (s : Sh), vs = [.ref t] ∧ SqT K H t s.vs ∧ Q (.bl (shapeOk s)) H
def isWay : V → Bool
  | .str z => inV (.str z) [.str "nearest", .str "away", .str "zero", .str "up", .str "down"]
  | _ => false
def KindS (K : PySem.W.Frag) (H : Hp) (x : V) : Prop := (∃ z, x = .str z) ∨ ((∀ z, x ≠ .str z) ∧ ∃ t, TyX K H x t ∧ PySem.W.kitOne K t (.type "str") = some false)
def sp_is_way (K : PySem.W.Frag) : Sp := fun vs H Q _ => ∃ x, vs = [x] ∧ KindS K H x ∧ ∀ H', Same H H' → Q (.bl (isWay x)) H'
theorem isWay_iff {z : Str} : isWay (.str z) = true ↔ z = "nearest" ∨ z = "away" ∨ z = "zero" ∨ z = "up" ∨ z = "down" := by
  have e : isWay (.str z) = (("nearest" == z) || (("away" == z) || (("zero" == z) || (("up" == z) || (("down" == z) || false))))) := rfl
  rw [e]
  simp only [Bool.or_eq_true, beq_iff_eq, Bool.false_eq_true, or_false]
  constructor
  · rintro (h | h | h | h | h)
    · exact .inl h.symm
    · exact .inr (.inl h.symm)
    · exact .inr (.inr (.inl h.symm))
    · exact .inr (.inr (.inr (.inl h.symm)))
    · exact .inr (.inr (.inr (.inr h.symm)))
  · rintro (h | h | h | h | h)
    · exact .inl h.symm
    · exact .inr (.inl h.symm)
    · exact .inr (.inr (.inl h.symm))
    · exact .inr (.inr (.inr (.inl h.symm)))
    · exact .inr (.inr (.inr (.inr h.symm)))
theorem isWay_of {z : Str} (h : z = "nearest" ∨ z = "away" ∨ z = "zero" ∨ z = "up" ∨ z = "down") : isWay (.str z) = true := isWay_iff.mpr h
def scaleOf (lo : Int) : V → Int
  | .int i => i
  | _ => lo
def sp_Number_init (K : PySem.W.Frag) (C : Addr) : Sp := fun vs H Q _ => ∃ (a dx t : Addr) (x : Nm) (ex : V), vs = [.ref a, .ref t, .int x.side, .int x.bits, ex] ∧ H a = some (.ins C dx []) ∧ SqT K H t x.sh.vs ∧ (ex = .non ∨ ∃ i, ex = .int i) ∧ x.scale = scaleOf x.sh.lo ex ∧ x.Fin ∧
  ∀ H', (∀ b, b ≠ a → H' b = H b) → H' a = some (.ins C dx (x.fs t)) → Q .non H'
/-- d * 2 ^ o is at most s, and s less than d * 2 ^ (o + 1) -/
def HalvSpec (s d o : Int) : Prop := d * 2 ^ o.toNat ≤ s * 2 ^ (-o).toNat ∧ s * 2 ^ (-(o + 1)).toNat < d * 2 ^ (o + 1).toNat
theorem halv_many {n d : Int} {A B : Nat} (a1 : 2 ^ A ≤ n) (a2 : n < 2 ^ (A + 1)) (b1 : 2 ^ B ≤ d) (b2 : d < 2 ^ (B + 1)) :
    (d * 2 ^ ((A : Int) - B).toNat ≤ n * 2 ^ (-((A : Int) - B)).toNat → HalvSpec n d ((A : Int) - B)) ∧ (¬ d * 2 ^ ((A : Int) - B).toNat ≤ n * 2 ^ (-((A : Int) - B)).toNat → HalvSpec n d ((A : Int) - B - 1)) := by
  have key1 : n * 2 ^ (B + 1) < d * 2 ^ (A + 2) := by
    have h1 : n * 2 ^ (B + 1) < 2 ^ (A + 1) * 2 ^ (B + 1) := Int.mul_lt_mul_of_pos_right a2 (p2 _)
    have h2 : (2 : Int) ^ B * 2 ^ (A + 2) ≤ d * 2 ^ (A + 2) := Int.mul_le_mul_of_nonneg_right b1 (Int.le_of_lt (p2 _))
    have e : (2 : Int) ^ (A + 1) * 2 ^ (B + 1) = 2 ^ B * 2 ^ (A + 2) := by
      rw [← p2_add, ← p2_add]
      congr 1
      omega
    omega
  have key2 : d * 2 ^ A ≤ n * 2 ^ (B + 1) := by
    have h1 : d * 2 ^ A ≤ 2 ^ (B + 1) * 2 ^ A := Int.mul_le_mul_of_nonneg_right (Int.le_of_lt b2) (Int.le_of_lt (p2 _))
    have h2 : (2 : Int) ^ A * 2 ^ (B + 1) ≤ n * 2 ^ (B + 1) := Int.mul_le_mul_of_nonneg_right a1 (Int.le_of_lt (p2 _))
    rw [Int.mul_comm ((2 : Int) ^ A)] at h2
    omega
  constructor
  · intro h
    refine ⟨h, (by_pow' (N := B + 1) (by omega)).mpr ?_⟩
    rw [show ((A : Int) - B + 1 + ((B + 1 : Nat) : Int)).toNat = A + 2 by omega]
    exact key1
  · intro h
    refine ⟨(by_pow (N := B + 1) (by omega)).mpr ?_, ?_⟩
    · rw [show ((A : Int) - B - 1 + ((B + 1 : Nat) : Int)).toNat = A by omega]
      exact key2
    · rw [show (A : Int) - B - 1 + 1 = (A : Int) - B by omega]
      omega
def sp_halvings_in : Sp := fun vs H Q _ => ∃ s d : Int, vs = [.int s, .int d] ∧ 0 < s ∧ 0 < d ∧ s.natAbs < 2 ^ 100000 ∧ d.natAbs < 2 ^ 100000 ∧ ∀ o, HalvSpec s d o → -100001 ≤ o → o ≤ 100001 → Q (.int o) H
def wholeOf (n d : Int) (w : Str) : Int :=
  if n % d = 0 ∨ w = "down" then n / d else if w = "up" then n / d + 1 else if w = "zero" then (if 0 < n then n / d else n / d + 1)
  else if 2 * (n % d) = d then (if w = "nearest" then n / d + n / d % 2 else n / d + (if 0 < n then 1 else 0)) else n / d + (if d < 2 * (n % d) then 1 else 0)
def sp_whole_of : Sp := fun vs H Q _ => ∃ (n d : Int) (w : Str), vs = [.int n, .int d, .str w] ∧ CDivC n d ∧ ∀ H', Same H H' → Q (.int (wholeOf n d w)) H'
theorem two_le_pow {n : Nat} (h : 1 ≤ n) : (2 : Int) ≤ 2 ^ n := by
  obtain ⟨k, rfl⟩ : ∃ k, n = k + 1 := ⟨n - 1, by omega⟩
  have := PySem.W.kbt_pos k
  rw [Int.pow_succ]
  omega
theorem pow_half {p : Int} (h : 2 ≤ p) : (2 : Int) ^ p.toNat = 2 * 2 ^ (p - 1).toNat ∧ (2 : Int) ≤ 2 ^ (p - 1).toNat := by
  have e : p.toNat = (p - 1).toNat + 1 := by omega
  constructor
  · rw [e, Int.pow_succ, Int.mul_comm]
  · exact two_le_pow (by omega)
theorem fin_great {sh : Sh} (h : sh.Ok) {side : Int} (s1 : 0 ≤ side) (s2 : side ≤ 1) : (greatN sh side).Fin := by
  obtain ⟨e1, e2⟩ := pow_half h.p1
  refine ⟨h, s1, s2, ?_, ?_, h.h1, Int.le_refl _, fun _ => ?_, rfl⟩
  · show 0 ≤ (2 : Int) ^ sh.p.toNat - 1
    omega
  · show (2 : Int) ^ sh.p.toNat - 1 < 2 ^ sh.p.toNat
    omega
  · show (2 : Int) ^ (sh.p - 1).toNat ≤ 2 ^ sh.p.toNat - 1
    omega
def sp_greatest (K : PySem.W.Frag) (C : Addr) : Sp := fun vs H Q _ => ∃ (t : Addr) (sh : Sh) (side : Int), vs = [.ref t, .int side] ∧ SqT K H t sh.vs ∧ sh.Ok ∧ 0 ≤ side ∧ side ≤ 1 ∧ ∀ a H', H a = none → Same H H' → IsNum K C H' a (greatN sh side) → Q (.ref a) H'
def sp_infinite (K : PySem.W.Frag) (C : Addr) : Sp := fun vs H Q _ => ∃ (t : Addr) (sh : Sh) (side : Int), vs = [.ref t, .int side] ∧ SqT K H t sh.vs ∧ sh.Ok ∧ 0 ≤ side ∧ side ≤ 1 ∧ ∀ a H', H a = none → Same H H' → IsNum K C H' a (infN sh side) → Q (.ref a) H'
def overN (sh : Sh) (w : Str) (side : Int) : Nm := if w = "zero" ∨ (w = "up" ∧ side = 1) ∨ (w = "down" ∧ side = 0) then greatN sh side else infN sh side
def sp_overflown (K : PySem.W.Frag) (C : Addr) : Sp := fun vs H Q _ => ∃ (t : Addr) (sh : Sh) (side : Int) (w : Str), vs = [.ref t, .str w, .int side] ∧ SqT K H t sh.vs ∧ sh.Ok ∧ 0 ≤ side ∧ side ≤ 1 ∧ ∀ a H', H a = none → Same H H' → IsNum K C H' a (overN sh w side) → Q (.ref a) H'
def sideOf (n : Int) : Int := if n < 0 then 1 else 0
def rsE (sh : Sh) (o : Int) : Int := if o - sh.p + 1 > sh.lo then o - sh.p + 1 else sh.lo
def rsOver (s E : Int) : Int := s * 2 ^ (-E).toNat
def rsUnder (d E : Int) : Int := d * 2 ^ E.toNat
def rsB (n d E : Int) (w : Str) : Int := absI (wholeOf (if sideOf n = 1 then -(rsOver (absI n) E) else rsOver (absI n) E) (rsUnder d E) w)
def rsFin (n : Int) (sh : Sh) (w : Str) (o : Int) (inex : Prop) [Decidable inex] (b E : Int) : Nm × List Str :=
  if sh.hi < E then (overN sh w (sideOf n), ["inexact", "overflow"])
  else (finN sh (sideOf n) b E, if inex then (if o < sh.p - 1 + sh.lo then ["inexact", "underflow"] else ["inexact"]) else [])
def rsFun (n d : Int) (sh : Sh) (w : Str) (o : Int) : Nm × List Str :=
  if rsB n d (rsE sh o) w = 2 ^ sh.p.toNat then rsFin n sh w o (¬ rsB n d (rsE sh o) w * rsUnder d (rsE sh o) = rsOver (absI n) (rsE sh o)) (rsB n d (rsE sh o) w / 2) (rsE sh o + 1)
  else rsFin n sh w o (¬ rsB n d (rsE sh o) w * rsUnder d (rsE sh o) = rsOver (absI n) (rsE sh o)) (rsB n d (rsE sh o) w) (rsE sh o)
def RndIs (n d : Int) (sh : Sh) (w : Str) (sign : Int) (x : Nm) (fl : List Str) : Prop :=
  (n = 0 ∧ x = finN sh sign 0 sh.lo ∧ fl = []) ∨ (n ≠ 0 ∧ ∃ o, HalvSpec (absI n) d o ∧ rsFun n d sh w o = (x, fl))
/-- of the two next to it in size: q, or q + 1 where something is left -/
theorem whole_abs {v u : Int} {w : Str} {neg : Prop} [Decidable neg] (hv : 0 ≤ v) (hu : 0 < u) : absI (wholeOf (if neg then -v else v) u w) = v / u ∨ (absI (wholeOf (if neg then -v else v) u w) = v / u + 1 ∧ v % u ≠ 0) := by
  obtain ⟨q, r, e, h0, h3, hq, hr⟩ := wholeOf_parts v hu
  have q0 : 0 ≤ q := by
    rw [← hq]
    exact Int.ediv_nonneg hv (Int.le_of_lt hu)
  by_cases hn : neg
  · rw [if_pos hn]
    obtain ⟨eq, er⟩ := parts_neg hu e h0 h3
    by_cases z : r = 0
    · left
      rw [if_pos z] at eq er
      unfold wholeOf
      rw [er, if_pos (.inl rfl), eq, hq]
      unfold absI
      split <;> omega
    · rw [if_neg z] at eq er
      unfold wholeOf
      rw [er, eq, hq, hr]
      unfold absI
      repeat' split
      all_goals omega
  · rw [if_neg hn]
    unfold wholeOf
    rw [hq, hr]
    unfold absI
    repeat' split
    all_goals omega
section
variable {s d o : Int} {sh : Sh}
theorem rs_below (h : HalvSpec s d o) (hd : 0 < d) (hp : 0 ≤ sh.p) : rsOver s (rsE sh o) < 2 ^ sh.p.toNat * rsUnder d (rsE sh o) := by
  have hE : o - sh.p + 1 ≤ rsE sh o := by
    unfold rsE
    split <;> omega
  generalize rsE sh o = E at hE
  obtain ⟨N, hN⟩ : ∃ N : Nat, 0 ≤ o + 1 + N ∧ 0 ≤ E + N := ⟨(o.natAbs + E.natAbs), by omega, by omega⟩
  have h2 := (by_pow' (N := N) hN.1).mp h.2
  unfold rsOver rsUnder
  rw [← Int.mul_assoc, Int.mul_comm ((2 : Int) ^ sh.p.toNat) d]
  refine (by_pow' (N := N) hN.2).mpr (Int.lt_of_lt_of_le h2 ?_)
  rw [Int.mul_assoc, ← p2_add]
  refine Int.mul_le_mul_of_nonneg_left ?_ (Int.le_of_lt hd)
  exact p2_mono (by omega)
theorem rs_above (h : HalvSpec s d o) (hp : 1 ≤ sh.p) (hl : sh.lo < rsE sh o) : 2 ^ (sh.p - 1).toNat * rsUnder d (rsE sh o) ≤ rsOver s (rsE sh o) := by
  have hE : rsE sh o = o - sh.p + 1 := by
    unfold rsE at hl ⊢
    split
    · rfl
    · rename_i z
      rw [if_neg z] at hl
      omega
  generalize rsE sh o = E at hE
  obtain ⟨N, hN⟩ : ∃ N : Nat, 0 ≤ o + N ∧ 0 ≤ E + N := ⟨(o.natAbs + E.natAbs), by omega, by omega⟩
  have h2 := (by_pow (N := N) hN.1).mp h.1
  unfold rsOver rsUnder
  rw [← Int.mul_assoc, Int.mul_comm ((2 : Int) ^ (sh.p - 1).toNat) d]
  refine (by_pow (N := N) hN.2).mpr (Int.le_trans ?_ h2)
  rw [Int.mul_assoc, ← p2_add]
  rw [show (sh.p - 1).toNat + (E + (N : Int)).toNat = (o + N).toNat by omega]
  exact Int.le_refl _
end
/-- what b is -/
theorem rs_b {n d o : Int} {sh : Sh} {w : Str} (hn : n ≠ 0) (hd : 0 < d) (hok : sh.Ok) (h : HalvSpec (absI n) d o) :
    0 ≤ rsB n d (rsE sh o) w ∧ rsB n d (rsE sh o) w ≤ 2 ^ sh.p.toNat ∧ (sh.lo < rsE sh o → 2 ^ (sh.p - 1).toNat ≤ rsB n d (rsE sh o) w) ∧ sh.lo ≤ rsE sh o ∧
    (rsB n d (rsE sh o) w = rsOver (absI n) (rsE sh o) / rsUnder d (rsE sh o) ∨ (rsB n d (rsE sh o) w = rsOver (absI n) (rsE sh o) / rsUnder d (rsE sh o) + 1 ∧ rsOver (absI n) (rsE sh o) % rsUnder d (rsE sh o) ≠ 0)) := by
  have hs := absI_pos hn
  have hu : 0 < rsUnder d (rsE sh o) := Int.mul_pos hd (p2 _)
  have hv : 0 < rsOver (absI n) (rsE sh o) := Int.mul_pos hs (p2 _)
  have h1 := rs_below (sh := sh) h hd (by have := hok.p1; omega)
  have h2 := fun z => rs_above (sh := sh) h (by have := hok.p1; omega) z
  have hlo : sh.lo ≤ rsE sh o := by
    unfold rsE
    split <;> omega
  have hw := whole_abs (v := rsOver (absI n) (rsE sh o)) (u := rsUnder d (rsE sh o)) (w := w) (neg := sideOf n = 1) (Int.le_of_lt hv) hu
  have q1 : rsOver (absI n) (rsE sh o) / rsUnder d (rsE sh o) < 2 ^ sh.p.toNat := Int.ediv_lt_of_lt_mul hu h1
  have q0 : 0 ≤ rsOver (absI n) (rsE sh o) / rsUnder d (rsE sh o) := Int.ediv_nonneg (Int.le_of_lt hv) (Int.le_of_lt hu)
  have q2 : sh.lo < rsE sh o → 2 ^ (sh.p - 1).toNat ≤ rsOver (absI n) (rsE sh o) / rsUnder d (rsE sh o) := fun z => Int.le_ediv_of_mul_le hu (h2 z)
  have hw' : rsB n d (rsE sh o) w = rsOver (absI n) (rsE sh o) / rsUnder d (rsE sh o) ∨ (rsB n d (rsE sh o) w = rsOver (absI n) (rsE sh o) / rsUnder d (rsE sh o) + 1 ∧ rsOver (absI n) (rsE sh o) % rsUnder d (rsE sh o) ≠ 0) := hw
  generalize rsB n d (rsE sh o) w = b at hw' ⊢
  generalize rsOver (absI n) (rsE sh o) / rsUnder d (rsE sh o) = q at *
  refine ⟨by omega, by omega, fun z => ?_, hlo, hw'⟩
  have := q2 z
  omega
theorem side0 (n : Int) : 0 ≤ sideOf n := by
  unfold sideOf
  split <;> decide
theorem side1 (n : Int) : sideOf n ≤ 1 := by
  unfold sideOf
  split <;> decide
def sp_rounded_so (K : PySem.W.Frag) (C : Addr) : Sp := fun vs H Q _ => ∃ (n d : Int) (t : Addr) (sh : Sh) (w : Str) (sign : Int), vs = [.int n, .int d, .ref t, .str w, .int sign] ∧ SqT K H t sh.vs ∧ sh.Ok ∧ 0 < d ∧ n.natAbs < 2 ^ 100000 ∧ d.natAbs < 2 ^ 100000 ∧ 0 ≤ sign ∧ sign ≤ 1 ∧
  ∀ H' p a fa x fl, Same H H' → H p = none → H' p = some (.tup [.ref a, .ref fa]) → IsNum K C H' a x → H' fa = some (.tup (fl.map V.str)) → RndIs n d sh w sign x fl → Q (.ref p) H'
theorem size_big {n : Int} (h1 : -(10 ^ 3000) ≤ n) (h2 : n ≤ 10 ^ 3000) : n.natAbs < 2 ^ 100000 := by
  have e : n.natAbs ≤ 10 ^ 3000 := by
    have e2 : ((10 ^ 3000 : Nat) : Int) = 10 ^ 3000 := by rw [Int.natCast_pow]; rfl
    generalize (10 : Int) ^ 3000 = B at h1 h2 e2
    generalize (10 : Nat) ^ 3000 = C at e2 ⊢
    omega
  refine Nat.lt_of_le_of_lt e (Nat.lt_of_lt_of_le (m := 2 ^ 10000) (by decide +kernel) ?_)
  exact Nat.pow_le_pow_right (n := 2) (i := 10000) (j := 100000) (by decide) (by decide)
def sp_rounded (K : PySem.W.Frag) (C : Addr) : Sp := fun vs H Q _ => ∃ (n d : Int) (t : Addr) (sh : Sh) (w : Str) (sign : Int), vs = [.int n, .int d, .ref t, .str w, .int sign] ∧ SqT K H t sh.vs ∧ sh.Ok ∧ -(10 ^ 3000) < n ∧ n < 10 ^ 3000 ∧ 1 ≤ d ∧ d ≤ 10 ^ 3000 ∧ isWay (.str w) = true ∧ 0 ≤ sign ∧ sign ≤ 1 ∧
  ∀ H' p a fa x fl, Same H H' → H p = none → H' p = some (.tup [.ref a, .ref fa]) → IsNum K C H' a x → H' fa = some (.tup (fl.map V.str)) → RndIs n d sh w sign x fl → Q (.ref p) H'
def kindOf (x : Nm) : Str := if ¬ x.st = "finite" then x.st else if 2 ^ (x.sh.p - 1).toNat ≤ x.bits then "normal" else if x.bits = 0 then "zero" else "subnormal"
def sp_Number_kind (K : PySem.W.Frag) (C : Addr) : Sp := fun vs H Q _ => ∃ (a : Addr) (x : Nm), vs = [.ref a] ∧ IsNum K C H a x ∧ x.sh.Ok ∧ Q (.str (kindOf x)) H
def sp_Number_sign (K : PySem.W.Frag) (C : Addr) : Sp := fun vs H Q _ => ∃ (a : Addr) (x : Nm), vs = [.ref a] ∧ IsNum K C H a x ∧ Q (.int x.side) H
def sp_Number_need_finite (K : PySem.W.Frag) (C : Addr) : Sp := fun vs H Q _ => ∃ (a : Addr) (x : Nm), vs = [.ref a] ∧ IsNum K C H a x ∧ x.st = "finite" ∧ Q .non H
def sp_Number_parts (K : PySem.W.Frag) (C : Addr) : Sp := fun vs H Q _ => ∃ (a : Addr) (x : Nm), vs = [.ref a] ∧ IsNum K C H a x ∧ x.st = "finite" ∧ ∀ p H', H p = none → Same H H' → H' p = some (.tup [.int x.bits, .int x.scale]) → Q (.ref p) H'
def ways : List Str := ["nearest", "away", "zero", "up", "down"]
def sp__law_roads : Sp := fun vs H Q _ => vs = [] ∧ ∀ H' p, Same H H' → H p = none → H' p = some (.lst (ways.map V.str)) → Q (.ref p) H'
/-! ### values, scaled -/
def sc (e : Int) : Int := 2 ^ (e + 1100).toNat
theorem sc_pos (e : Int) : 0 < sc e := p2 _
theorem sc_add {e : Int} (h : -1100 ≤ e) (k : Nat) : sc (e + k) = sc e * 2 ^ k := by
  unfold sc
  rw [← p2_add]
  congr 1
  omega
theorem sc_to {a b : Int} (ha : -1100 ≤ a) (h : a ≤ b) : sc b = sc a * 2 ^ (b - a).toNat := by
  rw [← sc_add ha]
  congr 1
  omega
theorem sc_le {a b : Int} (h : a ≤ b) : sc a ≤ sc b := p2_mono (by omega)
theorem sc_next {a : Int} (ha : -1100 ≤ a) : sc (a + 1) = 2 * sc a := by
  have := sc_add ha 1
  rw [show ((1 : Nat) : Int) = 1 from rfl] at this
  rw [this, show (2 : Int) ^ 1 = 2 from rfl, Int.mul_comm]
theorem sc_lt {a b : Int} (ha : -1100 ≤ a) (hb : sc b < 2 * sc a) : b ≤ a := by
  rcases Int.lt_or_le a b with h | h
  · have h1 := sc_le (show a + 1 ≤ b by omega)
    rw [sc_next ha] at h1
    omega
  · exact h
theorem absI_shl (z : Int) (k : Nat) : absI (z * 2 ^ k) = absI z * 2 ^ k := by
  have hp := p2 k
  unfold absI
  by_cases h : z < 0
  · have h2 : z * 2 ^ k < 0 := Int.mul_neg_of_neg_of_pos h hp
    rw [if_pos h, if_pos h2, Int.neg_mul]
  · have h2 : ¬ z * 2 ^ k < 0 := by
      have := Int.mul_nonneg (show 0 ≤ z by omega) (Int.le_of_lt hp)
      omega
    rw [if_neg h, if_neg h2]
theorem rs_scale {z l E : Int} (hl : -1100 ≤ l) (hE : -1100 ≤ E) : rsOver (absI (z * 2 ^ l.toNat)) E * sc E = absI z * sc l * rsUnder (2 ^ (-l).toNat) E := by
  rw [absI_shl]
  unfold rsOver rsUnder sc
  rw [← p2_add, Int.mul_assoc, Int.mul_assoc, ← p2_add, ← p2_add, Int.mul_assoc, ← p2_add]
  congr 2
  omega
/-- by the near ways the nearer one -/
theorem whole_near {v u : Int} {w : Str} {neg : Prop} [Decidable neg] (hv : 0 ≤ v) (hu : 0 < u) (hw : w = "nearest" ∨ w = "away") :
    (absI (wholeOf (if neg then -v else v) u w) = v / u ∧ 2 * (v % u) ≤ u) ∨ (absI (wholeOf (if neg then -v else v) u w) = v / u + 1 ∧ u ≤ 2 * (v % u)) := by
  obtain ⟨q, r, e, h0, h3, hq, hr⟩ := wholeOf_parts v hu
  have q0 : 0 ≤ q := by
    rw [← hq]
    exact Int.ediv_nonneg hv (Int.le_of_lt hu)
  have w1 : ¬ w = "down" := by rcases hw with rfl | rfl <;> decide
  have w2 : ¬ w = "up" := by rcases hw with rfl | rfl <;> decide
  have w3 : ¬ w = "zero" := by rcases hw with rfl | rfl <;> decide
  have v0 : 0 < v ∨ r = 0 := by
    rcases Int.lt_or_le 0 v with h | h
    · exact .inl h
    · right
      have : v = 0 := by omega
      rw [← hr, this, Int.zero_emod]
  by_cases hn : neg
  · rw [if_pos hn]
    obtain ⟨eq, er⟩ := parts_neg hu e h0 h3
    by_cases z : r = 0
    · left
      rw [if_pos z] at eq er
      unfold wholeOf
      rw [er, if_pos (.inl rfl), eq, hq, hr]
      unfold absI
      split <;> omega
    · rw [if_neg z] at eq er
      unfold wholeOf
      rw [er, eq, hq, hr, if_neg (fun y => y.elim (by omega) w1), if_neg w2, if_neg w3]
      unfold absI
      repeat' split
      all_goals omega
  · rw [if_neg hn]
    unfold wholeOf
    rw [hq, hr]
    by_cases z : r = 0
    · rw [if_pos (.inl z)]
      unfold absI
      repeat' split
      all_goals omega
    rw [if_neg (fun y => y.elim z w1), if_neg w2, if_neg w3]
    unfold absI
    repeat' split
    all_goals omega
/-- what rounding comes to, all scaled -/
def RndC (sh : Sh) (w : Str) (side Sz : Int) (x : Nm) (fl : List Str) (b E : Int) : Prop :=
  sh.lo ≤ E ∧ 0 ≤ b ∧ b ≤ 2 ^ sh.p.toNat ∧ Sz < 2 ^ sh.p.toNat * sc E ∧ (sh.lo < E → 2 ^ (sh.p - 1).toNat * sc E ≤ Sz) ∧ -(sc E) < b * sc E - Sz ∧ b * sc E - Sz < sc E ∧
  (w = "nearest" ∨ w = "away" → 2 * (b * sc E - Sz) ≤ sc E ∧ -(sc E) ≤ 2 * (b * sc E - Sz)) ∧
  ((x = overN sh w side ∧ fl = (["inexact", "overflow"] : List Str) ∧ (sh.hi < E ∨ sh.hi < E + 1 ∧ b = 2 ^ sh.p.toNat)) ∨
   ∃ b' E', x = finN sh side b' E' ∧ x.Fin ∧ b' * sc E' = b * sc E ∧ (fl = [] ↔ b * sc E = Sz))
theorem rnd_core {z l : Int} {sh : Sh} {w : Str} {sign : Int} {x : Nm} {fl : List Str} (hz : z ≠ 0) (hl : -1100 ≤ l) (hok : sh.Ok) (h : RndIs (z * 2 ^ l.toNat) (2 ^ (-l).toNat) sh w sign x fl) :
    ∃ b E, RndC sh w (sideOf z) (absI z * sc l) x fl b E := by
  obtain ⟨p1, p2', l1, l2, h1, h2⟩ := id hok
  have hn : z * 2 ^ l.toNat ≠ 0 := Int.mul_ne_zero hz (by have := p2 l.toNat; omega)
  have hside : sideOf (z * 2 ^ l.toNat) = sideOf z := by
    have hp := p2 l.toNat
    unfold sideOf
    by_cases c : z < 0
    · rw [if_pos c, if_pos (Int.mul_neg_of_neg_of_pos c hp)]
    · have := Int.mul_nonneg (show 0 ≤ z by omega) (Int.le_of_lt hp)
      rw [if_neg c, if_neg (by omega)]
  have hd : (0 : Int) < 2 ^ (-l).toNat := p2 _
  rcases h with ⟨h, _⟩ | ⟨_, o, ho, hf⟩
  · exact absurd h hn
  obtain ⟨r1, r2, r3, r4, r5⟩ := rs_b (w := w) hn hd hok ho
  have hE : -1100 ≤ rsE sh o := by omega
  have hs := rs_scale (z := z) hl hE
  have hu : 0 < rsUnder (2 ^ (-l).toNat) (rsE sh o) := Int.mul_pos hd (p2 _)
  have hv : 0 < rsOver (absI (z * 2 ^ l.toNat)) (rsE sh o) := Int.mul_pos (absI_pos hn) (p2 _)
  have hb1 := rs_below (sh := sh) ho hd (by omega)
  have hb2 := fun y => rs_above (sh := sh) ho (by omega) y
  have hnear := fun hw => whole_near (v := rsOver (absI (z * 2 ^ l.toNat)) (rsE sh o)) (u := rsUnder (2 ^ (-l).toNat) (rsE sh o)) (w := w) (neg := sideOf (z * 2 ^ l.toNat) = 1) (Int.le_of_lt hv) hu hw
  change _ → (rsB (z * 2 ^ l.toNat) (2 ^ (-l).toNat) (rsE sh o) w = _ ∧ _) ∨ (rsB (z * 2 ^ l.toNat) (2 ^ (-l).toNat) (rsE sh o) w = _ ∧ _) at hnear
  unfold rsFun at hf
  have hW := sc_pos (rsE sh o)
  have hWn := sc_next hE
  generalize hEe : rsE sh o = E at *
  generalize rsB (z * 2 ^ l.toNat) (2 ^ (-l).toNat) E w = b at *
  generalize rsOver (absI (z * 2 ^ l.toNat)) E = v at *
  generalize rsUnder (2 ^ (-l).toNat) E = u at *
  generalize absI z * sc l = S at *
  have hq : u * (v / u) + v % u = v := Int.mul_ediv_add_emod v u
  have hr0 : 0 ≤ v % u := Int.emod_nonneg _ (by omega)
  have hr1 : v % u < u := Int.emod_lt_of_pos _ hu
  -- the distance
  have hD : (b * sc E - S) * u = (b * u - v) * sc E := by
    rw [Int.sub_mul, Int.sub_mul, ← hs, Int.mul_assoc, Int.mul_comm (sc E) u, ← Int.mul_assoc]
  have hdel : -u < b * u - v ∧ b * u - v < u := by
    rcases r5 with e | ⟨e, _⟩
    · rw [e, Int.mul_comm (v / u) u]
      omega
    · rw [e, Int.add_mul, Int.one_mul, Int.mul_comm (v / u) u]
      omega
  have hdel2 : w = "nearest" ∨ w = "away" → 2 * (b * u - v) ≤ u ∧ -u ≤ 2 * (b * u - v) := fun hw => by
    rcases hnear hw with ⟨e, y⟩ | ⟨e, y⟩
    · rw [e, Int.mul_comm (v / u) u]
      omega
    · rw [e, Int.add_mul, Int.one_mul, Int.mul_comm (v / u) u]
      omega
  generalize hdd : b * u - v = δ at *
  have hlt : ∀ {i j : Int}, i * u < j * u → i < j := fun h => Int.lt_of_mul_lt_mul_right h (Int.le_of_lt hu)
  have hle : ∀ {i j : Int}, i * u ≤ j * u → i ≤ j := fun h => Int.le_of_mul_le_mul_right h hu
  have hex : (b * u = v) ↔ b * sc E = S := by
    constructor
    · intro y
      have : δ = 0 := by omega
      rw [this, Int.zero_mul] at hD
      rcases Int.mul_eq_zero.mp hD with y | y <;> omega
    · intro y
      rw [show b * sc E - S = 0 by omega, Int.zero_mul] at hD
      rcases Int.mul_eq_zero.mp hD.symm with y | y <;> omega
  refine ⟨b, E, r4, r1, r2, ?_, ?_, ?_, ?_, ?_, ?_⟩
  · refine hlt ?_
    rw [← hs, Int.mul_assoc, Int.mul_comm (sc E) u, ← Int.mul_assoc]
    exact Int.mul_lt_mul_of_pos_right hb1 hW
  · intro y
    refine hle ?_
    rw [← hs, Int.mul_assoc, Int.mul_comm (sc E) u, ← Int.mul_assoc]
    exact Int.mul_le_mul_of_nonneg_right (hb2 y) (Int.le_of_lt hW)
  · refine hlt ?_
    rw [hD, Int.neg_mul, Int.mul_comm (sc E) u, ← Int.neg_mul]
    exact Int.mul_lt_mul_of_pos_right hdel.1 hW
  · refine hlt ?_
    rw [hD, Int.mul_comm (sc E) u]
    exact Int.mul_lt_mul_of_pos_right hdel.2 hW
  · intro hw
    obtain ⟨y1, y2⟩ := hdel2 hw
    constructor
    · refine hle ?_
      rw [Int.mul_assoc, hD, Int.mul_comm (sc E) u, ← Int.mul_assoc]
      exact Int.mul_le_mul_of_nonneg_right y1 (Int.le_of_lt hW)
    · refine hle ?_
      rw [Int.mul_assoc, hD, Int.neg_mul, Int.mul_comm (sc E) u, ← Int.neg_mul, ← Int.mul_assoc]
      exact Int.mul_le_mul_of_nonneg_right y2 (Int.le_of_lt hW)
  · have hpp : (2 : Int) ^ sh.p.toNat = 2 * 2 ^ (sh.p - 1).toNat := by
      rw [show sh.p.toNat = (sh.p - 1).toNat + 1 by omega, p2_add, Int.mul_comm]
      rfl
    have hp1 := p2 (sh.p - 1).toNat
    have flg : ∀ c : Prop, ∀ [Decidable c], ((if ¬ b * u = v then (if c then (["inexact", "underflow"] : List Str) else ["inexact"]) else []) = []) ↔ b * sc E = S := fun c _ => by
      rw [← hex]
      by_cases y : b * u = v
      · rw [if_neg (fun k => k y)]
        exact ⟨fun _ => y, fun _ => rfl⟩
      · rw [if_pos y]
        constructor
        · intro k
          split at k <;> cases k
        · exact fun k => absurd k y
    by_cases hb : b = 2 ^ sh.p.toNat
    · rw [if_pos hb] at hf
      unfold rsFin at hf
      rw [hside] at hf
      by_cases hh : sh.hi < E + 1
      · rw [if_pos hh] at hf
        injection hf with f1 f2
        exact .inl ⟨f1.symm, f2.symm, .inr ⟨hh, hb⟩⟩
      · rw [if_neg hh] at hf
        injection hf with f1 f2
        refine .inr ⟨b / 2, E + 1, f1.symm, ?_, ?_, by rw [← f2]; exact flg _⟩
        · rw [← f1]
          refine ⟨hok, side0 _, side1 _, ?_, ?_, ?_, ?_, ?_, rfl⟩
          · show 0 ≤ b / 2
            omega
          · show b / 2 < 2 ^ sh.p.toNat
            omega
          · show sh.lo ≤ E + 1
            omega
          · show E + 1 ≤ sh.hi
            omega
          · show sh.lo < E + 1 → 2 ^ (sh.p - 1).toNat ≤ b / 2
            omega
        · rw [hWn, ← Int.mul_assoc, show b / 2 * 2 = b by omega]
    · rw [if_neg hb] at hf
      unfold rsFin at hf
      rw [hside] at hf
      by_cases hh : sh.hi < E
      · rw [if_pos hh] at hf
        injection hf with f1 f2
        exact .inl ⟨f1.symm, f2.symm, .inl hh⟩
      · rw [if_neg hh] at hf
        injection hf with f1 f2
        refine .inr ⟨b, E, f1.symm, ?_, rfl, by rw [← f2]; exact flg _⟩
        rw [← f1]
        refine ⟨hok, side0 _, side1 _, r1, ?_, r4, ?_, r3, rfl⟩
        · show b < 2 ^ sh.p.toNat
          omega
        · show E ≤ sh.hi
          omega
def valS (x : Nm) : Int := (1 - 2 * x.side) * (x.bits * sc x.scale)
theorem signed (z l : Int) : z * sc l = (1 - 2 * sideOf z) * (absI z * sc l) := by
  unfold sideOf absI
  split
  · rw [show (1 : Int) - 2 * 1 = -1 by decide, Int.neg_mul, Int.one_mul, Int.neg_mul, Int.neg_neg]
  · rw [show (1 : Int) - 2 * 0 = 1 by decide, Int.one_mul]
theorem side_or (z : Int) : 1 - 2 * sideOf z = 1 ∨ 1 - 2 * sideOf z = -1 := by
  unfold sideOf
  split
  · right
    decide
  · left
    decide
theorem absI_mul_pos (z : Int) {c : Int} (hc : 0 < c) : absI (z * c) = absI z * c := by
  unfold absI
  by_cases h : z < 0
  · rw [if_pos h, if_pos (Int.mul_neg_of_neg_of_pos h hc), Int.neg_mul]
  · have := Int.mul_nonneg (show 0 ≤ z by omega) (Int.le_of_lt hc)
    rw [if_neg h, if_neg (by omega)]
/-- what can be told is told -/
theorem rnd_exact {z l k e : Int} {sh : Sh} {w : Str} {sign : Int} {x : Nm} {fl : List Str} (hok : sh.Ok) (hl : -1100 ≤ l) (hk : z * sc l = k * sc e) (k1 : -(2 ^ sh.p.toNat) < k) (k2 : k < 2 ^ sh.p.toNat) (e1 : sh.lo ≤ e) (e2 : e ≤ sh.hi) (g1 : 0 ≤ sign) (g2 : sign ≤ 1)
    (h : RndIs (z * 2 ^ l.toNat) (2 ^ (-l).toNat) sh w sign x fl) : fl = [] ∧ x.Fin ∧ valS x = z * sc l := by
  obtain ⟨p1, p2', l1, l2, h1, h2⟩ := id hok
  by_cases hz : z = 0
  · subst hz
    rcases h with ⟨_, rfl, rfl⟩ | ⟨h, _⟩
    · refine ⟨rfl, fin_zero hok g1 g2, ?_⟩
      unfold valS finN
      simp only [Int.zero_mul, Int.mul_zero]
    · exact absurd (Int.zero_mul _) h
  obtain ⟨b, E, c1, c2, c3, c4, c5, c6, c7, _, c9⟩ := rnd_core hz hl hok h
  have hS : absI z * sc l = absI k * sc e := by
    rw [← absI_mul_pos z (sc_pos l), hk, absI_mul_pos k (sc_pos e)]
  have hpp : (2 : Int) ^ sh.p.toNat = 2 * 2 ^ (sh.p - 1).toNat := by
    rw [show sh.p.toNat = (sh.p - 1).toNat + 1 by omega, p2_add, Int.mul_comm]
    rfl
  have hp1 := p2 (sh.p - 1).toNat
  have ka : absI k < 2 ^ sh.p.toNat := by
    unfold absI
    split <;> omega
  have hEe : E ≤ e := by
    rcases Int.lt_or_le sh.lo E with y | y
    · have y1 := c5 y
      rw [hS] at y1
      have y2 : absI k * sc e < 2 ^ sh.p.toNat * sc e := Int.mul_lt_mul_of_pos_right ka (sc_pos e)
      rw [hpp, Int.mul_comm 2, Int.mul_assoc] at y2
      have y3 : 2 ^ (sh.p - 1).toNat * sc E < 2 ^ (sh.p - 1).toNat * (2 * sc e) := Int.lt_of_le_of_lt y1 y2
      exact sc_lt (by omega) (Int.lt_of_mul_lt_mul_left y3 (Int.le_of_lt hp1))
    · omega
  have hj : absI z * sc l = (absI k * 2 ^ (e - E).toNat) * sc E := by
    rw [hS, sc_to (show -1100 ≤ E by omega) hEe, Int.mul_comm (sc E), Int.mul_assoc]
  have hW := sc_pos E
  have hsg := signed z l
  generalize absI z * sc l = S at *
  have hb : b * sc E = S := by
    generalize absI k * 2 ^ (e - E).toNat = j at hj
    have : b = j := by
      rcases Int.lt_or_le b j with y | y
      · have := Int.mul_le_mul_of_nonneg_right (show b + 1 ≤ j by omega) (Int.le_of_lt hW)
        rw [Int.add_mul, Int.one_mul] at this
        omega
      · rcases Int.lt_or_le j b with y | y
        · have := Int.mul_le_mul_of_nonneg_right (show j + 1 ≤ b by omega) (Int.le_of_lt hW)
          rw [Int.add_mul, Int.one_mul] at this
          omega
        · omega
    rw [this, hj]
  rcases c9 with ⟨_, _, y⟩ | ⟨b', E', rfl, f2, f3, f4⟩
  · rcases y with y | ⟨_, y⟩
    · omega
    · rw [y] at hb
      omega
  · refine ⟨f4.mpr hb, f2, ?_⟩
    show (1 - 2 * sideOf z) * (b' * sc E') = z * sc l
    rw [f3, hb, hsg]
/-- none of the lattice is nearer -/
theorem near_lat {S b W : Int} (hW : 0 < W) (n1 : 2 * (b * W - S) ≤ W) (n2 : -W ≤ 2 * (b * W - S)) (j : Int) : absI (S - b * W) ≤ absI (S - j * W) := by
  rcases Int.lt_or_le b j with y | y
  · have := Int.mul_le_mul_of_nonneg_right (show b + 1 ≤ j by omega) (Int.le_of_lt hW)
    rw [Int.add_mul, Int.one_mul] at this
    unfold absI
    repeat' split
    all_goals omega
  · rcases Int.lt_or_le j b with y | y
    · have := Int.mul_le_mul_of_nonneg_right (show j + 1 ≤ b by omega) (Int.le_of_lt hW)
      rw [Int.add_mul, Int.one_mul] at this
      unfold absI
      repeat' split
      all_goals omega
    · rw [show j = b by omega]
      exact Int.le_refl _
theorem near_any {S b E bg eg tau : Int} {sh : Sh} (hok : sh.Ok) (c1 : sh.lo ≤ E) (c5 : sh.lo < E → 2 ^ (sh.p - 1).toNat * sc E ≤ S) (n1 : 2 * (b * sc E - S) ≤ sc E) (n2 : -(sc E) ≤ 2 * (b * sc E - S))
    (ht : tau = 1 ∨ tau = -1) (g0 : 0 ≤ bg) (g1 : bg < 2 ^ sh.p.toNat) (g2 : sh.lo ≤ eg) : absI (S - b * sc E) ≤ absI (S - tau * (bg * sc eg)) := by
  obtain ⟨p1, p2', l1, l2, h1, h2⟩ := id hok
  have hW := sc_pos E
  rcases Int.lt_or_le eg E with y | y
  · have hpp : (2 : Int) ^ sh.p.toNat = 2 * 2 ^ (sh.p - 1).toNat := by
      rw [show sh.p.toNat = (sh.p - 1).toNat + 1 by omega, p2_add, Int.mul_comm]
      rfl
    have hp1 := p2 (sh.p - 1).toNat
    have y1 := c5 (by omega)
    have y2 := near_lat hW n1 n2 (2 ^ (sh.p - 1).toNat)
    have y3 : 2 * sc eg ≤ sc E := by
      rw [← sc_next (by omega)]
      exact sc_le (by omega)
    have y4 : bg * sc eg ≤ 2 ^ sh.p.toNat * sc eg := Int.mul_le_mul_of_nonneg_right (Int.le_of_lt g1) (Int.le_of_lt (sc_pos eg))
    rw [hpp, Int.mul_comm 2, Int.mul_assoc] at y4
    have y5 : 2 ^ (sh.p - 1).toNat * (2 * sc eg) ≤ 2 ^ (sh.p - 1).toNat * sc E := Int.mul_le_mul_of_nonneg_left y3 (Int.le_of_lt hp1)
    have y6 : 0 ≤ bg * sc eg := Int.mul_nonneg g0 (Int.le_of_lt (sc_pos eg))
    refine Int.le_trans y2 ?_
    generalize bg * sc eg = G at *
    rcases ht with rfl | rfl
    · unfold absI
      repeat' split
      all_goals omega
    · unfold absI
      repeat' split
      all_goals omega
  · have := near_lat hW n1 n2 (tau * (bg * 2 ^ (eg - E).toNat))
    rw [sc_to (show -1100 ≤ E by omega) y, Int.mul_comm (sc E), ← Int.mul_assoc bg, ← Int.mul_assoc tau]
    exact this
/-- by the near ways: told without an end, or none nearer -/
theorem rnd_near {z l : Int} {sh : Sh} {w : Str} {x : Nm} {fl : List Str} (hok : sh.Ok) (hl : sh.lo ≤ l) (hw : w = "nearest" ∨ w = "away") (h : RndIs (z * 2 ^ l.toNat) (2 ^ (-l).toNat) sh w 0 x fl) :
    (∃ sd, x = infN sh sd ∧ fl = (["inexact", "overflow"] : List Str)) ∨ (x.Fin ∧ x.sh = sh ∧ (fl = [] ↔ z * sc l - valS x = 0) ∧ (∃ k, z * sc l - valS x = k * sc l) ∧
      ∀ tau bg eg, (tau = 1 ∨ tau = -1) → 0 ≤ bg → bg < 2 ^ sh.p.toNat → sh.lo ≤ eg → absI (z * sc l - valS x) ≤ absI (z * sc l - tau * (bg * sc eg))) := by
  obtain ⟨p1, p2', l1, l2, h1, h2⟩ := id hok
  by_cases hz : z = 0
  · subst hz
    rcases h with ⟨_, rfl, rfl⟩ | ⟨h, _⟩
    · right
      have e : valS (finN sh 0 0 sh.lo) = 0 := by
        unfold valS finN
        simp only [Int.zero_mul, Int.mul_zero]
      refine ⟨fin_zero hok (by decide) (by decide), rfl, ?_, ⟨0, ?_⟩, fun tau bg eg _ _ _ _ => ?_⟩
      · rw [e, Int.zero_mul]
        exact ⟨fun _ => rfl, fun _ => rfl⟩
      · rw [e, Int.zero_mul]
        rfl
      · rw [e, Int.zero_mul, Int.sub_zero]
        unfold absI
        repeat' split
        all_goals omega
    · exact absurd (Int.zero_mul _) h
  obtain ⟨b, E, c1, c2, c3, c4, c5, c6, c7, c8, c9⟩ := rnd_core hz (by omega) hok h
  obtain ⟨n1, n2⟩ := c8 hw
  have hW := sc_pos E
  have hsg := signed z l
  have hso := side_or z
  rcases c9 with ⟨rfl, rfl, y⟩ | ⟨b', E', rfl, f2, f3, f4⟩
  · left
    refine ⟨sideOf z, ?_, rfl⟩
    unfold overN
    rw [if_neg]
    rintro (y | ⟨y, _⟩ | ⟨y, _⟩) <;> (rcases hw with rfl | rfl <;> exact absurd y (by decide))
  · right
    have hv : valS (finN sh (sideOf z) b' E') = (1 - 2 * sideOf z) * (b * sc E) := by
      show (1 - 2 * sideOf z) * (b' * sc E') = _
      rw [f3]
    rw [hv, hsg]
    have hlat : E < l → b * sc E = absI z * sc l := fun y => by
      have e : absI z * sc l = (absI z * 2 ^ (l - E).toNat) * sc E := by
        rw [sc_to (show -1100 ≤ E by omega) (show E ≤ l by omega), Int.mul_comm (sc E), Int.mul_assoc]
      have k := near_lat hW n1 n2 (absI z * 2 ^ (l - E).toNat)
      rw [← e] at k
      generalize b * sc E = X at *
      generalize absI z * sc l = Y at *
      rw [show Y - Y = 0 by omega] at k
      unfold absI at k
      repeat' split at k
      all_goals omega
    refine ⟨f2, rfl, ?_, ?_, ?_⟩
    · rw [f4]
      generalize b * sc E = X at *
      generalize absI z * sc l = Y at *
      rcases hso with e | e <;> rw [e] <;> omega
    · rcases Int.lt_or_le E l with y | y
      · refine ⟨0, ?_⟩
        rw [hlat y]
        omega
      · refine ⟨(1 - 2 * sideOf z) * (absI z - b * 2 ^ (E - l).toNat), ?_⟩
        generalize 1 - 2 * sideOf z = t
        rw [sc_to (show -1100 ≤ l by omega) y, Int.mul_assoc t, Int.sub_mul, Int.mul_sub, Int.mul_comm (sc l) ((2 : Int) ^ _), ← Int.mul_assoc b]
    · intro tau bg eg ht g0 g1 g2
      have key : ∀ t : Int, (t = 1 ∨ t = -1) → absI (absI z * sc l - b * sc E) ≤ absI (absI z * sc l - t * (bg * sc eg)) := fun t h => near_any hok c1 c5 n1 n2 h g0 g1 g2
      generalize absI z * sc l = Y at *
      generalize b * sc E = X at *
      generalize bg * sc eg = G at *
      have k1 := key 1 (.inl rfl)
      have k2 := key (-1) (.inr rfl)
      unfold absI at *
      rcases hso with e | e <;> rcases ht with rfl | rfl <;> rw [e] <;> (repeat' split) <;> (repeat' split at k1) <;> (repeat' split at k2) <;> omega
/-- the parts of a sum, scaled -/
def sgS (s b e : Int) : Int := (1 - 2 * s) * (b * sc e)
theorem sum_sc {s1 b1 e1 s2 b2 e2 : Int} (h1 : -1100 ≤ e1) (h2 : -1100 ≤ e2) : (b1 * 2 ^ (e1 - minI e1 e2).toNat * (1 - 2 * s1) + b2 * 2 ^ (e2 - minI e1 e2).toNat * (1 - 2 * s2)) * sc (minI e1 e2) = sgS s1 b1 e1 + sgS s2 b2 e2 := by
  have m1 : minI e1 e2 ≤ e1 := by
    unfold minI
    split <;> omega
  have m2 : minI e1 e2 ≤ e2 := by
    unfold minI
    split <;> omega
  have m3 : -1100 ≤ minI e1 e2 := by
    unfold minI
    split <;> omega
  unfold sgS
  rw [sc_to m3 m1, sc_to m3 m2]
  generalize (2 : Int) ^ (e1 - minI e1 e2).toNat = A
  generalize (2 : Int) ^ (e2 - minI e1 e2).toNat = B
  generalize sc (minI e1 e2) = c
  generalize 1 - 2 * s1 = u
  generalize 1 - 2 * s2 = v
  rw [Int.add_mul]
  congr 1 <;> simp only [Int.mul_assoc, Int.mul_comm, Int.mul_left_comm]
theorem sg_or {s : Int} (h0 : 0 ≤ s) (h1 : s ≤ 1) : 1 - 2 * s = 1 ∨ 1 - 2 * s = -1 := by omega
/-- a multiple that is small enough can be told -/
theorem small_mult {D k c B : Int} {M : Int} (hc : 0 < c) (hD : D = k * c) (h : absI D ≤ B * c) (hB : B < M) : -M < k ∧ k < M := by
  rw [hD, absI_mul_pos k hc] at h
  have := Int.le_of_mul_le_mul_right h hc
  unfold absI at this
  split at this <;> omega
/-- what is left of a sum -/
theorem sum_left {sh : Sh} {w : Str} {s1 b1 e1 s2 b2 e2 z : Int} {x : Nm} {fl : List Str} (f1 : (finN sh s1 b1 e1).Fin) (f2 : (finN sh s2 b2 e2).Fin) (hw : w = "nearest" ∨ w = "away")
    (hz : z * sc (minI e1 e2) = sgS s1 b1 e1 + sgS s2 b2 e2) (h : RndIs (z * 2 ^ (minI e1 e2).toNat) (2 ^ (-(minI e1 e2)).toNat) sh w 0 x fl) :
    (∃ sd, x = infN sh sd ∧ fl = (["inexact", "overflow"] : List Str)) ∨ (x.Fin ∧ x.sh = sh ∧ (fl = [] ↔ z * sc (minI e1 e2) - valS x = 0) ∧ ∃ k, z * sc (minI e1 e2) - valS x = k * sc (minI e1 e2) ∧ -(2 ^ sh.p.toNat) < k ∧ k < 2 ^ sh.p.toNat) := by
  have hok : sh.Ok := f1.ok
  have a1 : sh.lo ≤ e1 := f1.e1
  have a2 : sh.lo ≤ e2 := f2.e1
  have hm : minI e1 e2 = e1 ∨ minI e1 e2 = e2 := by
    unfold minI
    split <;> simp
  rcases rnd_near hok (by omega) hw h with y | ⟨y1, y2, y3, ⟨k, y4⟩, y5⟩
  · exact .inl y
  · refine .inr ⟨y1, y2, y3, k, y4, ?_⟩
    rcases hm with e | e
    · have q := y5 (1 - 2 * s2) b2 e2 (sg_or f2.s1 f2.s2) f2.b1 f2.b2 a2
      refine small_mult (B := b1) (sc_pos _) y4 (Int.le_trans q ?_) f1.b2
      rw [hz, e]
      show absI (sgS s1 b1 e1 + sgS s2 b2 e2 - sgS s2 b2 e2) ≤ _
      rw [Int.add_sub_cancel]
      have y0 : 0 ≤ b1 * sc e1 := Int.mul_nonneg f1.b1 (Int.le_of_lt (sc_pos e1))
      unfold sgS
      rcases sg_or f1.s1 f1.s2 with c | c
      all_goals
        change 1 - 2 * s1 = _ at c
        rw [c]
        generalize b1 * sc e1 = G at *
        unfold absI
        split <;> omega
    · have q := y5 (1 - 2 * s1) b1 e1 (sg_or f1.s1 f1.s2) f1.b1 f1.b2 a1
      refine small_mult (B := b2) (sc_pos _) y4 (Int.le_trans q ?_) f2.b2
      rw [hz, e]
      show absI (sgS s1 b1 e1 + sgS s2 b2 e2 - sgS s1 b1 e1) ≤ _
      rw [Int.add_comm, Int.add_sub_cancel]
      have y0 : 0 ≤ b2 * sc e2 := Int.mul_nonneg f2.b1 (Int.le_of_lt (sc_pos e2))
      unfold sgS
      rcases sg_or f2.s1 f2.s2 with c | c
      all_goals
        change 1 - 2 * s2 = _ at c
        rw [c]
        generalize b2 * sc e2 = G at *
        unfold absI
        split <;> omega
/-- the difference of two that are near -/
theorem near_diff {sh : Sh} {s1 b1 e1 s2 b2 e2 z : Int} (f1 : (finN sh s1 b1 e1).Fin) (f2 : (finN sh s2 b2 e2).Fin) (hz : z * sc (minI e1 e2) = b1 * sc e1 - b2 * sc e2) (h1 : 0 ≤ 2 * (b1 * sc e1) - b2 * sc e2) (h2 : 0 ≤ 2 * (b2 * sc e2) - b1 * sc e1) :
    -(2 ^ sh.p.toNat) < z ∧ z < 2 ^ sh.p.toNat := by
  have hm : minI e1 e2 = e1 ∨ minI e1 e2 = e2 := by
    unfold minI
    split <;> simp
  have y1 : 0 ≤ b1 * sc e1 := Int.mul_nonneg f1.b1 (Int.le_of_lt (sc_pos e1))
  have y2 : 0 ≤ b2 * sc e2 := Int.mul_nonneg f2.b1 (Int.le_of_lt (sc_pos e2))
  rcases hm with e | e
  · refine small_mult (B := b1) (sc_pos (minI e1 e2)) rfl ?_ f1.b2
    rw [hz, e]
    generalize b1 * sc e1 = X at *
    generalize b2 * sc e2 = Y at *
    unfold absI
    split <;> omega
  · refine small_mult (B := b2) (sc_pos (minI e1 e2)) rfl ?_ f2.b2
    rw [hz, e]
    generalize b1 * sc e1 = X at *
    generalize b2 * sc e2 = Y at *
    unfold absI
    split <;> omega
theorem sc_nat (e : Int) : (sc e).natAbs = 2 ^ (e + 1100).toNat := by
  unfold sc
  rw [Int.natAbs_pow]
  rfl
theorem lost_small {a l k e : Int} (h : a * sc l = k * sc e) (k1 : k.natAbs < 2 ^ 64) (he : e ≤ 1000) : a.natAbs < 2 ^ 2164 := by
  have h2 : a.natAbs * 2 ^ (l + 1100).toNat = k.natAbs * 2 ^ (e + 1100).toNat := by
    rw [← sc_nat, ← sc_nat, ← Int.natAbs_mul, ← Int.natAbs_mul, h]
  have h3 : 0 < 2 ^ (l + 1100).toNat := Nat.pow_pos (by decide)
  have h4 : 2 ^ (e + 1100).toNat ≤ 2 ^ 2100 := Nat.pow_le_pow_right (by decide) (by omega)
  have h5 : k.natAbs * 2 ^ (e + 1100).toNat < 2 ^ 64 * 2 ^ 2100 := Nat.lt_of_le_of_lt (Nat.mul_le_mul_left _ h4) (Nat.mul_lt_mul_of_pos_right k1 (Nat.pow_pos (by decide)))
  have h6 : a.natAbs ≤ a.natAbs * 2 ^ (l + 1100).toNat := Nat.le_mul_of_pos_right _ h3
  rw [← Nat.pow_add] at h5
  omega
theorem sum_small {sh : Sh} {s1 b1 e1 s2 b2 e2 : Int} (f1 : (finN sh s1 b1 e1).Fin) (f2 : (finN sh s2 b2 e2).Fin) {z : Int} (hz : z = b1 * 2 ^ (e1 - minI e1 e2).toNat * (1 - 2 * s1) + b2 * 2 ^ (e2 - minI e1 e2).toNat * (1 - 2 * s2)) : z.natAbs < 2 ^ 2170 := by
  have hok : sh.Ok := f1.ok
  obtain ⟨p1, p2', l1, l2, h1, h2⟩ := hok
  have a1 : sh.lo ≤ e1 := f1.e1
  have a2 : sh.lo ≤ e2 := f2.e1
  have a3 : e1 ≤ sh.hi := f1.e2
  have a4 : e2 ≤ sh.hi := f2.e2
  have bb : ∀ b : Int, 0 ≤ b → b < 2 ^ sh.p.toNat → b.natAbs < 2 ^ 64 := fun b b1 b2 => by
    have z1 : (2 : Int) ^ sh.p.toNat ≤ 2 ^ 64 := p2_mono (by omega)
    have z2 : (2 : Int) ^ 64 = ((2 ^ 64 : Nat) : Int) := by decide
    omega
  have m3 : sh.lo ≤ minI e1 e2 := by
    unfold minI
    split <;> omega
  have one : ∀ s b e : Int, 0 ≤ s → s ≤ 1 → 0 ≤ b → b < 2 ^ sh.p.toNat → e ≤ 1000 → (b * 2 ^ (e - minI e1 e2).toNat * (1 - 2 * s)).natAbs < 2 ^ 2164 := fun s b e s1 s2 b1 b2 ee => by
    rw [Int.natAbs_mul, show (1 - 2 * s).natAbs = 1 by omega, Nat.mul_one]
    exact Nat.lt_of_lt_of_le (nat_shl (bb b b1 b2)) (Nat.pow_le_pow_right (by decide) (by omega))
  have o1 := one s1 b1 e1 f1.s1 f1.s2 f1.b1 f1.b2 (by omega)
  have o2 := one s2 b2 e2 f2.s1 f2.s2 f2.b1 f2.b2 (by omega)
  rw [hz]
  have := Int.natAbs_add_le (b1 * 2 ^ (e1 - minI e1 e2).toNat * (1 - 2 * s1)) (b2 * 2 ^ (e2 - minI e1 e2).toNat * (1 - 2 * s2))
  have e : 2 ^ 2164 + 2 ^ 2164 ≤ 2 ^ 2170 := by decide +kernel
  omega
theorem frac_ok {z l : Int} (hz : z.natAbs < 2 ^ 2200) (l1 : -1100 ≤ l) (l2 : l ≤ 1000) : -(10 ^ 3000) < z * 2 ^ l.toNat ∧ z * 2 ^ l.toNat < 10 ^ 3000 ∧ (1 : Int) ≤ 2 ^ (-l).toNat ∧ (2 : Int) ^ (-l).toNat ≤ 10 ^ 3000 := by
  have h1 : (z * 2 ^ l.toNat).natAbs < 2 ^ 3200 := Nat.lt_of_lt_of_le (nat_shl hz) (Nat.pow_le_pow_right (by decide) (by omega))
  have h2 : 2 ^ 3200 ≤ 10 ^ 3000 := by decide +kernel
  have h3 : ((10 ^ 3000 : Nat) : Int) = 10 ^ 3000 := by rw [Int.natCast_pow]; rfl
  have h4 : (2 : Int) ^ (-l).toNat ≤ 2 ^ 3200 := p2_mono (by omega)
  have h5 : ((2 ^ 3200 : Nat) : Int) = 2 ^ 3200 := PySem.W.kbt_cast _
  have h6 := p2 (-l).toNat
  generalize (10 : Int) ^ 3000 = B at *
  generalize (10 : Nat) ^ 3000 = C at *
  generalize (2 : Nat) ^ 3200 = D at *
  generalize (2 : Int) ^ 3200 = E at *
  generalize z * 2 ^ l.toNat = F at *
  refine ⟨by omega, by omega, by omega, by omega⟩
theorem fin_kind {x : Nm} (h : x.st = "finite") : ¬ kindOf x = "infinite" := by
  unfold kindOf
  rw [if_neg (fun y => y h)]
  split
  · decide
  · split <;> decide
theorem rnd_flags {n d : Int} {sh : Sh} {w : Str} {sign : Int} {x : Nm} {fl : List Str} (h : RndIs n d sh w sign x fl) : (fl.map V.str).all okV = true := by
  rcases h with ⟨_, _, rfl⟩ | ⟨_, o, _, h⟩
  · rfl
  · unfold rsFun rsFin at h
    repeat' split at h
    all_goals
      injection h with h1 h2
      rw [← h2]
      decide +kernel
theorem eqL_nil' (fl : List Str) : eqL (fl.map V.str) [] = decide (fl = []) := by
  cases fl with
  | nil => rfl
  | cons a l => rfl
theorem ways_all {w : Str} (h : w ∈ ways) : isWay (.str w) = true := by
  refine isWay_of ?_
  unfold ways at h
  simpa only [List.mem_cons, List.not_mem_nil, or_false] using h
theorem fin_sizes {x : Nm} (h : x.Fin) : x.bits.natAbs < 2 ^ 64 ∧ -1100 ≤ x.scale ∧ x.scale ≤ 1000 := by
  have z1 : (2 : Int) ^ x.sh.p.toNat ≤ 2 ^ 64 := p2_mono (by have := h.ok.p2; omega)
  have z2 : (2 : Int) ^ 64 = ((2 ^ 64 : Nat) : Int) := by decide
  have z3 := h.b1
  have z4 := h.b2
  have z5 := h.ok.l1
  have z6 := h.ok.h2
  have z7 := h.e1
  have z8 := h.e2
  omega
/-- a number told and what is owed, one against the other -/
theorem sum_none {x : Nm} {L l : Int} (h : x.Fin) (hl : -1100 ≤ l) (e : valS x = L * sc l) :
    x.bits * 2 ^ (x.scale - minI x.scale l).toNat * (1 - 2 * x.side) + (if L < 0 then -L else L) * 2 ^ (l - minI x.scale l).toNat * (1 - 2 * (if 0 < L then 1 else 0)) = 0 := by
  have hs := sum_sc (s1 := x.side) (b1 := x.bits) (e1 := x.scale) (s2 := if 0 < L then 1 else 0) (b2 := if L < 0 then -L else L) (e2 := l) (fin_sizes h).2.1 hl
  have hp := sc_pos (minI x.scale l)
  have z : sgS x.side x.bits x.scale + sgS (if 0 < L then 1 else 0) (if L < 0 then -L else L) l = 0 := by
    show valS x + (1 - 2 * (if 0 < L then 1 else 0)) * ((if L < 0 then -L else L) * sc l) = 0
    rw [e]
    by_cases c : 0 < L
    · rw [if_pos c, if_neg (show ¬ L < 0 by omega), show (1 : Int) - 2 * 1 = -1 by decide, Int.neg_mul, Int.one_mul]
      omega
    · rw [if_neg c, show (1 : Int) - 2 * 0 = 1 by decide, Int.one_mul]
      by_cases d : L < 0
      · rw [if_pos d, Int.neg_mul]
        omega
      · rw [if_neg d, show L = 0 by omega, Int.zero_mul]
        rfl
  rw [z] at hs
  rcases Int.mul_eq_zero.mp hs with y | y
  · exact y
  · omega
def LeftOk (sh : Sh) (w : Str) (z l : Int) : Prop := ∀ x fl, RndIs (z * 2 ^ l.toNat) (2 ^ (-l).toNat) sh w 0 x fl →
  (∃ sd, x = infN sh sd ∧ fl = (["inexact", "overflow"] : List Str)) ∨ (x.Fin ∧ x.sh = sh ∧ (fl = [] ↔ z * sc l - valS x = 0) ∧ ∃ k, z * sc l - valS x = k * sc l ∧ -(2 ^ sh.p.toNat) < k ∧ k < 2 ^ sh.p.toNat)
def sp__law_left_right (K : PySem.W.Frag) (C : Addr) : Sp := fun vs H Q _ => ∃ (m l : Addr) (b : Nat) (t : Addr) (sh : Sh) (z lst : Int) (w : Str), vs = [.ref m, .ref t, .int z, .int lst, .str w] ∧ Drw H m l b ∧ b ≤ 2 ^ 38 ∧ H t = some (.tup sh.vs) ∧ sh.Ok ∧ sh.lo ≤ lst ∧ lst ≤ sh.hi ∧ z.natAbs < 2 ^ 2170 ∧ isWay (.str w) = true ∧ LeftOk sh w z lst ∧
  ∀ H', Drw H' m l (b + 1) → But m l H H' → Q (.bl true) H'
def sp__law_near_right (K : PySem.W.Frag) (C : Addr) : Sp := fun vs H Q _ => ∃ (t : Addr) (sh : Sh) (t1 : Addr) (s1 b1 e1 : Int) (t2 : Addr) (s2 b2 e2 : Int), vs = [.ref t, .ref t1, .ref t2] ∧ H t = some (.tup sh.vs) ∧ H t1 = some (.tup [.int s1, .int b1, .int e1]) ∧ H t2 = some (.tup [.int s2, .int b2, .int e2]) ∧
  (finN sh s1 b1 e1).Fin ∧ (finN sh s2 b2 e2).Fin ∧ ∀ H', Same H H' → Q (.bl true) H'
def sp_law (K : PySem.W.Frag) : Sp := fun vs H Q _ => ∃ (a : Addr) (ns : List Int), vs = [.ref a] ∧ SqL K H a (ns.map V.int) ∧ ns.length ≤ 63 ∧ ∀ H', Q (.bl true) H'
def topRank (s : Sh) : Int := (s.hi - s.lo + 2) * 2 ^ (s.p - 1).toNat
def sp_top_rank (K : PySem.W.Frag) : Sp := fun vs H Q _ => ∃ (t : Addr) (s : Sh), vs = [.ref t] ∧ SqT K H t s.vs ∧ s.Ok ∧ Q (.int (topRank s)) H
def sp_Number_shape (K : PySem.W.Frag) (C : Addr) : Sp := fun vs H Q _ => ∃ (a : Addr) (x : Nm), vs = [.ref a] ∧ IsNum K C H a x ∧ ∀ t, SqT K H t x.sh.vs → Q (.ref t) H
section
variable {P : Program} {w : World} {K : PySem.W.Frag} {mg : Str → Option Value} {base : Heap}
variable {c_Number a_DOUBLE : Addr}
theorem ok__law_folded (T : Tx K mg c_Number a_DOUBLE) : DefOk P w K mg base CX0 1 "_law_folded" s__law_folded [] [] ["_law_script"] (sp__law_folded K) := by
  refine T.d__law_folded.ok fun f fd F => FunD.ok0 F sc__law_folded (fun vs H Q E h => ?_) (fun cdv A outer s H vs Q E hr h => ?_)
  · obtain ⟨a, ns, rfl, _⟩ := h
    rfl
  · obtain ⟨a, ns, rfl, hS, hlen, q⟩ := h
    refine ⟨_, (pss_cons (ps_setLc (i := 1) (own := [("_law_k", 2)]) (by rfl) sc__law_folded.nd rfl rfl (sw_true rfl rfl rfl (by decide +kernel)) (pi_range1 (by rfl) T.z_range (pa_cons pe_int pa_nil)) (blkOk_by (own := [("_law_k", 2)]) (N := N__law_folded) (sc := defScope s__law_folded) (by decide +kernel)) (fun _ _ _ _ _ => (pg_name (i := 2) sc__law_folded.nd rfl (.inl rfl))) (fun _ _ _ _ _ => pts_nil) (fun _ _ _ _ _ => (pe_op op_add pe_int (pv 2))))
      (pss_cons (ps_for PassesOwn.never rfl (pi_enum (by rfl) T.z_enumerate (pa_cons (pv 0) pa_nil)) (pg_tup (n := 2) rfl (pgs_cons (pg_name (i := 2) sc__law_folded.nd rfl (.inl rfl)) (pgs_cons (pg_name (i := 3) sc__law_folded.nd rfl (.inl rfl)) pgs_nil)))
      (pss_one (ps_asg (pe_op op_mod (pe_op op_add (pe_op op_mulC (pe_ix ix_list (pv 1) (pe_op op_mod (pv 2) pe_int) (fun _ _ => rfl)) pe_int) (pv 3)) pe_int) (pg_sub (pv 1) (pe_op op_mod (pv 2) pe_int) set_list))))
      (pss_cons (ps_for PassesOwn.never rfl (pi_range2 (by rfl) T.z_range (pa_cons pe_int (pa_cons pe_int pa_nil))) (pg_name (i := 2) sc__law_folded.nd rfl (.inl rfl))
      (pss_one (ps_asg (pe_op op_mod (pe_op op_add (pe_ix ix_list (pv 1) (pv 2) (fun _ _ => rfl)) (pe_op op_mulC (pe_ix ix_list (pv 1) (pe_op op_sub (pv 2) pe_int) (fun _ _ => rfl)) pe_int)) pe_int) (pg_sub (pv 1) (pv 2) set_list))))
      (pss_one (ps_ret (pv 1)))))), ?_⟩
    walk_at "rd"
    refine loopc_range (fun D i H' => Same H H' ∧ ∃ cs : List Int, H' D = some (.lst (cs.map V.int)) ∧ cs.length = i ∧ ∀ x ∈ cs, 0 ≤ x ∧ x < 2147483648) (fun D hD => ⟨same_new hD, [], upd_same, rfl, fun x hx => by cases hx⟩) ?_ ?_
    · rintro D hD i H' hi ⟨sm, cs, e, hl, hb⟩
      walk_at "rd"
      refine ⟨_, e, by rw [List.length_map]; exact size_lt (by omega), same_upd sm hD, cs ++ [17 + (0 + (i : Int))], by rw [upd_same, List.map_append]; rfl, by rw [List.length_append, hl]; rfl, fun x hx => ?_⟩
      rcases List.mem_append.mp hx with hx | hx
      · exact hb x hx
      · have z : x = 17 + (0 + (i : Int)) := by simpa using hx
        omega
    · rintro D hD H1 ⟨sm1, cs1, e1, hl1, hb1⟩
      refine ⟨ns.map V.int, sm1.seq hS, loop_enum (xs := ns.map V.int) (fun i σ H2 => ∃ y2 y3 cs, σ = [some (V.ref a), some (V.ref D), y2, y3] ∧ Same H H2 ∧ H2 D = some (.lst (cs.map V.int)) ∧ cs.length = 64 ∧ ∀ x ∈ cs, 0 ≤ x ∧ x < 2147483648)
        ⟨none, none, cs1, rfl, sm1, e1, hl1, hb1⟩ (fun i σ H2 _ ⟨_, _, _, _, sm, _⟩ => sm.seq hS) ?_ ?_⟩
      · rintro i x σ H2 hx ⟨y2, y3, cs, rfl, sm, e, hl, hb⟩ T hT
        obtain ⟨z, hz, rfl, _⟩ := getElem?_map_int hx
        have nT : D ≠ T := ne_of_none e hT
        have eD := look_new (o := .tup [.int (i : Nat), .int z]) e hT
        walk_at "rd"
        refine ⟨_, SqT.of upd_same, rfl, ?_⟩
        walk_at "rd"
        obtain ⟨c1, e1, e2, e3⟩ := ix_int (ns := cs) (i := (i : Int) % 64) (by omega) (by omega)
        refine ixl_of (SqL.of eD) e3 ?_
        walk_at "rd"
        refine ⟨.inl (.inr ⟨by decide, by decide⟩), setl_of eD (ixN_int (by omega) (by rw [List.length_map]; omega)) ?_⟩
        refine ⟨same_upd (same_upd sm (Same.free sm hT)) hD, cs.set ((i : Int) % 64).toNat ((c1 * 48271 + z) % 2147483647), by rw [upd_same, List.map_set], by rw [List.length_set]; exact hl, fun x hx => ?_⟩
        rcases mem_set_of hx with rfl | hx
        · omega
        · exact hb x hx
      · rintro σ H2 ⟨y2, y3, cs, rfl, sm, e, hl, hb⟩
        walk_at "rd"
        refine loop_range (fun i σ H2 => ∃ y2 cs, σ = [some (V.ref a), some (V.ref D), y2, y3] ∧ Same H H2 ∧ H2 D = some (.lst (cs.map V.int)) ∧ cs.length = 64 ∧ ∀ x ∈ cs, 0 ≤ x ∧ x < 2147483648)
          ⟨y2, cs, rfl, sm, e, hl, hb⟩ ?_ ?_
        · rintro i σ H3 hi ⟨y2, cs, rfl, sm, e, hl, hb⟩
          have hi' : i < 63 := hi
          obtain ⟨c1, _, e2, e3⟩ := ix_int (ns := cs) (i := 1 + (i : Int)) (by omega) (by omega)
          obtain ⟨c2, _, e5, e6⟩ := ix_int (ns := cs) (i := 1 + (i : Int) - 1) (by omega) (by omega)
          walk_at "rd"
          refine ixl_of (SqL.of e) e3 (ixl_of (SqL.of e) e6 ?_)
          walk_at "rd"
          refine ⟨.inl (.inr ⟨by decide, by decide⟩), setl_of e (ixN_int (by omega) (by rw [List.length_map]; omega)) ?_⟩
          refine ⟨same_upd sm hD, cs.set (1 + (i : Int)).toNat ((c1 + c2 * 16807) % 2147483647), by rw [upd_same, List.map_set], by rw [List.length_set]; exact hl, fun x hx => ?_⟩
          rcases mem_set_of hx with rfl | hx
          · omega
          · exact hb x hx
        · rintro σ H3 ⟨y2, cs, rfl, sm, e, hl, hb⟩
          walk_at "rd"
          exact q H3 D cs sm hD e hl hb
theorem ok__law_begun (T : Tx K mg c_Number a_DOUBLE) : DefOk P w K mg base CX0 2 "_law_begun" s__law_begun [] [] ["_law_script"] (sp__law_begun K) := by
  have G__law_folded := ok__law_folded (P := P) (w := w) (base := base) T
  refine T.d__law_begun.ok fun f fd F => FunD.ok0 F sc__law_begun (fun vs H Q E h => ?_) (fun cdv A outer s H vs Q E hr h => ?_)
  · obtain ⟨a, ns, rfl, _⟩ := h
    rfl
  · obtain ⟨a, ns, rfl, hS, hlen, q⟩ := h
    refine ⟨_, (pss_cons (ps_set (i := 1) sc__law_begun.nd rfl (.inl rfl) (pe_disp (pps_cons pe_str (pe_kc G__law_folded (hr.mono (by decide)) (by rfl) b__law_folded1 pass0 (pa_cons (pv 0) pa_nil) pk_nil) (pps_cons pe_str (pe_lstA pa_nil) (pps_cons pe_str pe_int pps_nil))) (by rfl) (by rfl) (fun z => by cases z) (by decide)))
      (pss_cons (ps_dput (hu_of hr) (pv 1) pe_str (pe_lc (own := [("_law_cell", 2)]) (by rfl) sc__law_begun.nd (pi_list (pv 0)) (blkOk_by (own := [("_law_cell", 2)]) (N := N__law_begun) (sc := defScope s__law_begun) (by decide +kernel)) (fun _ _ _ _ _ => (pg_name (i := 2) sc__law_begun.nd rfl (.inl rfl))) (fun _ _ _ _ _ => pts_nil) (fun _ _ _ _ _ => (pe_ifExp (pt_cmpR op_ge (pv 2) (pe_op op_pow pe_int pe_int) (nomark _)) (pv 2) pe_int))) rfl)
      (pss_one (ps_ret (pv 1))))), ?_⟩
    walk_at "rd"
    intro m hm
    have s0 : Same H (upd H m (.dK [])) := same_new hm
    refine ⟨a, ns, rfl, s0.seq hS, hlen, fun H1 c cs sm1 hc ec hcl hcb => ⟨by decide, fun e H1' he sE eE => ?_⟩⟩
    have s01 : Same H H1' := (s0.trans sm1).trans sE
    have em1 : H1' m = some (.dK []) := sE _ _ (sm1 _ _ upd_same)
    have ncm : c ≠ m := ne_of (sE _ _ ec) em1 (by intro z; cases z)
    refine ⟨em1, [(.inr "cells", .ref c), (.inr "left", .ref e), (.inr "spot", .int 0)], rfl, (by show 3 ≤ 15; decide), ?_⟩
    generalize hH2 : upd H1' m (.dK (mergeK [] [(.inr "cells", .ref c), (.inr "left", .ref e), (.inr "spot", .int 0)])) = H2
    have s02 : Same H H2 := by
      rw [← hH2]
      exact same_upd s01 hm
    have em2 : H2 m = some (.dK [(.inr "cells", .ref c), (.inr "left", .ref e), (.inr "spot", .int 0)]) := by
      rw [← hH2, upd_same]
      rfl
    have ec2 : H2 c = some (.lst (cs.map V.int)) := by
      rw [← hH2]
      exact look_mut ncm (sE _ _ ec)
    refine ⟨⟨_, s02.seq hS⟩, ?_⟩
    refine loopc_list (xs := ns.map V.int) (fun D i H' => Same H H' ∧ H' m = H2 m ∧ H' c = H2 c ∧ ∃ ls : List Int, H' D = some (.lst (ls.map V.int)) ∧ ls.length = i) (fun D hD => ⟨s02.trans (same_new hD), by rw [upd_ne (ne_of_none em2 hD)], by rw [upd_ne (ne_of_none ec2 hD)], [], upd_same, rfl⟩)
      (fun D hD i H' _ ⟨sm, _⟩ => sm.seq hS) ?_ ?_
    · rintro D hD i x H' hx ⟨sm, h1, h2, ls, e1, hl⟩
      obtain ⟨z, hz, rfl, _⟩ := getElem?_map_int hx
      have hi : i < ns.length := by
        have := List.getElem?_eq_some_iff.mp hz
        exact this.1
      have go : ∀ y : Int, ∃ acc, H' D = some (.lst acc) ∧ acc.length < sizeLine ∧ Same H (upd H' D (.lst (acc ++ [V.int y]))) ∧ upd H' D (.lst (acc ++ [V.int y])) m = H2 m ∧ upd H' D (.lst (acc ++ [V.int y])) c = H2 c ∧
          ∃ ls : List Int, upd H' D (.lst (acc ++ [V.int y])) D = some (.lst (ls.map V.int)) ∧ ls.length = i + 1 := fun y =>
        ⟨_, e1, by rw [List.length_map]; exact size_lt (by omega), same_upd sm (Same.free s02 hD), by rw [upd_ne (ne_of_none em2 hD)]; exact h1, by rw [upd_ne (ne_of_none ec2 hD)]; exact h2,
          ls ++ [y], by rw [upd_same, List.map_append]; rfl, by rw [List.length_append, hl]; rfl⟩
      walk_at "rd"
      exact ite2 (fun _ => go _) (fun _ => go _)
    · rintro D hD H' ⟨sm, h1, h2, ls, e1, hl⟩
      rw [em2] at h1
      rw [ec2] at h2
      have nDc : c ≠ D := ne_of_none ec2 hD
      have nDm : D ≠ m := fun z => by
        rw [z, em2] at hD
        cases hD
      refine ⟨_, dput_str (kvs' := [(.inr "cells", .ref c), (.inr "left", .ref D), (.inr "spot", .int 0)]) h1 (by show 3 < sizeLine; decide) rfl, ?_⟩
      refine q _ m D (same_upd sm hm) hm (Same.free s02 hD) ⟨c, 0, cs, ls, by rw [upd_same]; rfl, look_mut ncm h2, look_mut nDm e1, nDc, Nat.le_refl _, hcl, hcb, ?_⟩
      rw [hl, List.length_map]
      exact hlen
theorem ok__law_mixed (T : Tx K mg c_Number a_DOUBLE) : DefOk P w K mg base CX0 1 "_law_mixed" s__law_mixed [] [] ["_law_cell", "_law_k"] (sp__law_mixed) := by
  refine T.d__law_mixed.ok fun f fd F => FunD.ok0 F sc__law_mixed (fun vs H Q E h => ?_) (fun cdv A outer s H vs Q E hr h => ?_)
  · obtain ⟨c, k, rfl, _⟩ := h
    rfl
  · obtain ⟨c, k, rfl, h0, h1, h2, q⟩ := h
    refine ⟨_, (pss_cons (ps_set (i := 2) sc__law_mixed.nd rfl (.inl rfl) (pe_op op_add (pe_op op_add (pe_op op_mod (pe_op op_mulC (pe_op op_mulC (pv 0) (pe_op op_add pe_int (pe_op op_mulC pe_int (pv 1)))) pe_int) pe_int) (pe_op op_mulC (pe_op op_mulC pe_int (pv 1)) (pv 1))) (pe_op op_mulC pe_int (pv 1))))
      (pss_one (ps_ret (pe_op op_fdivC (pe_op op_mod (pe_op op_mulC (pv 2) pe_int) pe_int) pe_int)))), ?_⟩
    have m1 : CMulC 2 (k : Int) := .inl (.inl ⟨by decide, by decide⟩)
    have m2 : CMulC c (1 + 2 * (k : Int)) := .inl (.inl ⟨by omega, by omega⟩)
    have m3 : ∀ x, CMulC x 48271 := fun x => .inl (.inr ⟨by decide, by decide⟩)
    have m4 : CMulC 7919 (k : Int) := .inl (.inl ⟨by decide, by decide⟩)
    have m5 : CMulC (7919 * (k : Int)) (k : Int) := .inl (.inr ⟨by omega, by omega⟩)
    have m6 : CMulC 104729 (k : Int) := .inl (.inl ⟨by decide, by decide⟩)
    have m7 : ∀ x, CMulC x 69621 := fun x => .inl (.inr ⟨by decide, by decide⟩)
    have d1 : ∀ x, CDivC x 7 := fun x => ⟨by decide, .inl (by decide)⟩
    walk_at "rd"
    refine ⟨m1, m2, m3 _, m4, m5, m6, m7 _, d1 _, ?_⟩
    refine q _ ?_ ?_
    · omega
    · omega
theorem ok__law_draw (T : Tx K mg c_Number a_DOUBLE) : DefOk P w K mg base CX0 2 "_law_draw" s__law_draw [] [] ["_law_m", "_law_top"] (sp__law_draw) := by
  have G__law_mixed := ok__law_mixed (P := P) (w := w) (base := base) T
  refine T.d__law_draw.ok fun f fd F => FunD.ok0 F sc__law_draw (fun vs H Q E h => ?_) (fun cdv A outer s H vs Q E hr h => ?_)
  · obtain ⟨m, l, b, top, rfl, _⟩ := h
    rfl
  · obtain ⟨m, l, b, top, rfl, hD, hb, ht0, ht1, q⟩ := h
    obtain ⟨c, k, cs, ls, em, ec, el, ncl, hk, hcs, hcb, hls⟩ := hD
    have nmc : c ≠ m := ne_of ec em (by intro z; cases z)
    have nml : l ≠ m := ne_of el em (by intro z; cases z)
    refine ⟨_, (pss_cons (ps_set (i := 2) sc__law_draw.nd rfl (.inl rfl) (pe_dget (hu_of hr) (pv 0) pe_str (fun _ _ => rfl)))
      (pss_cons (ps_dput (hu_of hr) (pv 0) pe_str (pe_op op_add (pv 2) pe_int) rfl)
      (pss_cons (ps_if (pt_cmpR (op_neD hr.units) (pe_dget (hu_of hr) (pv 0) pe_str (fun _ _ => rfl)) (pe_lstA pa_nil) (nomark _))
      (pss_cons (ps_set (i := 3) sc__law_draw.nd rfl (.inl rfl) (pe_op op_mod (pv 2) (pe_callB call_len_seq (by rfl) T.z_len (by decide +kernel) (pa_cons (pe_dget (hu_of hr) (pv 0) pe_str (fun _ _ => rfl)) pa_nil))))
      (pss_cons (ps_set (i := 4) sc__law_draw.nd rfl (.inl rfl) (pe_ix ix_list (pe_dget (hu_of hr) (pv 0) pe_str (fun _ _ => rfl)) (pv 3) (fun _ _ => rfl)))
      (pss_one (ps_if (pt_cmpR op_gt (pv 4) pe_int (nomark _))
      (pss_cons (ps_asg (pe_op op_fdivC (pv 4) (pv 1)) (pg_sub (pe_dget (hu_of hr) (pv 0) pe_str (fun _ _ => rfl)) (pv 3) set_list))
      (pss_one (ps_ret (pe_op op_mod (pv 4) (pv 1)))))
      pss_nil))))
      pss_nil)
      (pss_one (ps_ret (pe_op op_mod (pe_kc G__law_mixed (hr.mono (by decide)) (by rfl) b__law_mixed2 pass0 (pa_cons (pe_kc G__law_mixed (hr.mono (by decide)) (by rfl) b__law_mixed2 pass0 (pa_cons (pe_op op_add (pe_ix ix_list (pe_dget (hu_of hr) (pv 0) pe_str (fun _ _ => rfl)) (pe_op op_mod (pv 2) pe_int) (fun _ _ => rfl)) (pe_op op_mulC pe_int (pe_op op_fdivC (pv 2) pe_int))) (pa_cons (pv 2) pa_nil)) pk_nil) (pa_cons (pe_op op_add (pv 2) pe_int) pa_nil)) pk_nil) (pv 1))))))), ?_⟩
    walk_at "rd"
    refine ⟨.int k, dget_str em rfl, ?_⟩
    walk_at "rd"
    refine ⟨_, dput_str (kvs' := [(.inr "cells", .ref c), (.inr "left", .ref l), (.inr "spot", .int ((k : Int) + 1))]) em (by show 3 < sizeLine; decide) rfl, ?_⟩
    generalize hH1 : upd H m (.dK [(.inr "cells", .ref c), (.inr "left", .ref l), (.inr "spot", .int ((k : Int) + 1))]) = H1
    have em1 : H1 m = some (.dK [(.inr "cells", .ref c), (.inr "left", .ref l), (.inr "spot", .int ((k : Int) + 1))]) := by rw [← hH1, upd_same]
    have ec1 : H1 c = some (.lst (cs.map V.int)) := by rw [← hH1, upd_ne nmc]; exact ec
    have el1 : H1 l = some (.lst (ls.map V.int)) := by rw [← hH1, upd_ne nml]; exact el
    have hB1 : But m l H H1 := fun a o h1 h2 e => by rw [← hH1, upd_ne h1]; exact e
    have fin : ∀ H' (r : Int), Same H1 H' → 0 ≤ r → r < top → Q (.int r) H' := fun H' r s h0 h1 =>
      q r H' h0 h1 (hB1.trans (same_but s)) ⟨c, k + 1, cs, ls, by rw [s _ _ em1]; rfl, s _ _ ec1, s _ _ el1, ncl, by omega, hcs, hcb, hls⟩
    have hmix : ∀ H', Same H1 H' → ∃ x, DGet H' m (V.str (Str.ofString "cells")) (some x) ∧ rIxL K x (V.int ((k : Int) % 64)) H' fun x H1 => CDivC (k : Int) 64 ∧ CMulC 31 ((k : Int) / 64) ∧
        ∃ i, x = V.int i ∧ sp__law_mixed [V.int (i + 31 * ((k : Int) / 64)), V.int (k : Int)] H1 (fun x H1 => sp__law_mixed [x, V.int ((k : Int) + 7)] H1 (fun x H1 => ∃ i, x = V.int i ∧ 0 < top ∧ Q (V.int (i % top)) H1) E0) E0 := by
      intro H' s
      obtain ⟨x, e1, e2, e3⟩ := ix_int (ns := cs) (i := (k : Int) % 64) (by omega) (by omega)
      have hx := hcb x e2
      refine ⟨.ref c, dget_str (s _ _ em1) rfl, c, _, _, _, rfl, rfl, SqL.of (s _ _ ec1), e3, ⟨by decide, .inl (by decide)⟩, .inl (.inl ⟨by decide, by decide⟩), x, rfl, ?_⟩
      refine ⟨_, k, rfl, by omega, by omega, by omega, fun r h0 h1 => ⟨r, k + 7, by rfl, h0, by omega, by omega, fun r2 h2 h3 => ⟨r2, rfl, ht0, ?_⟩⟩⟩
      exact fin H' _ s (Int.emod_nonneg _ (by omega)) (Int.emod_lt_of_pos _ ht0)
    walk_at "rd"
    refine ⟨.ref l, dget_str em1 rfl, by decide, fun p H1' hp sp1 ep => ?_⟩
    walk_at "rd"
    refine rNeD_lst (SqL.of (sp1 _ _ el1)) (SqL.of ep) (ok_ints ls) rfl ?_
    walk_at "rd"
    refine ite2 (fun hne => ?_) (fun _ => hmix _ sp1)
    have hlp : 0 < ls.length := by
      have z := eqL_nil hne
      rwa [List.length_map] at z
    have hmod : 0 ≤ (k : Int) % (ls.length : Int) ∧ (k : Int) % (ls.length : Int) < ls.length := ⟨Int.emod_nonneg _ (by omega), Int.emod_lt_of_pos _ (by omega)⟩
    refine ⟨.ref l, dget_str (sp1 _ _ em1) rfl, l, rfl, ls.map V.int, .inl (SqL.of (sp1 _ _ el1)), ?_⟩
    rw [List.length_map]
    obtain ⟨x, e1, e2, e3⟩ := ix_int (ns := ls) hmod.1 hmod.2
    refine ⟨by omega, .ref l, dget_str (sp1 _ _ em1) rfl, l, _, _, _, rfl, rfl, SqL.of (sp1 _ _ el1), e3, x, rfl, ite2 (fun hx => ?_) (fun _ => hmix _ sp1)⟩
    refine ⟨x, rfl, ⟨ht0, .inl ?_⟩, .ref l, dget_str (sp1 _ _ em1) rfl, l, _, _, _, rfl, rfl, sp1 _ _ el1, ixN_int hmod.1 (by rw [List.length_map]; exact hmod.2), x, rfl, ht0, ?_⟩
    · have h9 : (2 : Nat) ^ 30 ≤ 2 ^ 9000 := Nat.pow_le_pow_right (by decide) (by decide)
      have h8 : top.natAbs < 2 ^ 30 := by omega
      exact Nat.lt_of_lt_of_le h8 h9
    · refine q _ _ (Int.emod_nonneg _ (by omega)) (Int.emod_lt_of_pos _ ht0) (fun a o h1 h2 e => look_mut h2 (sp1 _ _ (hB1 a o h1 h2 e))) ?_
      refine ⟨c, k + 1, cs, ls.set ((k : Int) % (ls.length : Int)).toNat (x / top), ?_, look_mut ncl (sp1 _ _ ec1), ?_, ncl, by omega, hcs, hcb, by rw [List.length_set]; exact hls⟩
      · rw [look_mut (Ne.symm nml) (sp1 _ _ em1)]
        rfl
      · rw [upd_same, List.map_set]
theorem ok__law_small_form (T : Tx K mg c_Number a_DOUBLE) : DefOk P w K mg base CX0 3 "_law_small_form" s__law_small_form [] [] ["_law_m"] (sp__law_small_form K) := by
  have G__law_draw := ok__law_draw (P := P) (w := w) (base := base) T
  refine T.d__law_small_form.ok fun f fd F => FunD.ok0 F sc__law_small_form (fun vs H Q E h => ?_) (fun cdv A outer s H vs Q E hr h => ?_)
  · obtain ⟨m, l, b, rfl, _⟩ := h
    rfl
  · obtain ⟨m, l, b, rfl, hD, hb, q⟩ := h
    refine ⟨_, (pss_cons (ps_set (i := 1) sc__law_small_form.nd rfl (.inl rfl) (pe_op op_sub pe_int (pe_kc G__law_draw (hr.mono (by decide)) (by rfl) b__law_draw2 pass0 (pa_cons (pv 0) (pa_cons pe_int pa_nil)) pk_nil)))
      (pss_one (ps_ret (pe_tupA (pa_cons (pe_op op_add pe_int (pe_kc G__law_draw (hr.mono (by decide)) (by rfl) b__law_draw2 pass0 (pa_cons (pv 0) (pa_cons pe_int pa_nil)) pk_nil)) (pa_cons (pv 1) (pa_cons (pe_op op_add (pv 1) (pe_kc G__law_draw (hr.mono (by decide)) (by rfl) b__law_draw2 pass0 (pa_cons (pv 0) (pa_cons pe_int pa_nil)) pk_nil)) pa_nil))))))), ?_⟩
    walk_at "rd"
    refine ⟨m, l, b, 7, rfl, hD, by omega, by decide, by decide, fun x H1 x0 x1 B1 D1 => ⟨_, rfl, m, l, b + 1, 4, rfl, D1, by omega, by decide, by decide, fun y H2 y0 y1 B2 D2 => ⟨_, rfl, m, l, b + 2, 7, rfl, D2, by omega, by decide, by decide, fun z H3 z0 z1 B3 D3 => ⟨_, rfl, by decide, fun p H4 np s4 ep => ?_⟩⟩⟩⟩
    have B := (B1.trans B2).trans B3
    exact q H4 p ⟨2 + y, 0 - x, 0 - x + z⟩ (D3.same s4) (B.trans (same_but s4)) (B.free D3 np) ep
      ⟨by show 2 ≤ 2 + y; omega, by show 2 + y ≤ 64; omega, by show -1100 ≤ 0 - x; omega, by show 0 - x ≤ 0; omega, by show 0 - x ≤ 0 - x + z; omega, by show 0 - x + z ≤ 1000; omega⟩ (by show 2 + y ≤ 5; omega) (by show -6 ≤ 0 - x; omega) (by show 0 - x + z ≤ 0 - x + 6; omega)
theorem ok__law_form (T : Tx K mg c_Number a_DOUBLE) : DefOk P w K mg base CX0 4 "_law_form" s__law_form [] [] ["_law_m"] (sp__law_form K) := by
  have G__law_draw := ok__law_draw (P := P) (w := w) (base := base) T
  have G__law_small_form := ok__law_small_form (P := P) (w := w) (base := base) T
  refine T.d__law_form.ok fun f fd F => FunD.ok0 F sc__law_form (fun vs H Q E h => ?_) (fun cdv A outer s H vs Q E hr h => ?_)
  · obtain ⟨m, l, b, rfl, _⟩ := h
    rfl
  · obtain ⟨m, l, b, rfl, hD, hb, q⟩ := h
    refine ⟨_, (pss_cons (ps_set (i := 1) sc__law_form.nd rfl (.inl rfl) (pe_kc G__law_draw (hr.mono (by decide)) (by rfl) b__law_draw2 pass0 (pa_cons (pv 0) (pa_cons pe_int pa_nil)) pk_nil))
      (pss_cons (ps_if (pt_cmpR op_lt (pv 1) pe_int (nomark _))
      (pss_one (ps_ret (pe_ix ix_list (pe_lstA (pa_cons (pe_tupA (pa_cons pe_int (pa_cons (pe_un un_neg pe_int) (pa_cons pe_int pa_nil)))) (pa_cons (pe_tupA (pa_cons pe_int (pa_cons (pe_un un_neg pe_int) (pa_cons pe_int pa_nil)))) (pa_cons (pe_tupA (pa_cons pe_int (pa_cons (pe_un un_neg pe_int) (pa_cons pe_int pa_nil)))) (pa_cons (pe_tupA (pa_cons pe_int (pa_cons (pe_un un_neg pe_int) (pa_cons pe_int pa_nil)))) pa_nil))))) (pv 1) (fun _ _ => rfl))))
      pss_nil)
      (pss_cons (ps_if (pt_cmpR op_eq (pv 1) pe_int (nomark _))
      (pss_one (ps_ret (pe_kc G__law_small_form (hr.mono (by decide)) (by rfl) b__law_small_form1 pass0 (pa_cons (pv 0) pa_nil) pk_nil)))
      pss_nil)
      (pss_cons (ps_if (pt_cmpR op_eq (pv 1) pe_int (nomark _))
      (pss_one (ps_ret (pe_tupA (pa_cons pe_int (pa_cons (pe_un un_neg pe_int) (pa_cons pe_int pa_nil))))))
      pss_nil)
      (pss_cons (ps_set (i := 2) sc__law_form.nd rfl (.inl rfl) (pe_op op_sub pe_int (pe_kc G__law_draw (hr.mono (by decide)) (by rfl) b__law_draw2 pass0 (pa_cons (pv 0) (pa_cons (pe_ix ix_list (pe_lstA (pa_cons pe_int (pa_cons pe_int (pa_cons pe_int pa_nil)))) (pe_kc G__law_draw (hr.mono (by decide)) (by rfl) b__law_draw2 pass0 (pa_cons (pv 0) (pa_cons pe_int pa_nil)) pk_nil) (fun _ _ => rfl)) pa_nil)) pk_nil)))
      (pss_one (ps_ret (pe_tupA (pa_cons (pe_op op_add pe_int (pe_kc G__law_draw (hr.mono (by decide)) (by rfl) b__law_draw2 pass0 (pa_cons (pv 0) (pa_cons pe_int pa_nil)) pk_nil)) (pa_cons (pv 2) (pa_cons (pe_op op_add (pv 2) (pe_kc G__law_draw (hr.mono (by decide)) (by rfl) b__law_draw2 pass0 (pa_cons (pv 0) (pa_cons (pe_callB (call_min2 rfl) (by rfl) T.z_min (by decide +kernel) (pa_cons (pe_op op_sub pe_int (pv 2)) (pa_cons (pe_ix ix_list (pe_lstA (pa_cons pe_int (pa_cons pe_int (pa_cons pe_int pa_nil)))) (pe_kc G__law_draw (hr.mono (by decide)) (by rfl) b__law_draw2 pass0 (pa_cons (pv 0) (pa_cons pe_int pa_nil)) pk_nil) (fun _ _ => rfl)) pa_nil))) pa_nil)) pk_nil)) pa_nil))))))))))), ?_⟩
    refine seq_gen fun R k => ?_
    walk_at "rd"
    refine ⟨m, l, b, 8, rfl, hD, by omega, by decide, by decide, fun x H1 x0 x1 B1 D1 => k _ _ ?_⟩
    clear k
    walk_at "rd"
    refine ite2 (fun h1 => ?_) (fun h1 => ?_)
    · refine ⟨by decide, fun pa Ha na sa ea => ⟨by decide, fun pb Hb nb sb eb => ⟨by decide, fun pc Hc nc sc ec => ⟨by decide, fun pd Hd nd sd ed => ⟨by decide, fun p H2 np s2 ep => ?_⟩⟩⟩⟩⟩
      have sA : Same H1 H2 := sa.trans (sb.trans (sc.trans (sd.trans s2)))
      have fin : ∀ (sh : Sh) p, H1 p = none → H2 p = some (.tup sh.vs) → sh.Ok → Q (.ref p) H2 := fun sh p np ep hok => q H2 p sh ((D1.same sA).mono (by omega)) (B1.trans (same_but sA)) (B1.free D1 np) ep hok
      have d1 : (Sh.mk 53 (-1074) 971).Ok := ⟨by decide, by decide, by decide, by decide, by decide, by decide⟩
      refine ixl_any (SqL.of ep) x0 h1 (allc ?_ (allc ?_ (allc ?_ (all1 ?_))))
      · exact fin ⟨53, -1074, 971⟩ pa na (s2 _ _ (sd _ _ (sc _ _ (sb _ _ ea)))) d1
      · exact fin ⟨53, -1074, 971⟩ pb (Same.free sa nb) (s2 _ _ (sd _ _ (sc _ _ eb))) d1
      · exact fin ⟨24, -149, 104⟩ pc (Same.free (sa.trans sb) nc) (s2 _ _ (sd _ _ ec)) ⟨by decide, by decide, by decide, by decide, by decide, by decide⟩
      · exact fin ⟨11, -24, 5⟩ pd (Same.free (sa.trans (sb.trans sc)) nd) (s2 _ _ ed) ⟨by decide, by decide, by decide, by decide, by decide, by decide⟩
    refine ite2 (fun h2 => ?_) (fun h2 => ?_)
    · exact ⟨m, l, b + 1, rfl, D1, by omega, fun H2 p sh D2 B2 np ep hok _ _ _ => q H2 p sh (D2.mono (by omega)) (B1.trans B2) (B1.free D1 np) ep hok⟩
    refine ite2 (fun h3 => ?_) (fun h3 => ?_)
    · exact ⟨by decide, fun p H2 np s2 ep => q H2 p ⟨64, -1100, 1000⟩ ((D1.same s2).mono (by omega)) (B1.trans (same_but s2)) (B1.free D1 np) ep ⟨by decide, by decide, by decide, by decide, by decide, by decide⟩⟩
    refine ⟨by decide, fun p1 H2 n1 s2 e1 => ⟨m, l, b + 1, 3, rfl, D1.same s2, by omega, by decide, by decide, fun y H3 y0 y1 B3 D3 => ?_⟩⟩
    refine ixl_ints [20, 200, 1101] (SqL.of (B3.lst (D1.same s2) e1 (D1.new n1))) y0 y1 fun top ht => ?_
    simp only [List.mem_cons, List.not_mem_nil, or_false] at ht
    have t0 : 0 < top := by omega
    have t1 : top ≤ 1101 := by omega
    refine ⟨m, l, b + 2, top, rfl, D3, by omega, t0, by omega, fun z H4 z0 z1 B4 D4 => ⟨_, rfl, m, l, b + 3, 63, rfl, D4, by omega, by decide, by decide, fun u H5 u0 u1 B5 D5 => ⟨_, rfl, by decide, fun p2 H6 n2 s6 e2 =>
      ⟨m, l, b + 4, 3, rfl, D5.same s6, by omega, by decide, by decide, fun v H7 v0 v1 B7 D7 => ?_⟩⟩⟩⟩
    refine ixl_ints [20, 300, 2101] (SqL.of (B7.lst (D5.same s6) e2 (D5.new n2))) v0 v1 fun t2 ht2 => ?_
    simp only [List.mem_cons, List.not_mem_nil, or_false] at ht2
    have w0 : 0 < t2 := by omega
    have w1 : t2 ≤ 2101 := by omega
    refine ⟨t2, rfl, m, l, b + 5, _, rfl, D7, by omega, by split <;> omega, by split <;> omega, fun r H8 r0 r1 B8 D8 => ⟨_, rfl, by decide, fun p H9 np s9 ep => ?_⟩⟩
    have B := B1.trans ((same_but s2).trans (B3.trans (B4.trans (B5.trans ((same_but s6).trans (B7.trans B8))))))
    have r2 : r < 1001 - (0 - z) := by
      split at r1 <;> omega
    exact q H9 p ⟨2 + u, 0 - z, 0 - z + r⟩ ((D8.same s9).mono (by omega)) (B.trans (same_but s9)) (B.free D8 np) ep
      ⟨by show 2 ≤ 2 + u; omega, by show 2 + u ≤ 64; omega, by show -1100 ≤ 0 - z; omega, by show 0 - z ≤ 0; omega, by show 0 - z ≤ 0 - z + r; omega, by show 0 - z + r ≤ 1000; omega⟩
theorem ok__law_great (T : Tx K mg c_Number a_DOUBLE) : DefOk P w K mg base CX0 3 "_law_great" s__law_great [] [] ["_law_m", "_law_top"] (sp__law_great) := by
  have G__law_draw := ok__law_draw (P := P) (w := w) (base := base) T
  refine T.d__law_great.ok fun f fd F => FunD.ok0 F sc__law_great (fun vs H Q E h => ?_) (fun cdv A outer s H vs Q E hr h => ?_)
  · obtain ⟨m, l, b, n, top, rfl, _⟩ := h
    rfl
  · obtain ⟨m, l, b, n, top, rfl, hD, hb, hn1, hn2, ht0, ht1, q⟩ := h
    refine ⟨_, (pss_cons (ps_par (i := 2) (j := 3) rfl sc__law_great.nd rfl rfl (by decide) rfl rfl (pa_cons (pe_kc G__law_draw (hr.mono (by decide)) (by rfl) b__law_draw2 pass0 (pa_cons (pv 0) (pa_cons (pe_callB (call_min2 rfl) (by rfl) T.z_min (by decide +kernel) (pa_cons (pv 1) (pa_cons (pe_op op_pow pe_int pe_int) pa_nil))) pa_nil)) pk_nil) (pa_cons (pe_op op_pow pe_int pe_int) pa_nil)) (by rfl))
      (pss_cons (ps_while PassesOwn.never (pt_cmpR op_lt (pv 3) (pv 1) (nomark _))
      (pss_cons (ps_set (i := 2) sc__law_great.nd rfl (.inl rfl) (pe_op op_add (pe_op op_mulC (pv 2) (pe_op op_pow pe_int pe_int)) (pe_kc G__law_draw (hr.mono (by decide)) (by rfl) b__law_draw2 pass0 (pa_cons (pv 0) (pa_cons (pe_op op_pow pe_int pe_int) pa_nil)) pk_nil)))
      (pss_one (ps_set (i := 3) sc__law_great.nd rfl (.inl rfl) (pe_op op_mulC (pv 3) (pe_op op_pow pe_int pe_int))))))
      (pss_one (ps_ret (pe_op op_mod (pv 2) (pv 1)))))), ?_⟩
    walk_at "rd"
    refine ⟨m, l, b, _, rfl, hD, by omega, by split <;> omega, by split <;> omega, fun r H1 h0 h1 hB1 hD1 => ?_⟩
    walk_at "rd"
    refine while_go (fun j σ H' => ∃ (fo : Int) (i : Nat), σ = [some (V.ref m), some (V.int top), some (V.int fo), some (V.int (10 ^ (6 * (i + 1))))] ∧ j = n - i ∧ i + 1 ≤ n ∧ 0 ≤ fo ∧ But m l H H' ∧ Drw H' m l (b + (i + 1))) n
      ⟨r, 0, rfl, by omega, hn1, h0, hB1, hD1⟩ ?_ (fun σ H Q Q' hq hc => ?_)
    · rintro j σ H' ⟨fo, i, rfl, rfl, hi, hf, hB, hDi⟩
      walk_at "rd"
      refine ite2 (fun hlt => ?_) (fun hge => ?_)
      · have hin : i + 1 < n := by
          rcases Nat.lt_or_ge (i + 1) n with h | h
          · exact h
          · have e : n = i + 1 := by omega
            rw [e] at ht1
            omega
        refine ⟨.inl (.inr ⟨by decide, by decide⟩), m, l, b + (i + 1), _, rfl, hDi, by omega, by decide, by decide, fun r2 H2 h2 h3 hB2 hD2 => ?_⟩
        walk_at "rd"
        refine ⟨.inl (.inr ⟨by decide, by decide⟩), n - (i + 1), by omega, i + 1, ?_, rfl, by omega, by omega, hB.trans hB2, hD2⟩
        rw [Nat.mul_succ 6 (i + 1), Int.pow_add]
        rfl
      · refine ⟨ht0, q _ _ (Int.emod_nonneg _ (by omega)) (Int.emod_lt_of_pos _ ht0) hB (hDi.mono (by omega))⟩
    · obtain ⟨v, e, v2, e2, i, j, e3, e4, k, e5, q1⟩ := hc
      exact ⟨v, e, v2, e2, i, j, e3, e4, k, e5, hq _ _ q1⟩
theorem ok__law_parts (T : Tx K mg c_Number a_DOUBLE) : DefOk P w K mg base CX0 4 "_law_parts" s__law_parts [] [] ["_law_m", "_law_form_here"] (sp__law_parts K) := by
  have G__law_draw := ok__law_draw (P := P) (w := w) (base := base) T
  have G__law_great := ok__law_great (P := P) (w := w) (base := base) T
  refine T.d__law_parts.ok fun f fd F => FunD.ok0 F sc__law_parts (fun vs H Q E h => ?_) (fun cdv A outer s H vs Q E hr h => ?_)
  · obtain ⟨m, l, b, t, sh, rfl, _⟩ := h
    rfl
  · obtain ⟨m, l, b, t, sh, rfl, hD, hb, ht, hok, q⟩ := h
    obtain ⟨p1, p2', l1, l2, h1, h2⟩ := id hok
    have hpp : (2 : Int) ^ sh.p.toNat = 2 * 2 ^ (sh.p - 1).toNat := by
      rw [show sh.p.toNat = (sh.p - 1).toNat + 1 by omega, p2_add, Int.mul_comm]
      rfl
    have hp1 : (2 : Int) ≤ 2 ^ (sh.p - 1).toNat := by
      have := p2_mono (a := 1) (b := (sh.p - 1).toNat) (by omega)
      omega
    have hph : (2 : Int) ^ (sh.p - 1).toNat ≤ 10 ^ 24 := Int.le_trans (p2_mono (b := 63) (by omega)) (by decide)
    have fin : ∀ {s bt e : Int}, 0 ≤ s → s < 2 → 0 ≤ bt → bt < 2 ^ sh.p.toNat → sh.lo ≤ e → e ≤ sh.hi → (sh.lo < e → 2 ^ (sh.p - 1).toNat ≤ bt) → (finN sh s bt e).Fin := fun a1 a2 a3 a4 a5 a6 a7 => ⟨hok, a1, Int.le_of_lt_add_one a2, a3, a4, a5, a6, a7, rfl⟩
    refine ⟨_, (pss_cons (ps_asg (pv 1) (pg_tup (n := 3) rfl (pgs_cons (pg_name (i := 2) sc__law_parts.nd rfl (.inl rfl)) (pgs_cons (pg_name (i := 3) sc__law_parts.nd rfl (.inl rfl)) (pgs_cons (pg_name (i := 4) sc__law_parts.nd rfl (.inl rfl)) pgs_nil)))))
      (pss_cons (ps_par3 (i := 5) (j := 6) (l := 7) rfl sc__law_parts.nd rfl rfl rfl (by decide) (by decide) (by decide) rfl rfl rfl (pa_cons (pe_op op_shlW pe_int (pv 2)) (pa_cons (pe_kc G__law_draw (hr.mono (by decide)) (by rfl) b__law_draw2 pass0 (pa_cons (pv 0) (pa_cons pe_int pa_nil)) pk_nil) (pa_cons (pe_kc G__law_draw (hr.mono (by decide)) (by rfl) b__law_draw2 pass0 (pa_cons (pv 0) (pa_cons pe_int pa_nil)) pk_nil) pa_nil))) (by rfl))
      (pss_cons (ps_if (pt_cmpR op_eq (pv 7) pe_int (nomark _))
      (pss_one (ps_ret (pe_tupA (pa_cons (pv 6) (pa_cons pe_int (pa_cons (pv 3) pa_nil))))))
      pss_nil)
      (pss_cons (ps_if (pt_cmpR op_eq (pv 7) pe_int (nomark _))
      (pss_one (ps_ret (pe_tupA (pa_cons (pv 6) (pa_cons (pe_op op_add pe_int (pe_kc G__law_great (hr.mono (by decide)) (by rfl) b__law_great2 pass0 (pa_cons (pv 0) (pa_cons (pe_op op_sub (pe_op op_shr (pv 5) pe_int) pe_int) pa_nil)) pk_nil)) (pa_cons (pv 3) pa_nil))))))
      pss_nil)
      (pss_cons (ps_if (pt_cmpR op_eq (pv 7) pe_int (nomark _))
      (pss_one (ps_ret (pe_tupA (pa_cons (pv 6) (pa_cons (pe_ix ix_list (pe_lstA (pa_cons pe_int (pa_cons (pe_op op_sub (pe_op op_shr (pv 5) pe_int) pe_int) (pa_cons (pe_op op_shr (pv 5) pe_int) pa_nil)))) (pe_kc G__law_draw (hr.mono (by decide)) (by rfl) b__law_draw2 pass0 (pa_cons (pv 0) (pa_cons pe_int pa_nil)) pk_nil) (fun _ _ => rfl)) (pa_cons (pv 3) pa_nil))))))
      pss_nil)
      (pss_cons (ps_if (pt_cmpR op_eq (pv 7) pe_int (nomark _))
      (pss_one (ps_ret (pe_tupA (pa_cons (pv 6) (pa_cons (pe_op op_sub (pe_op op_sub (pv 5) pe_int) (pe_kc G__law_draw (hr.mono (by decide)) (by rfl) b__law_draw2 pass0 (pa_cons (pv 0) (pa_cons pe_int pa_nil)) pk_nil)) (pa_cons (pv 4) pa_nil))))))
      pss_nil)
      (pss_cons (ps_set (i := 8) sc__law_parts.nd rfl (.inl rfl) (pe_op op_add (pv 3) (pe_kc G__law_great (hr.mono (by decide)) (by rfl) b__law_great2 pass0 (pa_cons (pv 0) (pa_cons (pe_op op_add (pe_op op_sub (pv 4) (pv 3)) pe_int) pa_nil)) pk_nil)))
      (pss_cons (ps_if (pt_cmpR op_eq (pv 7) pe_int (nomark _))
      (pss_one (ps_ret (pe_tupA (pa_cons (pv 6) (pa_cons (pe_op op_shr (pv 5) pe_int) (pa_cons (pv 8) pa_nil))))))
      pss_nil)
      (pss_cons (ps_if (pt_cmpR op_eq (pv 7) pe_int (nomark _))
      (pss_one (ps_ret (pe_tupA (pa_cons (pv 6) (pa_cons (pe_op op_sub (pv 5) pe_int) (pa_cons (pv 8) pa_nil))))))
      pss_nil)
      (pss_cons (ps_if (pt_cmpR op_eq (pv 7) pe_int (nomark _))
      (pss_cons (ps_set (i := 9) sc__law_parts.nd rfl (.inl rfl) (pe_callB (call_max2 rfl) (by rfl) T.z_max (by decide +kernel) (pa_cons (pv 3) (pa_cons (pe_callB (call_min2 rfl) (by rfl) T.z_min (by decide +kernel) (pa_cons (pv 4) (pa_cons (pe_op op_sub (pe_kc G__law_draw (hr.mono (by decide)) (by rfl) b__law_draw2 pass0 (pa_cons (pv 0) (pa_cons pe_int pa_nil)) pk_nil) (pv 2)) pa_nil))) pa_nil))))
      (pss_one (ps_ret (pe_tupA (pa_cons (pv 6) (pa_cons (pe_op op_add (pe_op op_shr (pv 5) pe_int) (pe_callB (call_min2 rfl) (by rfl) T.z_min (by decide +kernel) (pa_cons (pe_kc G__law_draw (hr.mono (by decide)) (by rfl) b__law_draw2 pass0 (pa_cons (pv 0) (pa_cons pe_int pa_nil)) pk_nil) (pa_cons (pe_op op_sub (pe_op op_shr (pv 5) pe_int) pe_int) pa_nil)))) (pa_cons (pv 9) pa_nil)))))))
      pss_nil)
      (pss_one (ps_ret (pe_tupA (pa_cons (pv 6) (pa_cons (pe_op op_add (pe_op op_shr (pv 5) pe_int) (pe_kc G__law_great (hr.mono (by decide)) (by rfl) b__law_great2 pass0 (pa_cons (pv 0) (pa_cons (pe_op op_shr (pv 5) pe_int) pa_nil)) pk_nil)) (pa_cons (pv 8) pa_nil)))))))))))))))), ?_⟩
    refine seq_gen fun R k => ?_
    walk_at "rd"
    refine ⟨_, SqT.of ht, rfl, ?_⟩
    unfold Sh.vs
    walk_at "rd"
    refine k _ _ ?_
    clear k
    refine seq_gen fun R k => ?_
    walk_at "rd"
    refine ⟨shl_big (by omega) (by omega) (small_nat (by decide)), m, l, b, 2, rfl, hD, by omega, by decide, by decide, fun sd H1 sd0 sd1 B1 D1 => ⟨m, l, b + 1, 11, rfl, D1, by omega, by decide, by decide, fun x H2 x0 x1 B2 D2 => ?_⟩⟩
    refine k _ _ ?_
    clear k
    have B12 := B1.trans B2
    walk_at "rd"
    refine ite2 (fun _ => ?_) (fun _ => ?_)
    · exact ⟨by decide, fun p H3 np s3 ep => q H3 p _ _ _ ((D2.same s3).mono (by omega)) (B12.trans (same_but s3)) (B12.free D2 np) ep (fin sd0 sd1 (by omega) (by omega) (by omega) (by omega) (by omega))⟩
    rw [show (2 : Int) ^ sh.p.toNat / 2 = 2 ^ (sh.p - 1).toNat by omega]
    refine ite2 (fun _ => ?_) (fun _ => ?_)
    · refine ⟨m, l, b + 2, 4, _, rfl, D2, by omega, by decide, by decide, by omega, by omega, fun r H3 r0 r1 B3 D3 => ⟨_, rfl, by decide, fun p H4 np s4 ep => ?_⟩⟩
      exact q H4 p _ _ _ ((D3.same s4).mono (by omega)) ((B12.trans B3).trans (same_but s4)) ((B12.trans B3).free D3 np) ep (fin sd0 sd1 (by omega) (by omega) (by omega) (by omega) (by omega))
    refine ite2 (fun _ => ?_) (fun _ => ?_)
    · refine ⟨by decide, fun p1 H3 n1 s3 e1 => ⟨m, l, b + 2, 3, rfl, D2.same s3, by omega, by decide, by decide, fun y H4 y0 y1 B4 D4 => ?_⟩⟩
      refine ixl_ints [1, 2 ^ (sh.p - 1).toNat - 1, 2 ^ (sh.p - 1).toNat] (SqL.of (B4.lst (D2.same s3) e1 (D2.new n1))) y0 y1 fun r hr => ⟨by decide, fun p H5 np s5 ep => ?_⟩
      simp only [List.mem_cons, List.not_mem_nil, or_false] at hr
      have B := B12.trans ((same_but s3).trans B4)
      exact q H5 p _ _ _ ((D4.same s5).mono (by omega)) (B.trans (same_but s5)) (B.free D4 np) ep (fin sd0 sd1 (by omega) (by omega) (by omega) (by omega) (by omega))
    refine ite2 (fun _ => ?_) (fun _ => ?_)
    · refine ⟨m, l, b + 2, 2, rfl, D2, by omega, by decide, by decide, fun r H3 r0 r1 B3 D3 => ⟨_, rfl, by decide, fun p H4 np s4 ep => ?_⟩⟩
      exact q H4 p _ _ _ ((D3.same s4).mono (by omega)) ((B12.trans B3).trans (same_but s4)) ((B12.trans B3).free D3 np) ep (fin sd0 sd1 (by omega) (by omega) (by omega) (by omega) (by omega))
    refine ⟨m, l, b + 2, 1, _, rfl, D2, by omega, by decide, by decide, by omega, Int.le_trans (b := 2101) (by omega) (by decide), fun e H3 r0 r1 B3 D3 => ⟨_, rfl, ?_⟩⟩
    have B13 := B12.trans B3
    refine ite2 (fun _ => ?_) (fun _ => ?_)
    · exact ⟨by decide, fun p H4 np s4 ep => q H4 p _ _ _ ((D3.same s4).mono (by omega)) (B13.trans (same_but s4)) (B13.free D3 np) ep (fin sd0 sd1 (by omega) (by omega) (by omega) (by omega) (by omega))⟩
    refine ite2 (fun _ => ?_) (fun _ => ?_)
    · exact ⟨by decide, fun p H4 np s4 ep => q H4 p _ _ _ ((D3.same s4).mono (by omega)) (B13.trans (same_but s4)) (B13.free D3 np) ep (fin sd0 sd1 (by omega) (by omega) (by omega) (by omega) (by omega))⟩
    refine ite2 (fun _ => ?_) (fun _ => ?_)
    · refine ⟨m, l, b + 3, 9, rfl, D3, by omega, by decide, by decide, fun y H4 y0 y1 B4 D4 => ⟨_, rfl, m, l, b + 4, 9, rfl, D4, by omega, by decide, by decide, fun z H5 z0 z1 B5 D5 => ⟨_, rfl, by decide, fun p H6 np s6 ep => ?_⟩⟩⟩
      have B := B13.trans (B4.trans B5)
      refine q H6 p _ _ _ ((D5.same s6).mono (by omega)) (B.trans (same_but s6)) (B.free D5 np) ep (fin sd0 sd1 ?_ ?_ ?_ ?_ ?_)
      all_goals (repeat' split)
      all_goals omega
    · refine ⟨m, l, b + 3, 4, _, rfl, D3, by omega, by decide, by decide, by omega, by omega, fun r H4 r2 r3 B4 D4 => ⟨_, rfl, by decide, fun p H5 np s5 ep => ?_⟩⟩
      exact q H5 p _ _ _ ((D4.same s5).mono (by omega)) ((B13.trans B4).trans (same_but s5)) ((B13.trans B4).free D4 np) ep (fin sd0 sd1 (by omega) (by omega) (by omega) (by omega) (by omega))
theorem ok__law_near_parts (T : Tx K mg c_Number a_DOUBLE) : DefOk P w K mg base CX0 4 "_law_near_parts" s__law_near_parts [] [] ["_law_m", "_law_form_here", "_law_parts_here"] (sp__law_near_parts K) := by
  have G__law_draw := ok__law_draw (P := P) (w := w) (base := base) T
  have G__law_great := ok__law_great (P := P) (w := w) (base := base) T
  refine T.d__law_near_parts.ok fun f fd F => FunD.ok0 F sc__law_near_parts (fun vs H Q E h => ?_) (fun cdv A outer s H vs Q E hr h => ?_)
  · obtain ⟨m, l, b, t, sh, t2, s0, b0, e0, rfl, _⟩ := h
    rfl
  · obtain ⟨m, l, b, t, sh, t2, s0, b0, e0, rfl, hD, hb, ht, hok, ht2, q⟩ := h
    obtain ⟨p1, p2', l1, l2, h1, h2⟩ := id hok
    have hpp : (2 : Int) ^ sh.p.toNat = 2 * 2 ^ (sh.p - 1).toNat := by
      rw [show sh.p.toNat = (sh.p - 1).toNat + 1 by omega, p2_add, Int.mul_comm]
      rfl
    have hp1 : (2 : Int) ≤ 2 ^ (sh.p - 1).toNat := by
      have := p2_mono (a := 1) (b := (sh.p - 1).toNat) (by omega)
      omega
    have hph : (2 : Int) ^ (sh.p - 1).toNat ≤ 10 ^ 24 := Int.le_trans (p2_mono (b := 63) (by omega)) (by decide)
    refine ⟨_, (pss_cons (ps_par (i := 3) (j := 4) rfl sc__law_near_parts.nd rfl rfl (by decide) rfl rfl (pa_cons (pe_op op_shlW pe_int (pe_ix ix_tup (pv 1) pe_int (fun _ _ => rfl))) (pa_cons (pe_callB (call_max2 rfl) (by rfl) T.z_max (by decide +kernel) (pa_cons (pe_ix ix_tup (pv 1) pe_int (fun _ _ => rfl)) (pa_cons (pe_callB (call_min2 rfl) (by rfl) T.z_min (by decide +kernel) (pa_cons (pe_ix ix_tup (pv 1) pe_int (fun _ _ => rfl)) (pa_cons (pe_op op_sub (pe_op op_add (pe_ix ix_tup (pv 2) pe_int (fun _ _ => rfl)) (pe_kc G__law_draw (hr.mono (by decide)) (by rfl) b__law_draw2 pass0 (pa_cons (pv 0) (pa_cons pe_int pa_nil)) pk_nil)) pe_int) pa_nil))) pa_nil))) pa_nil)) (by rfl))
      (pss_cons (ps_set (i := 5) sc__law_near_parts.nd rfl (.inl rfl) (pe_op op_add (pe_op op_shr (pv 3) pe_int) (pe_kc G__law_great (hr.mono (by decide)) (by rfl) b__law_great2 pass0 (pa_cons (pv 0) (pa_cons (pe_op op_shr (pv 3) pe_int) pa_nil)) pk_nil)))
      (pss_cons (ps_if (pt_cmpR op_eq (pe_kc G__law_draw (hr.mono (by decide)) (by rfl) b__law_draw2 pass0 (pa_cons (pv 0) (pa_cons pe_int pa_nil)) pk_nil) pe_int (nomark _))
      (pss_one (ps_set (i := 5) sc__law_near_parts.nd rfl (.inl rfl) (pe_callB (call_max2 rfl) (by rfl) T.z_max (by decide +kernel) (pa_cons (pe_op op_shr (pv 3) pe_int) (pa_cons (pe_callB (call_min2 rfl) (by rfl) T.z_min (by decide +kernel) (pa_cons (pe_op op_sub (pv 3) pe_int) (pa_cons (pe_op op_sub (pe_op op_add (pe_ix ix_tup (pv 2) pe_int (fun _ _ => rfl)) (pe_kc G__law_draw (hr.mono (by decide)) (by rfl) b__law_draw2 pass0 (pa_cons (pv 0) (pa_cons pe_int pa_nil)) pk_nil)) pe_int) pa_nil))) pa_nil)))))
      pss_nil)
      (pss_one (ps_ret (pe_tupA (pa_cons (pe_kc G__law_draw (hr.mono (by decide)) (by rfl) b__law_draw2 pass0 (pa_cons (pv 0) (pa_cons pe_int pa_nil)) pk_nil) (pa_cons (pv 5) (pa_cons (pv 4) pa_nil))))))))), ?_⟩
    refine seq_gen fun R k => ?_
    walk_at "rd"
    refine ixt_of (SqT.of ht) (atI_nat (j := 0) rfl) ⟨_, rfl, shl_big (by omega) (by omega) (small_nat (by decide)), ?_⟩
    refine ixt_of (SqT.of ht) (atI_nat (j := 1) rfl) (ixt_of (SqT.of ht) (atI_nat (j := 2) rfl) (ixt_of (SqT.of ht2) (atI_nat (j := 2) rfl) ?_))
    refine ⟨m, l, b, 5, rfl, hD, by omega, by decide, by decide, fun x H1 x0 x1 B1 D1 => ⟨_, rfl, _, rfl, _, rfl, _, rfl, k _ _ ?_⟩⟩
    clear k
    generalize he : (if (if e0 + x - 2 < sh.hi then e0 + x - 2 else sh.hi) > sh.lo then if e0 + x - 2 < sh.hi then e0 + x - 2 else sh.hi else sh.lo) = e
    have he1 : sh.lo ≤ e ∧ e ≤ sh.hi := by
      rw [← he]
      repeat' split
      all_goals omega
    clear he
    refine seq_gen fun R k => ?_
    walk_at "rd"
    rw [show (2 : Int) ^ sh.p.toNat / 2 = 2 ^ (sh.p - 1).toNat by omega]
    refine ⟨m, l, b + 1, 4, _, rfl, D1, by omega, by decide, by decide, by omega, by omega, fun r H2 r0 r1 B2 D2 => ⟨_, rfl, k _ _ ?_⟩⟩
    clear k
    have B12 := B1.trans B2
    have ht2' : H2 t2 = some (.tup [.int s0, .int b0, .int e0]) := B12.at hD ht2 (fun _ z => by cases z) (fun _ z => by cases z)
    refine seq_gen fun R k => ?_
    suffices mm : ∀ bt H4, 2 ^ (sh.p - 1).toNat ≤ bt → bt < 2 ^ sh.p.toNat → Drw H4 m l (b + 8) → But m l H H4 → R [some (.ref m), some (.ref t), some (.ref t2), some (.int (2 ^ sh.p.toNat)), some (.int e), some (.int bt)] H4 by
      walk_at "rd"
      refine ⟨m, l, b + 5, 3, rfl, D2, by omega, by decide, by decide, fun y H3 y0 y1 B3 D3 => ?_⟩
      walk_at "rd"
      refine ite2 (fun z => ?_) (fun z => ?_)
      · refine ixt_of (SqT.of (B3.at D2 ht2' (fun _ z => by cases z) (fun _ z => by cases z))) (atI_nat (j := 1) rfl) ?_
        refine ⟨m, l, b + 6, 5, rfl, D3, by omega, by decide, by decide, fun u H4 u0 u1 B4 D4 => ⟨_, rfl, _, rfl, mm _ H4 ?_ ?_ (D4.mono (by omega)) (B12.trans (B3.trans B4))⟩⟩
        all_goals rw [show (2 : Int) ^ sh.p.toNat / 2 = 2 ^ (sh.p - 1).toNat by omega]
        all_goals (repeat' split)
        all_goals omega
      · exact mm _ _ (by omega) (by omega) (D3.mono (by omega)) (B12.trans B3)
    intro bt H4 bt1 bt2 D4 B4
    refine k _ _ ?_
    clear k
    walk_at "rd"
    refine ⟨m, l, b + 8, 2, rfl, D4, by omega, by decide, by decide, fun sd H5 sd0 sd1 B5 D5 => ⟨by decide, fun p H6 np s6 ep => ?_⟩⟩
    exact q H6 p _ _ _ ((D5.same s6).mono (by omega)) ((B4.trans B5).trans (same_but s6)) ((B4.trans B5).free D5 np) ep ⟨hok, sd0, Int.le_of_lt_add_one sd1, by show 0 ≤ bt; omega, bt2, he1.1, he1.2, fun _ => bt1, rfl⟩
theorem ok__law_sum (T : Tx K mg c_Number a_DOUBLE) : DefOk P w K mg base CX0 1 "_law_sum" s__law_sum [] [] ["_law_one_parts", "_law_other_parts"] (sp__law_sum K) := by
  refine T.d__law_sum.ok fun f fd F => FunD.ok0 F sc__law_sum (fun vs H Q E h => ?_) (fun cdv A outer s H vs Q E hr h => ?_)
  · obtain ⟨t1, t2, s1, b1, e1, s2, b2, e2, rfl, _⟩ := h
    rfl
  · obtain ⟨t1, t2, s1, b1, e1, s2, b2, e2, rfl, h1, h2, z1, z2, y1, y2, y3, y4, x1, x2, x3, x4, q⟩ := h
    refine ⟨_, (pss_cons (ps_set (i := 2) sc__law_sum.nd rfl (.inl rfl) (pe_callB (call_min2 rfl) (by rfl) T.z_min (by decide +kernel) (pa_cons (pe_ix ix_tup (pv 0) pe_int (fun _ _ => rfl)) (pa_cons (pe_ix ix_tup (pv 1) pe_int (fun _ _ => rfl)) pa_nil))))
      (pss_cons (ps_set (i := 3) sc__law_sum.nd rfl (.inl rfl) pe_int)
      (pss_cons (ps_for PassesOwn.never rfl (pi_tup (pe_tupA (pa_cons (pv 0) (pa_cons (pv 1) pa_nil)))) (pg_tup (n := 3) rfl (pgs_cons (pg_name (i := 4) sc__law_sum.nd rfl (.inl rfl)) (pgs_cons (pg_name (i := 5) sc__law_sum.nd rfl (.inl rfl)) (pgs_cons (pg_name (i := 6) sc__law_sum.nd rfl (.inl rfl)) pgs_nil))))
      (pss_one (ps_set (i := 3) sc__law_sum.nd rfl (.inl rfl) (pe_op op_add (pv 3) (pe_op op_mulC (pe_op op_shlW (pv 5) (pe_op op_sub (pv 6) (pv 2))) (pe_op op_sub pe_int (pe_op op_mulC pe_int (pv 4))))))))
      (pss_one (ps_ret (pe_tupA (pa_cons (pv 3) (pa_cons (pv 2) pa_nil)))))))), ?_⟩
    walk_at "rd"
    refine ixt_of h1 (atI_nat (j := 2) rfl) (ixt_of h2 (atI_nat (j := 2) rfl) ⟨_, rfl, _, rfl, by decide, fun p H1 np sm ep => ⟨⟨_, SqT.of ep⟩, ?_⟩⟩)
    have m1 : minI e1 e2 ≤ e1 := by
      unfold minI
      split <;> omega
    have m2 : minI e1 e2 ≤ e2 := by
      unfold minI
      split <;> omega
    have m3 : -10000 ≤ minI e1 e2 := by
      unfold minI
      split <;> omega
    have mul : ∀ {s b e : Int}, 0 ≤ s → s ≤ 1 → b.natAbs < 2 ^ 10000 → minI e1 e2 ≤ e → e ≤ 10000 → CShl b (e - minI e1 e2) ∧ CMulC (b * 2 ^ (e - minI e1 e2).toNat) (1 - 2 * s) := fun {s b e} a1 a2 a3 a4 a5 =>
      ⟨shl_big (by omega) (by omega) (Nat.lt_of_lt_of_le a3 (Nat.pow_le_pow_right (n := 2) (i := 10000) (j := 100000) (by decide) (by decide))), .inr (mulx_ok (a := 10000 + (e - minI e1 e2).toNat) (b := 2) (nat_shl a3) (by omega) (by omega))⟩
    refine loop_tup (xs := [.ref t1, .ref t2]) (fun i σ H' => ∃ f4 f5 f6, σ = [some (V.ref t1), some (V.ref t2), some (V.int (minI e1 e2)), some (V.int (match i with | 0 => 0 | 1 => b1 * 2 ^ (e1 - minI e1 e2).toNat * (1 - 2 * s1) | _ => b1 * 2 ^ (e1 - minI e1 e2).toNat * (1 - 2 * s1) + b2 * 2 ^ (e2 - minI e1 e2).toNat * (1 - 2 * s2))), f4, f5, f6] ∧ H' = H1)
      ⟨_, _, _, rfl, rfl⟩ (fun i σ H' _ ⟨_, _, _, _, e⟩ => by rw [e]; exact SqT.of ep) (fun i x σ H' hx hp => ?_) (fun σ H' hp => ?_)
    · obtain ⟨f4, f5, f6, rfl, rfl⟩ := hp
      match i, hx with
      | 0, hx =>
        cases hx
        walk_at "rd"
        refine ⟨_, same_tup sm h1, rfl, ?_⟩
        walk_at "rd"
        obtain ⟨c1, c2⟩ := mul x1 x2 z1 m1 y2
        refine ⟨c1, .inl (.inl ⟨by decide, by omega⟩), c2, ?_⟩
        exact Int.zero_add _
      | 1, hx =>
        cases hx
        walk_at "rd"
        refine ⟨_, same_tup sm h2, rfl, ?_⟩
        walk_at "rd"
        obtain ⟨c1, c2⟩ := mul x3 x4 z2 m2 y4
        exact ⟨c1, .inl (.inl ⟨by decide, by omega⟩), c2⟩
    · obtain ⟨f4, f5, f6, rfl, rfl⟩ := hp
      walk_at "rd"
      exact ⟨by decide, fun p2 H2 n2 s2 e2 => q H2 p2 (sm.trans s2) (Same.free sm n2) e2⟩
theorem ok__law_fraction (T : Tx K mg c_Number a_DOUBLE) : DefOk P w K mg base CX0 1 "_law_fraction" s__law_fraction [] [] ["_law_size", "_law_scale"] (sp__law_fraction2) := by
  refine T.d__law_fraction.ok fun f fd F => FunD.ok0 F sc__law_fraction (fun vs H Q E h => ?_) (fun cdv A outer s H vs Q E hr h => ?_)
  · obtain ⟨n, e, rfl, _⟩ := h
    rfl
  · obtain ⟨n, e, rfl, z1, y1, y2, q⟩ := h
    refine ⟨_, (pss_one (ps_ret (pe_tupA (pa_cons (pe_op op_shlW (pv 0) (pe_callB (call_max2 rfl) (by rfl) T.z_max (by decide +kernel) (pa_cons pe_int (pa_cons (pv 1) pa_nil)))) (pa_cons (pe_op op_shlW pe_int (pe_callB (call_max2 rfl) (by rfl) T.z_max (by decide +kernel) (pa_cons pe_int (pa_cons (pe_op op_sub pe_int (pv 1)) pa_nil)))) pa_nil))))), ?_⟩
    walk_at "rd"
    refine ⟨shl_big (by split <;> omega) (by split <;> omega) z1, shl_big (by split <;> omega) (by split <;> omega) (small_nat (by decide)), by decide, fun p H1 np s1 ep => q H1 p s1 np ?_⟩
    rw [show (if e > 0 then e else 0).toNat = e.toNat by split <;> omega, show (if 0 - e > 0 then 0 - e else 0).toNat = (-e).toNat by split <;> omega] at ep
    exact ep
theorem ok_raised (T : Tx K mg c_Number a_DOUBLE) : DefOk P w K mg base CX0 1 "raised" s_raised [] [] ["base", "many"] (sp_raised) := by
  refine T.d_raised.ok fun f fd F => FunD.ok0 F sc_raised (fun vs H Q E h => ?_) (fun cdv A outer s H vs Q E hr h => ?_)
  · obtain ⟨b, m, rfl, _⟩ := h
    rfl
  · obtain ⟨b, m, rfl, hb, hm, q⟩ := h
    refine ⟨_, (pss_cons (ps_par3 (i := 2) (j := 3) (l := 4) rfl sc_raised.nd rfl rfl rfl (by decide) (by decide) (by decide) rfl rfl rfl (pa_cons pe_int (pa_cons (pv 0) (pa_cons (pv 1) pa_nil))) (by rfl))
      (pss_cons (ps_while PassesOwn.never (pt_cmpR op_gt (pv 4) pe_int (nomark _))
      (pss_cons (ps_if (pt_cmpR op_eq (pe_op op_mod (pv 4) pe_int) pe_int (nomark _))
      (pss_one (ps_aug (i := 2) sc_raised.nd rfl (.inl rfl) (pv 3) iop_mulC))
      pss_nil)
      (pss_cons (ps_aug (i := 4) sc_raised.nd rfl (.inl rfl) pe_int iop_fdivC)
      (pss_one (ps_if (pt_cmpR op_gt (pv 4) pe_int (nomark _))
      (pss_one (ps_aug (i := 3) sc_raised.nd rfl (.inl rfl) (pv 3) iop_mulC))
      pss_nil)))))
      (pss_one (ps_ret (pv 2))))), ?_⟩
    walk_at "rd"
    refine while_go (fun n σ H' => ∃ (fo pi : Int), σ = [some (V.int b), some (V.int m), some (V.int fo), some (V.int pi), some (V.int n)] ∧ H' = H ∧ fo * pi ^ n = b ^ m ∧ (b = 0 → (fo = 0 ∨ fo = 1) ∧ pi = 0) ∧ n ≤ m) m
      ⟨1, b, rfl, rfl, by rw [Int.one_mul], fun e => ⟨.inr rfl, e⟩, Nat.le_refl _⟩ ?_ (fun σ H Q Q' hq hc => ?_)
    · rintro n σ H' ⟨fo, pi, rfl, rfl, he, hz, hnm⟩
      have hmul : 0 < n → CMulC fo pi := fun hn => by
        by_cases h0 : b = 0
        · obtain ⟨h1, h2⟩ := hz h0
          subst h2
          exact .inl (.inr ⟨by decide, by decide⟩)
        · refine pow_mul_size hb hm ?_ ?_ h0
          · rw [← he]
            exact Int.dvd_mul_right _ _
          · rw [← he]
            obtain ⟨k, rfl⟩ : ∃ k, n = k + 1 := ⟨n - 1, by omega⟩
            rw [Int.pow_succ]
            exact Int.dvd_trans (Int.dvd_mul_left _ _) (Int.dvd_mul_left _ _)
      have hsq : 0 < n / 2 → CMulC pi pi := fun hn => by
        by_cases h0 : b = 0
        · obtain ⟨h1, h2⟩ := hz h0
          subst h2
          exact .inl (.inr ⟨by decide, by decide⟩)
        · have hd : pi ∣ b ^ m := by
            rw [← he]
            obtain ⟨k, rfl⟩ : ∃ k, n = k + 1 := ⟨n - 1, by omega⟩
            rw [Int.pow_succ]
            exact Int.dvd_trans (Int.dvd_mul_left _ _) (Int.dvd_mul_left _ _)
          exact pow_mul_size hb hm hd hd h0
      have hdiv : CDivC (n : Int) 2 := ⟨by decide, .inl (by decide)⟩
      have en : ((n : Int) / 2) = ((n / 2 : Nat) : Int) := by omega
      have hpp : pi ^ n = (if n % 2 = 1 then pi else 1) * (pi * pi) ^ (n / 2) := by
        have e2 : pi * pi = pi ^ 2 := by rw [Int.pow_succ, Int.pow_succ, Int.pow_zero, Int.one_mul]
        rw [e2, ← Int.pow_mul]
        split
        · rw [Int.mul_comm, ← Int.pow_succ]
          congr 1
          omega
        · rw [Int.one_mul]
          congr 1
          omega
      walk_at "rd"
      refine ite2 (fun hn => ?_) (fun hn => ?_)
      · have hn' : 0 < n := by omega
        refine ite2 (fun ho => ?_) (fun ho => ?_)
        · have ho' : n % 2 = 1 := by omega
          rw [if_pos ho'] at hpp
          refine ⟨hmul hn', hdiv, ite2 (fun h2 => ?_) (fun h2 => ?_)⟩
          · refine ⟨hsq (by omega), n / 2, by omega, by rw [en], ?_, ?_, by omega⟩
            · rw [← he, hpp, Int.mul_assoc]
            · intro e
              obtain ⟨h1, h3⟩ := hz e
              subst h3
              exact ⟨.inl (by rw [Int.mul_zero]), by rw [Int.mul_zero]⟩
          · refine ⟨n / 2, by omega, by rw [en], ?_, ?_, by omega⟩
            · have z : n / 2 = 0 := by omega
              rw [z, Int.pow_zero, Int.mul_one] at hpp ⊢
              rw [← he, hpp]
            · intro e
              obtain ⟨h1, h3⟩ := hz e
              subst h3
              exact ⟨.inl (by rw [Int.mul_zero]), rfl⟩
        · have ho' : ¬ n % 2 = 1 := by omega
          rw [if_neg ho', Int.one_mul] at hpp
          refine ⟨hdiv, ite2 (fun h2 => ?_) (fun h2 => ?_)⟩
          · refine ⟨hsq (by omega), n / 2, by omega, by rw [en], ?_, ?_, by omega⟩
            · rw [← he, hpp]
            · intro e
              obtain ⟨h1, h3⟩ := hz e
              subst h3
              exact ⟨h1, by rw [Int.mul_zero]⟩
          · omega
      · have z : n = 0 := by omega
        subst z
        rw [Int.pow_zero, Int.mul_one] at he
        rw [he]
        exact q
    · obtain ⟨v, e, i, j, e1, e2, k, e3, q1⟩ := hc
      exact ⟨v, e, i, j, e1, e2, k, e3, hq _ _ q1⟩
theorem ok_is_whole (T : Tx K mg c_Number a_DOUBLE) : DefOk P w K mg base CX0 1 "is_whole" s_is_whole [] [] ["thing", "least", "most"] (sp_is_whole K) := by
  refine T.d_is_whole.ok fun f fd F => FunD.ok0 F sc_is_whole (fun vs H Q E h => ?_) (fun cdv A outer s H vs Q E hr h => ?_)
  · obtain ⟨x, lo, hi, rfl, _⟩ := h
    rfl
  · obtain ⟨x, lo, hi, rfl, hk, q⟩ := h
    refine ⟨_, (pss_one (ps_ret (pe_and (pe_callB call_isi (by rfl) T.z_isinstance (by decide +kernel) (pa_cons (pv 0) (pa_cons (pe_bltn (v := .ty "int") (by rfl) T.z_int (by decide +kernel) rfl) pa_nil))) (pe_and (pe_not (pe_callB call_isi (by rfl) T.z_isinstance (by decide +kernel) (pa_cons (pv 0) (pa_cons (pe_bltn (v := .ty "bool") (by rfl) T.z_bool (by decide +kernel) rfl) pa_nil)))) (pe_one (pe_chain op_le op_le (pv 1) (pv 0) (pv 2))))))), ?_⟩
    have hno : NoInt K H x → wholeIn x lo hi = false → (rIsi K [x, .ty "int"] H fun x_1 H1 => ∃ c, x_1 = .bl c ∧ if c = true then
        (rIsi K [x, .ty "bool"] H1 fun x_1 H1 => ∃ c, x_1 = .bl c ∧ if (!c) = true then (if lo ≤ 0 then Q (.bl false) H1 else Q (.bl false) H1) else Q (.bl false) H1) else Q (.bl false) H1) := by
      intro ⟨t, ty, e⟩ z
      rw [z] at q
      exact rIsi_of ty e ⟨false, rfl, by simpa using q⟩
    cases x with
    | int i =>
      walk_at "rd"
      refine rIsi_of (tyx_int i) kit_int_int ?_
      walk_at "rd"
      refine rIsi_of (tyx_int i) kit_int_bool ?_
      walk_at "rd"
      refine ite2 (fun h1 => ?_) (fun h1 => ?_)
      · simpa [wholeIn, h1] using q
      · simpa [wholeIn, h1] using q
    | bl b =>
      walk_at "rd"
      refine rIsi_of (tyx_bl b) kit_bool_int ?_
      walk_at "rd"
      refine rIsi_of (tyx_bl b) kit_bool_bool ?_
      walk_at "rd"
      exact q
    | _ =>
      walk_at "rd"
      obtain ⟨t, ty, e⟩ := hk
      refine rIsi_of ty e ?_
      walk_at "rd"
      exact q
theorem ok_need_fraction (T : Tx K mg c_Number a_DOUBLE) : DefOk P w K mg base CX0 2 "need_fraction" s_need_fraction [] [] ["numerator", "denominator"] (sp_need_fraction) := by
  have G_is_whole := ok_is_whole (P := P) (w := w) (base := base) T
  have G_raised := ok_raised (P := P) (w := w) (base := base) T
  refine T.d_need_fraction.ok fun f fd F => FunD.ok0 F sc_need_fraction (fun vs H Q E h => ?_) (fun cdv A outer s H vs Q E hr h => ?_)
  · obtain ⟨n, d, rfl, _⟩ := h
    rfl
  · obtain ⟨n, d, rfl, h1, h2, h3, h4, q⟩ := h
    refine ⟨_, (pss_cons (ps_set (i := 2) sc_need_fraction.nd rfl (.inl rfl) (pe_kc G_raised (hr.mono (by decide)) (by rfl) b_raised2 pass0 (pa_cons pe_int (pa_cons (pe_gc (by rfl) T.c_MOST_FIGURES) pa_nil)) pk_nil))
      (pss_cons (ps_if (pt_not (pt_val (pe_kc G_is_whole (hr.mono (by decide)) (by rfl) b_is_whole3 pass0 (pa_cons (pv 0) (pa_cons (pe_op op_sub pe_int (pv 2)) (pa_cons (pe_op op_sub (pv 2) pe_int) pa_nil))) pk_nil)))
      (pss_one ps_never)
      pss_nil)
      (pss_one (ps_if (pt_not (pt_val (pe_kc G_is_whole (hr.mono (by decide)) (by rfl) b_is_whole3 pass0 (pa_cons (pv 1) (pa_cons pe_int (pa_cons (pv 2) pa_nil))) pk_nil)))
      (pss_one ps_never)
      pss_nil)))), ?_⟩
    walk_at "rd"
    refine ⟨10, 3000, by rfl, by decide, by decide, ?_⟩
    generalize hB : (10 : Int) ^ 3000 = B at h1 h2 h4 ⊢
    walk_at "rd"
    refine ⟨.int n, _, _, rfl, trivial, ?_⟩
    rw [wholeIn_yes (show 1 - B ≤ n by omega) (show n ≤ B - 1 by omega)]
    walk_at "rd"
    refine ⟨.int d, _, _, rfl, trivial, ?_⟩
    rw [wholeIn_yes h3 h4]
    walk_at "rd"
    exact q
theorem ok_is_shape (T : Tx K mg c_Number a_DOUBLE) : DefOk P w K mg base CX0 2 "is_shape" s_is_shape [] [] ["thing"] (sp_is_shape K) := by
  have G_is_whole := ok_is_whole (P := P) (w := w) (base := base) T
  refine T.d_is_shape.ok fun f fd F => FunD.ok0 F sc_is_shape (fun vs H Q E h => ?_) (fun cdv A outer s H vs Q E hr h => ?_)
  · obtain ⟨t, s, rfl, _⟩ := h
    rfl
  · obtain ⟨t, sh, rfl, ht, q⟩ := h
    refine ⟨_, (pss_cons (ps_if (PW.pt (pw_or (pt_not (pt_val (pe_callB call_isi (by rfl) T.z_isinstance (by decide +kernel) (pa_cons (pv 0) (pa_cons (pe_bltn (v := .ty "tuple") (by rfl) T.z_tuple (by decide +kernel) rfl) pa_nil))))) (pw_or (pt_cmpR op_ne (pe_callB call_len_seq (by rfl) T.z_len (by decide +kernel) (pa_cons (pv 0) pa_nil)) pe_int (nomark _)) (pw_or1 (pt_not (pt_val (pe_kc G_is_whole (hr.mono (by decide)) (by rfl) b_is_whole3 pass0 (pa_cons (pe_ix ix_tup (pv 0) pe_int (fun _ _ => rfl)) (pa_cons pe_int (pa_cons (pe_gc (by rfl) T.c_MOST_PRECISION) pa_nil))) pk_nil)))))))
      (pss_one (ps_ret pe_bl))
      pss_nil)
      (pss_one (ps_ret (pe_and (pe_kc G_is_whole (hr.mono (by decide)) (by rfl) b_is_whole3 pass0 (pa_cons (pe_ix ix_tup (pv 0) pe_int (fun _ _ => rfl)) (pa_cons (pe_gc (by rfl) T.c_LEAST_LOW) (pa_cons pe_int pa_nil))) pk_nil) (pe_one (pe_kc G_is_whole (hr.mono (by decide)) (by rfl) b_is_whole3 pass0 (pa_cons (pe_ix ix_tup (pv 0) pe_int (fun _ _ => rfl)) (pa_cons (pe_ix ix_tup (pv 0) pe_int (fun _ _ => rfl)) (pa_cons (pe_gc (by rfl) T.c_MOST_HIGH) pa_nil))) pk_nil)))))), ?_⟩
    walk_at "rd"
    refine rIsi_of (tyx_sqt ht) (kit_ty (r := true) (by decide +kernel)) ?_
    walk_at "rd"
    refine ⟨_, .inr ht, ?_⟩
    rw [show sh.vs.length = 3 from rfl]
    walk_at "rd"
    rw [if_neg (by decide)]
    refine ixt_of ht (atI_nat (j := 0) rfl) ?_
    refine ⟨_, _, _, rfl, trivial, ?_⟩
    cases e1 : wholeIn (.int sh.p) 2 64 with
    | false =>
      walk_at "rd"
      unfold shapeOk at q
      rw [e1] at q
      exact q
    | true =>
      walk_at "rd"
      refine ixt_of ht (atI_nat (j := 1) rfl) ?_
      refine ⟨_, _, _, rfl, trivial, ?_⟩
      unfold shapeOk at q
      rw [e1] at q
      cases e2 : wholeIn (.int sh.lo) (-1100) 0 with
      | false =>
        walk_at "rd"
        rw [e2] at q
        exact q
      | true =>
        walk_at "rd"
        rw [e2] at q
        refine ixt_of ht (atI_nat (j := 2) rfl) (ixt_of ht (atI_nat (j := 1) rfl) ?_)
        exact ⟨_, _, _, rfl, trivial, q⟩
theorem ok_is_way (T : Tx K mg c_Number a_DOUBLE) : DefOk P w K mg base CX0 1 "is_way" s_is_way [] [] ["thing"] (sp_is_way K) := by
  refine T.d_is_way.ok fun f fd F => FunD.ok0 F sc_is_way (fun vs H Q E h => ?_) (fun cdv A outer s H vs Q E hr h => ?_)
  · obtain ⟨x, rfl, _⟩ := h
    rfl
  · obtain ⟨x, rfl, hk, q⟩ := h
    refine ⟨_, (pss_one (ps_ret (pe_and (pe_callB call_isi (by rfl) T.z_isinstance (by decide +kernel) (pa_cons (pv 0) (pa_cons (pe_bltn (v := .ty "str") (by rfl) T.z_str (by decide +kernel) rfl) pa_nil))) (pe_one (pe_cmpR op_in_seq (pv 0) (pe_tupA (pa_cons (pe_gc (by rfl) T.c_NEAREST) (pa_cons (pe_gc (by rfl) T.c_AWAY) (pa_cons (pe_gc (by rfl) T.c_ZERO) (pa_cons (pe_gc (by rfl) T.c_UP) (pa_cons (pe_gc (by rfl) T.c_DOWN) pa_nil)))))) (by rfl)))))), ?_⟩
    walk_at "rd"
    rcases hk with ⟨z, rfl⟩ | ⟨hz, t, ty, e⟩
    · refine rIsi_of (tyx_str z) kit_str_str ?_
      walk_at "rd"
      refine ⟨by decide, fun p H' hp s e => ⟨p, _, rfl, .inr (SqT.of e), rfl, rfl, ?_⟩⟩
      exact q _ s
    · refine rIsi_of ty e ?_
      walk_at "rd"
      have z : isWay x = false := by
        cases x with
        | str z => exact absurd rfl (hz z)
        | _ => rfl
      rw [← z]
      exact q _ (Same.refl _)
theorem ok_Number___init__ (T : Tx K mg c_Number a_DOUBLE) : InitOk P w K mg base CX0 3 c_Number "Number.__init__" s_Number___init__ [.ref a_DOUBLE] [("sign", .int (0)), ("significand", .int (0)), ("exponent", .non)] ["self", "shape", "sign", "significand", "exponent"] (sp_Number_init K c_Number) := by
  have G_is_shape := ok_is_shape (P := P) (w := w) (base := base) T
  have G_is_whole := ok_is_whole (P := P) (w := w) (base := base) T
  refine T.d_Number___init__.ok fun f fd F => FunD.ok0 F sc_Number___init__ (fun vs H Q E h => ?_) (fun cdv A outer s H vs Q E hr h => ?_)
  · obtain ⟨a, dx, t, x, ex, rfl, _⟩ := h
    rfl
  · obtain ⟨a, dx, t, x, ex, rfl, ha, ht, hex, hsc, hf, q⟩ := h
    have hok := hf.ok
    obtain ⟨p1, p2, l1, l2, h1, h2⟩ := id hok
    refine ⟨_, (pss_cons (ps_if (pt_not (pt_val (pe_kc G_is_shape (hr.mono (by decide)) (by rfl) b_is_shape1 pass0 (pa_cons (pv 1) pa_nil) pk_nil)))
      (pss_one ps_never)
      pss_nil)
      (pss_cons (ps_if (pt_not (pt_val (pe_kc G_is_whole (hr.mono (by decide)) (by rfl) b_is_whole3 pass0 (pa_cons (pv 2) (pa_cons pe_int (pa_cons pe_int pa_nil))) pk_nil)))
      (pss_one ps_never)
      pss_nil)
      (pss_cons (ps_asg (pv 1) (pg_tup (n := 3) rfl (pgs_cons (pg_name (i := 5) sc_Number___init__.nd rfl (.inl rfl)) (pgs_cons (pg_name (i := 6) sc_Number___init__.nd rfl (.inl rfl)) (pgs_cons (pg_name (i := 7) sc_Number___init__.nd rfl (.inl rfl)) pgs_nil)))))
      (pss_cons (ps_if (pt_not (pt_val (pe_kc G_is_whole (hr.mono (by decide)) (by rfl) b_is_whole3 pass0 (pa_cons (pv 3) (pa_cons pe_int (pa_cons (pe_op op_sub (pe_op op_shlW pe_int (pv 5)) pe_int) pa_nil))) pk_nil)))
      (pss_one ps_never)
      pss_nil)
      (pss_cons (ps_set (i := 8) sc_Number___init__.nd rfl (.inl rfl) (pe_ifExp (pt_cmpR op_isN (pv 4) pe_non (nomark _)) (pv 6) (pv 4)))
      (pss_cons (ps_if (PW.pt (pw_or (pt_not (pt_val (pe_kc G_is_whole (hr.mono (by decide)) (by rfl) b_is_whole3 pass0 (pa_cons (pv 8) (pa_cons (pv 6) (pa_cons (pv 7) pa_nil))) pk_nil))) (pw_or1 (PW.pt (pw_and (pt_cmpR op_gt (pv 8) (pv 6) (nomark _)) (pw_and1 (pt_cmpR op_lt (pv 3) (pe_op op_shlW pe_int (pe_op op_sub (pv 5) pe_int)) (nomark _))))))))
      (pss_one ps_never)
      pss_nil)
      (pss_cons (ps_fld (pv 0) (pv 1) rfl)
      (pss_cons (ps_fld (pv 0) (pv 2) rfl)
      (pss_cons (ps_fld (pv 0) (pv 3) rfl)
      (pss_cons (ps_fld (pv 0) (pv 8) rfl)
      (pss_one (ps_fld (pv 0) pe_str rfl)))))))))))), ?_⟩
    walk_at "rd"
    refine ⟨t, x.sh, rfl, ht, ?_⟩
    rw [shapeOk_of hok]
    walk_at "rd"
    refine ⟨_, _, _, rfl, trivial, ?_⟩
    rw [wholeIn_yes hf.s1 hf.s2]
    walk_at "rd"
    refine ⟨_, ht, rfl, ?_⟩
    unfold Sh.vs
    walk_at "rd"
    refine ⟨shl_small (by omega) (by omega) (small_nat (by decide)), _, _, _, rfl, trivial, ?_⟩
    rw [wholeIn_yes hf.b1 (show x.bits ≤ 2 ^ x.sh.p.toNat - 1 by have := hf.b2; omega)]
    have fin : ∀ (e : V), e = .int x.scale → SetQ K "form" (V.ref a) (V.ref t) H (tSeq (sFld K (tVar 0) (tVar 2) "side") (tSeq (sFld K (tVar 0) (tVar 3) "bits") (tSeq (sFld K (tVar 0) (tVar 8) "scale") (sFld K (tVar 0) (tC (V.str "finite")) "state")))
        { nx := fun _ H' => Q V.non H', rt := Q } [some (V.ref a), some (V.ref t), some (V.int x.side), some (V.int x.bits), some ex, some (V.int x.sh.p), some (V.int x.sh.lo), some (V.int x.sh.hi), some e]) := by
      intro e he
      subst he
      refine setq_of ha T.cl_Number T.n_Number_form (by decide) rfl fun H1 k1 e1 => ?_
      walk_at "rd"
      refine setq_of e1 T.cl_Number T.n_Number_side (by show 1 < 1000; decide) rfl fun H2 k2 e2 => ?_
      walk_at "rd"
      refine setq_of e2 T.cl_Number T.n_Number_bits (by show 2 < 1000; decide) rfl fun H3 k3 e3 => ?_
      walk_at "rd"
      refine setq_of e3 T.cl_Number T.n_Number_scale (by show 3 < 1000; decide) rfl fun H4 k4 e4 => ?_
      walk_at "rd"
      refine setq_of e4 T.cl_Number T.n_Number_state (by show 4 < 1000; decide) rfl fun H5 k5 e5 => ?_
      refine q H5 (fun b hb => by rw [k5 b hb, k4 b hb, k3 b hb, k2 b hb, k1 b hb]) ?_
      rw [e5]
      unfold Nm.fs
      rw [hf.st]
      rfl
    have nrm : x.sh.lo < x.scale → ¬ x.bits < 2 ^ (x.sh.p - 1).toNat := fun z => by
      have := hf.nm z
      omega
    walk_at "rd"
    refine ite2 (fun hx => ?_) (fun hx => ?_)
    · subst hx
      have es : x.scale = x.sh.lo := hsc
      refine ⟨_, _, _, rfl, trivial, ?_⟩
      rw [wholeIn_yes (Int.le_refl _) h1]
      walk_at "rd"
      rw [if_neg (Int.lt_irrefl _)]
      exact fin _ (by rw [es])
    · rcases hex with hex | ⟨i, hex⟩
      · exact absurd hex hx
      subst hex
      have es : x.scale = i := hsc
      refine ⟨_, _, _, rfl, trivial, ?_⟩
      rw [wholeIn_yes (show x.sh.lo ≤ i by rw [← es]; exact hf.e1) (show i ≤ x.sh.hi by rw [← es]; exact hf.e2)]
      walk_at "rd"
      refine ite2 (fun hlt => ?_) (fun _ => fin _ (by rw [es]))
      refine ⟨shl_small (by omega) (by omega) (small_nat (by decide)), ?_⟩
      rw [if_neg (nrm (by rw [es]; exact hlt))]
      exact fin _ (by rw [es])
theorem ok_halvings_in (T : Tx K mg c_Number a_DOUBLE) : DefOk P w K mg base CX0 1 "halvings_in" s_halvings_in [] [] ["size", "denominator"] (sp_halvings_in) := by
  refine T.d_halvings_in.ok fun f fd F => FunD.ok0 F sc_halvings_in (fun vs H Q E h => ?_) (fun cdv A outer s H vs Q E hr h => ?_)
  · obtain ⟨s, d, rfl, _⟩ := h
    rfl
  · obtain ⟨n, d, rfl, hn, hd, bn, bd, q⟩ := h
    obtain ⟨A', eA, a1, a2⟩ := bits_spec hn
    obtain ⟨B', eB, b1, b2⟩ := bits_spec hd
    obtain ⟨k1, k2⟩ := halv_many a1 a2 b1 b2
    have zA : A' < 100000 := by
      have := PyProof.Rows.intBits_le bn
      omega
    have zB : B' < 100000 := by
      have := PyProof.Rows.intBits_le bd
      omega
    refine ⟨_, (pss_cons (ps_set (i := 2) sc_halvings_in.nd rfl (.inl rfl) (pe_op op_sub (pe_bits (pv 0)) (pe_bits (pv 1))))
      (pss_cons (ps_set (i := 3) sc_halvings_in.nd rfl (.inl rfl) (pe_ifExp (pt_cmpR op_ge (pv 2) pe_int (nomark _)) (pe_cmpR op_ge (pv 0) (pe_op op_shlW (pv 1) (pv 2)) (nomark _)) (pe_cmpR op_ge (pe_op op_shlW (pv 0) (pe_un un_neg (pv 2))) (pv 1) (nomark _))))
      (pss_one (ps_ret (pe_ifExp (pt_val (pv 3)) (pv 2) (pe_op op_sub (pv 2) pe_int)))))), ?_⟩
    walk_at "rd"
    rw [eA, eB, show ((A' + 1 : Nat) : Int) - ((B' + 1 : Nat) : Int) = (A' : Int) - B' by omega]
    refine ite2 (fun h0 => ?_) (fun h0 => ?_)
    · have e0 : (-((A' : Int) - B')).toNat = 0 := by omega
      rw [e0, Int.pow_zero, Int.mul_one] at k1 k2
      refine ⟨shl_small h0 (by omega) bd, ite2 (fun hr => ?_) (fun hr => ?_)⟩
      · exact q _ (k1 hr) (by omega) (by omega)
      · exact q _ (k2 hr) (by omega) (by omega)
    · have e0 : ((A' : Int) - B').toNat = 0 := by omega
      rw [e0, Int.pow_zero, Int.mul_one] at k1 k2
      refine ⟨shl_small (by omega) (by omega) bn, ite2 (fun hr => ?_) (fun hr => ?_)⟩
      · exact q _ (k1 hr) (by omega) (by omega)
      · exact q _ (k2 hr) (by omega) (by omega)
theorem ok_whole_of (T : Tx K mg c_Number a_DOUBLE) : DefOk P w K mg base CX0 1 "whole_of" s_whole_of [] [] ["numerator", "denominator", "way"] (sp_whole_of) := by
  refine T.d_whole_of.ok fun f fd F => FunD.ok0 F sc_whole_of (fun vs H Q E h => ?_) (fun cdv A outer s H vs Q E hr h => ?_)
  · obtain ⟨n, d, w, rfl, _⟩ := h
    rfl
  · obtain ⟨n, d, w, rfl, hd, q⟩ := h
    have hd0 : 0 < d := hd.1
    refine ⟨_, (pss_cons (ps_asg (pe_callB call_divmodA (by rfl) T.z_divmod (by decide +kernel) (pa_cons (pv 0) (pa_cons (pv 1) pa_nil))) (pg_tup (n := 2) rfl (pgs_cons (pg_name (i := 3) sc_whole_of.nd rfl (.inl rfl)) (pgs_cons (pg_name (i := 4) sc_whole_of.nd rfl (.inl rfl)) pgs_nil))))
      (pss_cons (ps_if (PW.pt (pw_or (pt_cmpR op_eq (pv 4) pe_int (nomark _)) (pw_or1 (pt_cmpR op_eq (pv 2) (pe_gc (by rfl) T.c_DOWN) (nomark _)))))
      (pss_one (ps_ret (pv 3)))
      pss_nil)
      (pss_cons (ps_if (pt_cmpR op_eq (pv 2) (pe_gc (by rfl) T.c_UP) (nomark _))
      (pss_one (ps_ret (pe_op op_add (pv 3) pe_int)))
      pss_nil)
      (pss_cons (ps_if (pt_cmpR op_eq (pv 2) (pe_gc (by rfl) T.c_ZERO) (nomark _))
      (pss_one (ps_ret (pe_ifExp (pt_cmpR op_gt (pv 0) pe_int (nomark _)) (pv 3) (pe_op op_add (pv 3) pe_int))))
      pss_nil)
      (pss_cons (ps_if (pt_cmpR op_eq (pe_op op_mulC pe_int (pv 4)) (pv 1) (nomark _))
      (pss_one (ps_ret (pe_ifExp (pt_cmpR op_eq (pv 2) (pe_gc (by rfl) T.c_NEAREST) (nomark _)) (pe_op op_add (pv 3) (pe_op op_mod (pv 3) pe_int)) (pe_op op_add (pv 3) (pe_callTy call_int1 (by rfl) T.z_int (by decide +kernel) (pa_cons (pe_cmpR op_gt (pv 0) pe_int (nomark _)) pa_nil))))))
      pss_nil)
      (pss_one (ps_ret (pe_op op_add (pv 3) (pe_callTy call_int1 (by rfl) T.z_int (by decide +kernel) (pa_cons (pe_cmpR op_gt (pe_op op_mulC pe_int (pv 4)) (pv 1) (nomark _)) pa_nil)))))))))), ?_⟩
    walk_at "rd"
    refine ⟨hd, fun p H' hp s e => ⟨_, SqT.of e, rfl, ?_⟩⟩
    have q2 := q _ s
    unfold wholeOf at q2
    walk_at "rd"
    refine ite2 (fun h1 => ?_) (fun h1 => ?_)
    · rw [if_pos (.inl h1)] at q2
      exact q2
    refine ite2 (fun h2 => ?_) (fun h2 => ?_)
    · rw [if_pos (.inr h2)] at q2
      exact q2
    rw [if_neg (fun z => z.elim h1 h2)] at q2
    refine ite2 (fun h3 => ?_) (fun h3 => ?_)
    · rw [if_pos h3] at q2
      exact q2
    rw [if_neg h3] at q2
    refine ite2 (fun h4 => ?_) (fun h4 => ?_)
    · rw [if_pos h4] at q2
      refine ite2 (fun h5 => ?_) (fun h5 => ?_)
      · rw [if_pos h5] at q2
        exact q2
      · rw [if_neg h5] at q2
        exact q2
    rw [if_neg h4] at q2
    refine ⟨.inl (.inl ⟨by decide, by decide⟩), ite2 (fun h5 => ?_) (fun h5 => ?_)⟩
    · rw [if_pos h5] at q2
      refine ite2 (fun h6 => ?_) (fun h6 => ?_)
      · rw [if_pos h6] at q2
        exact q2
      · rw [if_neg h6] at q2
        exact q2
    · rw [if_neg h5] at q2
      exact ⟨.inl (.inl ⟨by decide, by decide⟩), q2⟩
theorem ok_greatest (T : Tx K mg c_Number a_DOUBLE) : DefOk P w K mg base CX0 5 "greatest" s_greatest [.ref a_DOUBLE] [("sign", .int (0))] ["shape", "sign"] (sp_greatest K c_Number) := by
  have G_Number___init__ := ok_Number___init__ (P := P) (w := w) (base := base) T
  have G_is_shape := ok_is_shape (P := P) (w := w) (base := base) T
  refine T.d_greatest.ok fun f fd F => FunD.ok0 F sc_greatest (fun vs H Q E h => ?_) (fun cdv A outer s H vs Q E hr h => ?_)
  · obtain ⟨t, sh, side, rfl, _⟩ := h
    rfl
  · obtain ⟨t, sh, side, rfl, ht, hok, s1, s2, q⟩ := h
    obtain ⟨p1, p2, l1, l2, h1, h2⟩ := id hok
    refine ⟨_, (pss_cons (ps_if (pt_not (pt_val (pe_kc G_is_shape (hr.mono (by decide)) (by rfl) b_is_shape1 pass0 (pa_cons (pv 0) pa_nil) pk_nil)))
      (pss_one ps_never)
      pss_nil)
      (pss_one (ps_ret (pe_mk G_Number___init__ (hr.mono (by decide)) (by rfl) T.g_Number b_Number1_sign_significand_exponent pass0 (pa_cons (pv 0) pa_nil) (pk_cons (pv 1) (pk_cons (pe_op op_sub (pe_op op_shlW pe_int (pe_ix ix_tup (pv 0) pe_int (fun _ _ => rfl))) pe_int) (pk_cons (pe_ix ix_tup (pv 0) pe_int (fun _ _ => rfl)) pk_nil))))))), ?_⟩
    walk_at "rd"
    refine ⟨t, sh, rfl, ht, ?_⟩
    rw [shapeOk_of hok]
    walk_at "rd"
    refine ixt_of ht (atI_nat (j := 0) rfl) ?_
    walk_at "rd"
    refine ⟨shl_small (by omega) (by omega) (small_nat (by decide)), ?_⟩
    refine ixt_of ht (atI_nat (j := 2) rfl) ?_
    intro a dx H1 na sm ea
    refine ⟨a, dx, t, greatN sh side, .int sh.hi, rfl, ea, same_tup sm ht, .inr ⟨_, rfl⟩, rfl, fin_great hok s1 s2, fun H2 k2 e2 => ?_⟩
    walk_at "rd"
    have sm2 : Same H H2 := fun b o e => by
      rw [k2 b (ne_of_none e na)]
      exact sm b o e
    exact q a H2 na sm2 ⟨dx, t, e2, same_tup sm2 ht⟩
theorem ok_infinite (T : Tx K mg c_Number a_DOUBLE) : DefOk P w K mg base CX0 5 "infinite" s_infinite [.ref a_DOUBLE] [("sign", .int (0))] ["shape", "sign"] (sp_infinite K c_Number) := by
  have G_Number___init__ := ok_Number___init__ (P := P) (w := w) (base := base) T
  refine T.d_infinite.ok fun f fd F => FunD.ok0 F sc_infinite (fun vs H Q E h => ?_) (fun cdv A outer s H vs Q E hr h => ?_)
  · obtain ⟨t, sh, side, rfl, _⟩ := h
    rfl
  · obtain ⟨t, sh, side, rfl, ht, hok, s1, s2, q⟩ := h
    refine ⟨_, (pss_cons (ps_set (i := 2) sc_infinite.nd rfl (.inl rfl) (pe_mk G_Number___init__ (hr.mono (by decide)) (by rfl) T.g_Number b_Number1_sign pass0 (pa_cons (pv 0) pa_nil) (pk_cons (pv 1) pk_nil)))
      (pss_cons (ps_fld (pv 2) pe_str rfl)
      (pss_one (ps_ret (pv 2))))), ?_⟩
    walk_at "rd"
    intro a dx H1 na sm ea
    refine ⟨a, dx, t, finN sh side 0 sh.lo, .non, rfl, ea, same_tup sm ht, .inl rfl, rfl, fin_zero hok s1 s2, fun H2 k2 e2 => ?_⟩
    walk_at "rd"
    have sm2 : Same H H2 := fun b o e => by
      rw [k2 b (ne_of_none e na)]
      exact sm b o e
    refine setq_of e2 T.cl_Number T.n_Number_state (by show 5 < 1000; decide) rfl fun H3 k3 e3 => ?_
    walk_at "rd"
    have sm3 : Same H H3 := fun b o e => by
      rw [k3 b (ne_of_none e na)]
      exact sm2 b o e
    refine q a H3 na sm3 ⟨dx, t, ?_, same_tup sm3 ht⟩
    rw [e3]
    rfl
theorem ok_overflown (T : Tx K mg c_Number a_DOUBLE) : DefOk P w K mg base CX0 6 "overflown" s_overflown [] [] ["shape", "way", "side"] (sp_overflown K c_Number) := by
  have G_greatest := ok_greatest (P := P) (w := w) (base := base) T
  have G_infinite := ok_infinite (P := P) (w := w) (base := base) T
  refine T.d_overflown.ok fun f fd F => FunD.ok0 F sc_overflown (fun vs H Q E h => ?_) (fun cdv A outer s H vs Q E hr h => ?_)
  · obtain ⟨t, sh, side, w, rfl, _⟩ := h
    rfl
  · obtain ⟨t, sh, side, w, rfl, ht, hok, s1, s2, q⟩ := h
    refine ⟨_, (pss_cons (ps_if (PW.pt (pw_or (pt_cmpR op_eq (pv 1) (pe_gc (by rfl) T.c_ZERO) (nomark _)) (pw_or (PW.pt (pw_and (pt_cmpR op_eq (pv 1) (pe_gc (by rfl) T.c_UP) (nomark _)) (pw_and1 (pt_cmpR op_eq (pv 2) pe_int (nomark _))))) (pw_or1 (PW.pt (pw_and (pt_cmpR op_eq (pv 1) (pe_gc (by rfl) T.c_DOWN) (nomark _)) (pw_and1 (pt_cmpR op_eq (pv 2) pe_int (nomark _)))))))))
      (pss_one (ps_ret (pe_kc G_greatest (hr.mono (by decide)) (by rfl) b_greatest1_sign pass0 (pa_cons (pv 0) pa_nil) (pk_cons (pv 2) pk_nil))))
      pss_nil)
      (pss_one (ps_ret (pe_kc G_infinite (hr.mono (by decide)) (by rfl) b_infinite1_sign pass0 (pa_cons (pv 0) pa_nil) (pk_cons (pv 2) pk_nil))))), ?_⟩
    have yes : (w = "zero" ∨ (w = "up" ∧ side = 1) ∨ (w = "down" ∧ side = 0)) → sp_greatest K c_Number [.ref t, .int side] H Q E0 := fun c =>
      ⟨t, sh, side, rfl, ht, hok, s1, s2, fun a H' na sm hx => q a H' na sm (by unfold overN; rw [if_pos c]; exact hx)⟩
    have no : ¬ (w = "zero" ∨ (w = "up" ∧ side = 1) ∨ (w = "down" ∧ side = 0)) → sp_infinite K c_Number [.ref t, .int side] H Q E0 := fun c =>
      ⟨t, sh, side, rfl, ht, hok, s1, s2, fun a H' na sm hx => q a H' na sm (by unfold overN; rw [if_neg c]; exact hx)⟩
    walk_at "rd"
    refine ite2 (fun c1 => yes (.inl c1)) (fun c1 => ?_)
    refine ite2 (fun c2 => ?_) (fun c2 => ?_)
    · refine ite2 (fun c3 => yes (.inr (.inl ⟨c2, c3⟩))) (fun c3 => ?_)
      refine ite2 (fun c4 => ?_) (fun c4 => ?_)
      · refine ite2 (fun c5 => yes (.inr (.inr ⟨c4, c5⟩))) (fun c5 => no ?_)
        rintro (z | ⟨_, z⟩ | ⟨_, z⟩)
        · exact c1 z
        · exact c3 z
        · exact c5 z
      · refine no ?_
        rintro (z | ⟨_, z⟩ | ⟨z, _⟩)
        · exact c1 z
        · exact c3 z
        · exact c4 z
    · refine ite2 (fun c4 => ?_) (fun c4 => ?_)
      · refine ite2 (fun c5 => yes (.inr (.inr ⟨c4, c5⟩))) (fun c5 => no ?_)
        rintro (z | ⟨z, _⟩ | ⟨_, z⟩)
        · exact c1 z
        · exact c2 z
        · exact c5 z
      · refine no ?_
        rintro (z | ⟨z, _⟩ | ⟨z, _⟩)
        · exact c1 z
        · exact c2 z
        · exact c4 z
theorem ok_rounded_so (T : Tx K mg c_Number a_DOUBLE) : DefOk P w K mg base CX0 7 "rounded_so" s_rounded_so [] [] ["numerator", "denominator", "shape", "way", "sign"] (sp_rounded_so K c_Number) := by
  have G_Number___init__ := ok_Number___init__ (P := P) (w := w) (base := base) T
  have G_halvings_in := ok_halvings_in (P := P) (w := w) (base := base) T
  have G_overflown := ok_overflown (P := P) (w := w) (base := base) T
  have G_whole_of := ok_whole_of (P := P) (w := w) (base := base) T
  refine T.d_rounded_so.ok fun f fd F => FunD.ok0 F sc_rounded_so (fun vs H Q E h => ?_) (fun cdv A outer s H vs Q E hr h => ?_)
  · obtain ⟨n, d, t, sh, w, sign, rfl, _⟩ := h
    rfl
  · obtain ⟨n, d, t, sh, w, sign, rfl, ht, hok, hd, bn, bd, g1, g2, q⟩ := h
    obtain ⟨p1, p2', l1, l2, h1, h2⟩ := id hok
    refine ⟨_, (pss_cons (ps_if (pt_cmpR op_eq (pv 0) pe_int (nomark _))
      (pss_one (ps_ret (pe_tupA (pa_cons (pe_mk G_Number___init__ (hr.mono (by decide)) (by rfl) T.g_Number b_Number1_sign pass0 (pa_cons (pv 2) pa_nil) (pk_cons (pv 4) pk_nil)) (pa_cons (pe_tupA pa_nil) pa_nil)))))
      pss_nil)
      (pss_cons (ps_asg (pv 2) (pg_tup (n := 3) rfl (pgs_cons (pg_name (i := 5) sc_rounded_so.nd rfl (.inl rfl)) (pgs_cons (pg_name (i := 6) sc_rounded_so.nd rfl (.inl rfl)) (pgs_cons (pg_name (i := 7) sc_rounded_so.nd rfl (.inl rfl)) pgs_nil)))))
      (pss_cons (ps_par (i := 8) (j := 9) rfl sc_rounded_so.nd rfl rfl (by decide) rfl rfl (pa_cons (pe_callTy call_int1 (by rfl) T.z_int (by decide +kernel) (pa_cons (pe_cmpR op_lt (pv 0) pe_int (nomark _)) pa_nil)) (pa_cons (pe_callB call_abs (by rfl) T.z_abs (by decide +kernel) (pa_cons (pv 0) pa_nil)) pa_nil)) (by rfl))
      (pss_cons (ps_set (i := 10) sc_rounded_so.nd rfl (.inl rfl) (pe_kc G_halvings_in (hr.mono (by decide)) (by rfl) b_halvings_in2 pass0 (pa_cons (pv 9) (pa_cons (pv 1) pa_nil)) pk_nil))
      (pss_cons (ps_set (i := 11) sc_rounded_so.nd rfl (.inl rfl) (pe_callB (call_max2 rfl) (by rfl) T.z_max (by decide +kernel) (pa_cons (pv 6) (pa_cons (pe_op op_add (pe_op op_sub (pv 10) (pv 5)) pe_int) pa_nil))))
      (pss_cons (ps_asg (pe_ifExp (pt_cmpR op_ge (pv 11) pe_int (nomark _)) (pe_tupA (pa_cons (pv 9) (pa_cons (pe_op op_shlW (pv 1) (pv 11)) pa_nil))) (pe_tupA (pa_cons (pe_op op_shlW (pv 9) (pe_un un_neg (pv 11))) (pa_cons (pv 1) pa_nil)))) (pg_tup (n := 2) rfl (pgs_cons (pg_name (i := 12) sc_rounded_so.nd rfl (.inl rfl)) (pgs_cons (pg_name (i := 13) sc_rounded_so.nd rfl (.inl rfl)) pgs_nil))))
      (pss_cons (ps_set (i := 14) sc_rounded_so.nd rfl (.inl rfl) (pe_callB call_abs (by rfl) T.z_abs (by decide +kernel) (pa_cons (pe_kc G_whole_of (hr.mono (by decide)) (by rfl) b_whole_of3 pass0 (pa_cons (pe_ifExp (pt_cmpR op_eq (pv 8) pe_int (nomark _)) (pe_un un_neg (pv 12)) (pv 12)) (pa_cons (pv 13) (pa_cons (pv 3) pa_nil))) pk_nil) pa_nil)))
      (pss_cons (ps_set (i := 15) sc_rounded_so.nd rfl (.inl rfl) (pe_ifExp (pt_cmpR op_ne (pe_op op_mulC (pv 14) (pv 13)) (pv 12) (nomark _)) (pe_tupA (pa_cons pe_str pa_nil)) (pe_tupA pa_nil)))
      (pss_cons (ps_if (pt_cmpR op_eq (pv 14) (pe_op op_shlW pe_int (pv 5)) (nomark _))
      (pss_one (ps_par (i := 14) (j := 11) rfl sc_rounded_so.nd rfl rfl (by decide) rfl rfl (pa_cons (pe_op op_fdivC (pv 14) pe_int) (pa_cons (pe_op op_add (pv 11) pe_int) pa_nil)) (by rfl)))
      pss_nil)
      (pss_cons (ps_if (pt_cmpR op_gt (pv 11) (pv 7) (nomark _))
      (pss_one (ps_ret (pe_tupA (pa_cons (pe_kc G_overflown (hr.mono (by decide)) (by rfl) b_overflown3 pass0 (pa_cons (pv 2) (pa_cons (pv 3) (pa_cons (pv 8) pa_nil))) pk_nil) (pa_cons (pe_tupA (pa_cons pe_str (pa_cons pe_str pa_nil))) pa_nil)))))
      pss_nil)
      (pss_cons (ps_if (PW.pt (pw_and (pt_cmpR (op_neD hr.units) (pv 15) (pe_tupA pa_nil) (nomark _)) (pw_and1 (pt_cmpR op_lt (pv 10) (pe_op op_add (pe_op op_sub (pv 5) pe_int) (pv 6)) (nomark _)))))
      (pss_one (ps_set (i := 15) sc_rounded_so.nd rfl (.inl rfl) (pe_tupA (pa_cons pe_str (pa_cons pe_str pa_nil)))))
      pss_nil)
      (pss_one (ps_ret (pe_tupA (pa_cons (pe_mk G_Number___init__ (hr.mono (by decide)) (by rfl) T.g_Number b_Number1_sign_significand_exponent pass0 (pa_cons (pv 2) pa_nil) (pk_cons (pv 8) (pk_cons (pv 14) (pk_cons (pv 11) pk_nil)))) (pa_cons (pv 15) pa_nil)))))))))))))))), ?_⟩
    refine seq_gen fun R k => ?_
    walk_at "rd"
    refine ite2 (fun h0 => ?_) (fun h0 => k _ _ ?_)
    · intro a dx H1 na sm ea
      refine ⟨a, dx, t, finN sh sign 0 sh.lo, .non, rfl, ea, same_tup sm ht, .inl rfl, rfl, fin_zero hok g1 g2, fun H2 k2 e2 => ?_⟩
      have sm2 : Same H H2 := fun b o e => by
        rw [k2 b (ne_of_none e na)]
        exact sm b o e
      walk_at "rd"
      refine ⟨by decide, fun fa H3 nf s3 ef => ⟨by decide, fun p H4 np s4 ep => ?_⟩⟩
      have s34 := s3.trans s4
      exact q H4 p a fa (finN sh sign 0 sh.lo) [] (sm2.trans s34) (Same.free (sm2.trans s3) np) ep (IsNum.same ⟨dx, t, e2, same_tup sm2 ht⟩ s34) (s4 _ _ ef) (.inl ⟨h0, rfl, rfl⟩)
    clear k
    refine seq_gen fun R k => ?_
    walk_at "rd"
    refine ⟨_, ht, rfl, ?_⟩
    unfold Sh.vs
    walk_at "rd"
    refine k _ _ ?_
    clear k
    refine seq_gen fun R k => ?_
    walk_at "rd"
    change R [some (.int n), some (.int d), some (.ref t), some (.str w), some (.int sign), some (.int sh.p), some (.int sh.lo), some (.int sh.hi), some (.int (sideOf n)), some (.int (absI n)), none, none, none, none, none, none] H
    refine k _ _ ?_
    clear k
    refine seq_gen fun R k => ?_
    walk_at "rd"
    refine ⟨absI n, d, rfl, absI_pos h0, hd, by rw [absI_nat]; exact bn, bd, fun o ho o1 o2 => ?_⟩
    walk_at "rd"
    refine k _ _ ?_
    clear k
    refine seq_gen fun R k => ?_
    walk_at "rd"
    change R [some (.int n), some (.int d), some (.ref t), some (.str w), some (.int sign), some (.int sh.p), some (.int sh.lo), some (.int sh.hi), some (.int (sideOf n)), some (.int (absI n)), some (.int o), some (.int (rsE sh o)), none, none, none, none] H
    refine k _ _ ?_
    clear k
    have E1 : -1100 ≤ rsE sh o := by
      unfold rsE
      split <;> omega
    have E2 : rsE sh o ≤ 100002 := by
      unfold rsE
      split <;> omega
    have bs : (absI n).natAbs < 2 ^ 100000 := by
      rw [absI_nat]
      exact bn
    refine seq_gen fun R k => ?_
    suffices m : ∀ H1, Same H H1 → R [some (.int n), some (.int d), some (.ref t), some (.str w), some (.int sign), some (.int sh.p), some (.int sh.lo), some (.int sh.hi), some (.int (sideOf n)), some (.int (absI n)), some (.int o), some (.int (rsE sh o)), some (.int (rsOver (absI n) (rsE sh o))), some (.int (rsUnder d (rsE sh o))), none, none] H1 by
      walk_at "rd"
      refine ite2 (fun z => ?_) (fun z => ?_)
      · refine ⟨shl_big z (by omega) bd, by decide, fun p H1 np s1 ep => ⟨_, SqT.of ep, rfl, _, _, rfl, _, _, rfl, rfl, ?_⟩⟩
        have e1 : rsOver (absI n) (rsE sh o) = absI n := by
          unfold rsOver
          rw [show (-(rsE sh o)).toNat = 0 by omega, Int.pow_zero, Int.mul_one]
        have mm := m H1 s1
        rw [e1] at mm
        exact mm
      · refine ⟨shl_big (by omega) (by omega) bs, by decide, fun p H1 np s1 ep => ⟨_, SqT.of ep, rfl, _, _, rfl, _, _, rfl, rfl, ?_⟩⟩
        have e1 : rsUnder d (rsE sh o) = d := by
          unfold rsUnder
          rw [show (rsE sh o).toNat = 0 by omega, Int.pow_zero, Int.mul_one]
        have mm := m H1 s1
        rw [e1] at mm
        exact mm
    intro H1 s1
    refine k _ _ ?_
    clear k
    obtain ⟨r1, r2, r3, r4, r5⟩ := rs_b (w := w) h0 hd hok ho
    have hu : 0 < rsUnder d (rsE sh o) := Int.mul_pos hd (p2 _)
    have hv : 0 < rsOver (absI n) (rsE sh o) := Int.mul_pos (absI_pos h0) (p2 _)
    have hbm : Builtin.Int.intBits (rsOver (absI n) (rsE sh o)) ≤ Builtin.Int.intBits (rsUnder d (rsE sh o)) + 4000 :=
      Nat.le_trans (bits_mono (Int.le_of_lt hv) hu (rs_below ho hd (by omega))) (by omega)
    refine seq_gen fun R k => ?_
    suffices m : ∀ H2, Same H H2 → R [some (.int n), some (.int d), some (.ref t), some (.str w), some (.int sign), some (.int sh.p), some (.int sh.lo), some (.int sh.hi), some (.int (sideOf n)), some (.int (absI n)), some (.int o), some (.int (rsE sh o)), some (.int (rsOver (absI n) (rsE sh o))), some (.int (rsUnder d (rsE sh o))), some (.int (rsB n d (rsE sh o) w)), none] H2 by
      walk_at "rd"
      refine ite2 (fun z => ?_) (fun z => ?_)
      · refine ⟨_, _, _, rfl, ⟨hu, .inr (by rw [bits_neg]; exact hbm)⟩, fun H2 s2 => ⟨_, rfl, ?_⟩⟩
        have mm := m H2 (s1.trans s2)
        unfold rsB at mm
        rw [if_pos z] at mm
        exact mm
      · refine ⟨_, _, _, rfl, ⟨hu, .inr hbm⟩, fun H2 s2 => ⟨_, rfl, ?_⟩⟩
        have mm := m H2 (s1.trans s2)
        unfold rsB at mm
        rw [if_neg z] at mm
        exact mm
    clear s1
    intro H2 s2
    refine k _ _ ?_
    clear k
    have b65 : (rsB n d (rsE sh o) w).natAbs < 2 ^ 65 := by
      have z1 : (2 : Int) ^ sh.p.toNat ≤ 2 ^ 64 := p2_mono (by omega)
      have z2 : (2 : Int) ^ 64 < ((2 ^ 65 : Nat) : Int) := by decide
      omega
    have bu : (rsUnder d (rsE sh o)).natAbs < 2 ^ (100000 + (rsE sh o).toNat) := nat_shl bd
    have sz : 65 + (100000 + (rsE sh o).toNat) ≤ 134217728 := by omega
    refine seq_gen fun R k => ?_
    suffices m : ∀ p H3, Same H H3 → H p = none → H3 p = some (.tup (((if ¬ rsB n d (rsE sh o) w * rsUnder d (rsE sh o) = rsOver (absI n) (rsE sh o) then ["inexact"] else []) : List Str).map V.str)) → R [some (.int n), some (.int d), some (.ref t), some (.str w), some (.int sign), some (.int sh.p), some (.int sh.lo), some (.int sh.hi), some (.int (sideOf n)), some (.int (absI n)), some (.int o), some (.int (rsE sh o)), some (.int (rsOver (absI n) (rsE sh o))), some (.int (rsUnder d (rsE sh o))), some (.int (rsB n d (rsE sh o) w)), some (.ref p)] H3 by
      walk_at "rd"
      refine ⟨.inr (mulx_ok b65 bu sz), ite2 (fun z => ?_) (fun z => ?_)⟩
      · refine ⟨by decide, fun p H3 np s3 ep => m p H3 (s2.trans s3) (Same.free s2 np) ?_⟩
        rw [if_pos z]
        exact ep
      · refine ⟨by decide, fun p H3 np s3 ep => m p H3 (s2.trans s3) (Same.free s2 np) ?_⟩
        rw [if_neg z]
        exact ep
    clear s2
    intro fp H3 s3 nfp efp
    refine k _ _ ?_
    clear k
    refine seq_gen fun R k => ?_
    suffices m : ∀ b E', ((rsB n d (rsE sh o) w = 2 ^ sh.p.toNat ∧ b = rsB n d (rsE sh o) w / 2 ∧ E' = rsE sh o + 1) ∨ (¬ rsB n d (rsE sh o) w = 2 ^ sh.p.toNat ∧ b = rsB n d (rsE sh o) w ∧ E' = rsE sh o)) → R [some (.int n), some (.int d), some (.ref t), some (.str w), some (.int sign), some (.int sh.p), some (.int sh.lo), some (.int sh.hi), some (.int (sideOf n)), some (.int (absI n)), some (.int o), some (.int (E')), some (.int (rsOver (absI n) (rsE sh o))), some (.int (rsUnder d (rsE sh o))), some (.int b), some (.ref fp)] H3 by
      walk_at "rd"
      refine ⟨shl_big (by omega) (by omega) (small_nat (by decide)), ite2 (fun z => ?_) (fun z => ?_)⟩
      · refine ⟨⟨by decide, .inl (by decide)⟩, m _ _ (.inl ⟨z, rfl, rfl⟩)⟩
      · exact m _ _ (.inr ⟨z, rfl, rfl⟩)
    intro b E' hb
    refine k _ _ ?_
    clear k
    have hpp : (2 : Int) ^ sh.p.toNat = 2 * 2 ^ (sh.p - 1).toNat := by
      rw [show sh.p.toNat = (sh.p - 1).toNat + 1 by omega, p2_add, Int.mul_comm]
      rfl
    have hp1 := p2 (sh.p - 1).toNat
    have hbF : E' ≤ sh.hi → (finN sh (sideOf n) b E').Fin := fun hE => by
      refine ⟨hok, side0 n, side1 n, ?_, ?_, ?_, hE, ?_, rfl⟩
      · show 0 ≤ b
        omega
      · show b < 2 ^ sh.p.toNat
        omega
      · show sh.lo ≤ E'
        omega
      · show sh.lo < E' → 2 ^ (sh.p - 1).toNat ≤ b
        intro z
        rcases hb with hb | hb
        · omega
        · rw [hb.2.1]
          exact r3 (by omega)
    have hfun : rsFun n d sh w o = rsFin n sh w o (¬ rsB n d (rsE sh o) w * rsUnder d (rsE sh o) = rsOver (absI n) (rsE sh o)) b E' := by
      unfold rsFun
      rcases hb with ⟨z, rfl, rfl⟩ | ⟨z, rfl, rfl⟩
      · rw [if_pos z]
      · rw [if_neg z]
    refine seq_gen fun R k => ?_
    walk_at "rd"
    refine ite2 (fun hE => ?_) (fun hE => k _ _ ?_)
    · refine ⟨t, sh, sideOf n, w, rfl, same_tup s3 ht, hok, side0 n, side1 n, fun a H4 na s4 hx => ⟨by decide, fun fa H5 nf s5 ef => ⟨by decide, fun p H6 np s6 ep => ?_⟩⟩⟩
      have s36 := s3.trans (s4.trans s5)
      refine q H6 p a fa (overN sh w (sideOf n)) ["inexact", "overflow"] (s36.trans s6) (Same.free s36 np) ep (hx.same (s5.trans s6)) (s6 _ _ ef) (.inr ⟨h0, o, ho, ?_⟩)
      rw [hfun]
      unfold rsFin
      rw [if_pos hE]
    clear k
    refine seq_gen fun R k => ?_
    suffices m : ∀ p H4, Same H H4 → H p = none → H4 p = some (.tup (((if ¬ rsB n d (rsE sh o) w * rsUnder d (rsE sh o) = rsOver (absI n) (rsE sh o) then (if o < sh.p - 1 + sh.lo then ["inexact", "underflow"] else ["inexact"]) else []) : List Str).map V.str)) → R [some (.int n), some (.int d), some (.ref t), some (.str w), some (.int sign), some (.int sh.p), some (.int sh.lo), some (.int sh.hi), some (.int (sideOf n)), some (.int (absI n)), some (.int o), some (.int (E')), some (.int (rsOver (absI n) (rsE sh o))), some (.int (rsUnder d (rsE sh o))), some (.int b), some (.ref p)] H4 by
      walk_at "rd"
      refine ⟨by decide, fun p H4 np s4 ep => ?_⟩
      by_cases z : ¬ rsB n d (rsE sh o) w * rsUnder d (rsE sh o) = rsOver (absI n) (rsE sh o)
      · rw [if_pos z] at efp m
        refine rNeD_tup (SqT.of (s4 _ _ efp)) (SqT.of ep) (by decide +kernel) rfl ⟨_, rfl, ?_⟩
        rw [if_pos (by decide +kernel)]
        refine ite2 (fun y => ?_) (fun y => ?_)
        · rw [if_pos y] at m
          exact ⟨by decide, fun p5 H5 n5 s5 e5 => m p5 H5 (s3.trans (s4.trans s5)) (Same.free (s3.trans s4) n5) e5⟩
        · rw [if_neg y] at m
          exact m fp H4 (s3.trans s4) nfp (s4 _ _ efp)
      · rw [if_neg z] at efp m
        refine rNeD_tup (SqT.of (s4 _ _ efp)) (SqT.of ep) rfl rfl ⟨_, rfl, ?_⟩
        rw [if_neg (by decide +kernel)]
        exact m fp H4 (s3.trans s4) nfp (s4 _ _ efp)
    clear s3 efp nfp
    intro fp H4 s4 nfp efp
    refine k _ _ ?_
    clear k
    walk_at "rd"
    intro a dx H5 na s5 ea
    refine ⟨a, dx, t, finN sh (sideOf n) b E', .int E', rfl, ea, same_tup (s4.trans s5) ht, .inr ⟨_, rfl⟩, rfl, hbF (by omega), fun H6 k6 e6 => ⟨rfl, by decide, fun p H7 np s7 ep => ?_⟩⟩
    have s46 : Same H4 H6 := fun x o e => by
      rw [k6 x (ne_of_none e na)]
      exact s5 x o e
    refine q H7 p a fp _ _ (s4.trans (s46.trans s7)) (Same.free (s4.trans s46) np) ep (IsNum.same ⟨dx, t, e6, same_tup (s4.trans s46) ht⟩ s7) (s7 _ _ (s46 _ _ efp)) (.inr ⟨h0, o, ho, ?_⟩)
    rw [hfun]
    unfold rsFin
    rw [if_neg hE]
theorem ok_rounded (T : Tx K mg c_Number a_DOUBLE) : DefOk P w K mg base CX0 8 "rounded" s_rounded [.int (1)] [("shape", .ref a_DOUBLE), ("way", .str "nearest"), ("sign", .int (0))] ["numerator", "denominator", "shape", "way", "sign"] (sp_rounded K c_Number) := by
  have G_is_shape := ok_is_shape (P := P) (w := w) (base := base) T
  have G_is_way := ok_is_way (P := P) (w := w) (base := base) T
  have G_is_whole := ok_is_whole (P := P) (w := w) (base := base) T
  have G_need_fraction := ok_need_fraction (P := P) (w := w) (base := base) T
  have G_rounded_so := ok_rounded_so (P := P) (w := w) (base := base) T
  refine T.d_rounded.ok fun f fd F => FunD.ok0 F sc_rounded (fun vs H Q E h => ?_) (fun cdv A outer s H vs Q E hr h => ?_)
  · obtain ⟨n, d, t, sh, w, sign, rfl, _⟩ := h
    rfl
  · obtain ⟨n, d, t, sh, w, sign, rfl, ht, hok, h1, h2, h3, h4, hw, g1, g2, q⟩ := h
    refine ⟨_, (pss_cons (ps_expr (pe_kc G_need_fraction (hr.mono (by decide)) (by rfl) b_need_fraction2 pass0 (pa_cons (pv 0) (pa_cons (pv 1) pa_nil)) pk_nil))
      (pss_cons (ps_if (pt_not (pt_val (pe_kc G_is_shape (hr.mono (by decide)) (by rfl) b_is_shape1 pass0 (pa_cons (pv 2) pa_nil) pk_nil)))
      (pss_one ps_never)
      pss_nil)
      (pss_cons (ps_if (pt_not (pt_val (pe_kc G_is_way (hr.mono (by decide)) (by rfl) b_is_way1 pass0 (pa_cons (pv 3) pa_nil) pk_nil)))
      (pss_one ps_never)
      pss_nil)
      (pss_cons (ps_if (pt_not (pt_val (pe_kc G_is_whole (hr.mono (by decide)) (by rfl) b_is_whole3 pass0 (pa_cons (pv 4) (pa_cons pe_int (pa_cons pe_int pa_nil))) pk_nil)))
      (pss_one ps_never)
      pss_nil)
      (pss_one (ps_ret (pe_kc G_rounded_so (hr.mono (by decide)) (by rfl) b_rounded_so5 pass0 (pa_cons (pv 0) (pa_cons (pv 1) (pa_cons (pv 2) (pa_cons (pv 3) (pa_cons (pv 4) pa_nil))))) pk_nil))))))), ?_⟩
    walk_at "rd"
    refine ⟨n, d, rfl, h1, h2, h3, h4, t, sh, rfl, ht, ?_⟩
    rw [shapeOk_of hok]
    walk_at "rd"
    refine ⟨.str w, rfl, .inl ⟨w, rfl⟩, fun H1 s1 => ?_⟩
    rw [hw]
    walk_at "rd"
    refine ⟨.int sign, _, _, rfl, trivial, ?_⟩
    rw [wholeIn_yes g1 g2]
    walk_at "rd"
    exact ⟨n, d, t, sh, w, sign, rfl, same_tup s1 ht, hok, by omega, size_big (Int.le_of_lt h1) (Int.le_of_lt h2), size_big (by omega) h4, g1, g2,
      fun H' p a fa x fl s2 np ep hx ef hi => q H' p a fa x fl (s1.trans s2) (Same.free s1 np) ep hx ef hi⟩
theorem ok_Number_kind (T : Tx K mg c_Number a_DOUBLE) : MethOk P w K mg base CX0 1 c_Number "kind" "Number.kind" s_Number_kind [] [] ["self"] (sp_Number_kind K c_Number) := by
  refine T.d_Number_kind.ok fun f fd F => FunD.ok0 F sc_Number_kind (fun vs H Q E h => ?_) (fun cdv A outer s H vs Q E hr h => ?_)
  · obtain ⟨a, x, rfl, _⟩ := h
    rfl
  · obtain ⟨a, x, rfl, hx, hok, q⟩ := h
    obtain ⟨p1, p2, l1, l2, h1, h2⟩ := hok
    have NC : NumCls K c_Number := ⟨T.cl_Number, T.n_Number_form, T.n_Number_side, T.n_Number_bits, T.n_Number_scale, T.n_Number_state⟩
    refine ⟨_, (pss_cons (ps_if (pt_cmpR op_ne (pe_fld (pv 0) rfl) pe_str (nomark _))
      (pss_one (ps_ret (pe_fld (pv 0) rfl)))
      pss_nil)
      (pss_cons (ps_if (pt_cmpR op_ge (pe_fld (pv 0) rfl) (pe_op op_shlW pe_int (pe_op op_sub (pe_ix ix_tup (pe_fld (pv 0) rfl) pe_int (fun _ _ => rfl)) pe_int)) (nomark _))
      (pss_one (ps_ret pe_str))
      pss_nil)
      (pss_one (ps_ret (pe_ifExp (pt_cmpR op_eq (pe_fld (pv 0) rfl) pe_int (nomark _)) pe_str pe_str))))), ?_⟩
    walk_at "rd"
    refine hx.state NC ?_
    unfold kindOf at q
    walk_at "rd"
    refine ite2 (fun h1 => ?_) (fun h1 => ?_)
    · rw [if_pos h1] at q
      exact hx.state NC q
    rw [if_neg h1] at q
    refine hx.bits NC (hx.form NC fun t ht => ?_)
    refine ixt_of ht (atI_nat (j := 0) rfl) ?_
    walk_at "rd"
    refine ⟨shl_small (by omega) (by omega) (small_nat (by decide)), ite2 (fun h2 => ?_) (fun h2 => ?_)⟩
    · rw [if_pos h2] at q
      exact q
    rw [if_neg h2] at q
    refine hx.bits NC ?_
    walk_at "rd"
    refine ite2 (fun h3 => ?_) (fun h3 => ?_)
    · rw [if_pos h3] at q
      exact q
    · rw [if_neg h3] at q
      exact q
theorem ok_Number_sign (T : Tx K mg c_Number a_DOUBLE) : MethOk P w K mg base CX0 1 c_Number "sign" "Number.sign" s_Number_sign [] [] ["self"] (sp_Number_sign K c_Number) := by
  refine T.d_Number_sign.ok fun f fd F => FunD.ok0 F sc_Number_sign (fun vs H Q E h => ?_) (fun cdv A outer s H vs Q E hr h => ?_)
  · obtain ⟨a, x, rfl, _⟩ := h
    rfl
  · obtain ⟨a, x, rfl, hx, q⟩ := h
    have NC : NumCls K c_Number := ⟨T.cl_Number, T.n_Number_form, T.n_Number_side, T.n_Number_bits, T.n_Number_scale, T.n_Number_state⟩
    refine ⟨_, (pss_one (ps_ret (pe_fld (pv 0) rfl))), ?_⟩
    walk_at "rd"
    exact hx.side NC q
theorem ok_Number_need_finite (T : Tx K mg c_Number a_DOUBLE) : MethOk P w K mg base CX0 1 c_Number "need_finite" "Number.need_finite" s_Number_need_finite [] [] ["self"] (sp_Number_need_finite K c_Number) := by
  refine T.d_Number_need_finite.ok fun f fd F => FunD.ok0 F sc_Number_need_finite (fun vs H Q E h => ?_) (fun cdv A outer s H vs Q E hr h => ?_)
  · obtain ⟨a, x, rfl, _⟩ := h
    rfl
  · obtain ⟨a, x, rfl, hx, hst, q⟩ := h
    have NC : NumCls K c_Number := ⟨T.cl_Number, T.n_Number_form, T.n_Number_side, T.n_Number_bits, T.n_Number_scale, T.n_Number_state⟩
    refine ⟨_, (pss_one (ps_if (pt_cmpR op_ne (pe_fld (pv 0) rfl) pe_str (nomark _))
      (pss_one ps_never)
      pss_nil)), ?_⟩
    walk_at "rd"
    refine hx.state NC ?_
    rw [hst]
    walk_at "rd"
    exact q
theorem ok_Number_parts (T : Tx K mg c_Number a_DOUBLE) : MethOk P w K mg base CX0 2 c_Number "parts" "Number.parts" s_Number_parts [] [] ["self"] (sp_Number_parts K c_Number) := by
  have G_Number_need_finite := ok_Number_need_finite (P := P) (w := w) (base := base) T
  refine T.d_Number_parts.ok fun f fd F => FunD.ok0 F sc_Number_parts (fun vs H Q E h => ?_) (fun cdv A outer s H vs Q E hr h => ?_)
  · obtain ⟨a, x, rfl, _⟩ := h
    rfl
  · obtain ⟨a, x, rfl, hx, hst, q⟩ := h
    have NC : NumCls K c_Number := ⟨T.cl_Number, T.n_Number_form, T.n_Number_side, T.n_Number_bits, T.n_Number_scale, T.n_Number_state⟩
    refine ⟨_, (pss_cons (ps_expr (pe_me0 (pv 0) T.cl_Number G_Number_need_finite (hr.mono (by decide)) b_Number_need_finite0 pass0))
      (pss_one (ps_ret (pe_tupA (pa_cons (pe_fld (pv 0) rfl) (pa_cons (pe_fld (pv 0) rfl) pa_nil)))))), ?_⟩
    walk_at "rd"
    refine hx.meq (fun _ => rfl) ?_
    walk_at "rd"
    refine ⟨a, x, rfl, hx, hst, ?_⟩
    walk_at "rd"
    refine hx.bits NC (hx.scale NC ?_)
    exact ⟨by decide, q⟩
theorem ok__law_roads (T : Tx K mg c_Number a_DOUBLE) : DefOk P w K mg base CX0 1 "_law_roads" s__law_roads [] [] [] (sp__law_roads) := by
  refine T.d__law_roads.ok fun f fd F => FunD.ok0 F sc__law_roads (fun vs H Q E h => ?_) (fun cdv A outer s H vs Q E hr h => ?_)
  · obtain ⟨rfl, _⟩ := h
    rfl
  · obtain ⟨rfl, q⟩ := h
    refine ⟨_, (pss_one (ps_ret (pe_lstA (pa_cons pe_str (pa_cons pe_str (pa_cons pe_str (pa_cons pe_str (pa_cons pe_str pa_nil)))))))), ?_⟩
    walk_at "rd"
    exact ⟨by decide, fun p H' hp s e => q H' p s hp e⟩
theorem ok__law_left_right (T : Tx K mg c_Number a_DOUBLE) : DefOk P w K mg base CX0 9 "_law_left_right" s__law_left_right [] [] ["_law_m", "_law_form_here", "_law_size", "_law_least", "_law_road"] (sp__law_left_right K c_Number) := by
  have G_Number_kind := ok_Number_kind (P := P) (w := w) (base := base) T
  have G_Number_parts := ok_Number_parts (P := P) (w := w) (base := base) T
  have G_Number_sign := ok_Number_sign (P := P) (w := w) (base := base) T
  have G__law_draw := ok__law_draw (P := P) (w := w) (base := base) T
  have G__law_fraction := ok__law_fraction (P := P) (w := w) (base := base) T
  have G__law_roads := ok__law_roads (P := P) (w := w) (base := base) T
  have G__law_sum := ok__law_sum (P := P) (w := w) (base := base) T
  have G_rounded := ok_rounded (P := P) (w := w) (base := base) T
  refine T.d__law_left_right.ok fun f fd F => FunD.ok0 F sc__law_left_right (fun vs H Q E h => ?_) (fun cdv A outer s H vs Q E hr h => ?_)
  · obtain ⟨m, l, b, t, sh, z, lst, w, rfl, _⟩ := h
    rfl
  · obtain ⟨m, l, b, t, sh, z, lst, w, rfl, hD, hb, ht, hok, a1, a2, bz, hw, hL, q⟩ := h
    obtain ⟨p1, p2', l1, l2, h1, h2⟩ := id hok
    refine ⟨_, (pss_cons (ps_asg (pe_kc G__law_fraction (hr.mono (by decide)) (by rfl) b__law_fraction2 pass0 (pa_cons (pv 2) (pa_cons (pv 3) pa_nil)) pk_nil) (pg_tup (n := 2) rfl (pgs_cons (pg_name (i := 5) sc__law_left_right.nd rfl (.inl rfl)) (pgs_cons (pg_name (i := 6) sc__law_left_right.nd rfl (.inl rfl)) pgs_nil))))
      (pss_cons (ps_asg (pe_kc G_rounded (hr.mono (by decide)) (by rfl) b_rounded2_shape_way pass0 (pa_cons (pv 5) (pa_cons (pv 6) pa_nil)) (pk_cons (pv 1) (pk_cons (pv 4) pk_nil))) (pg_tup (n := 2) rfl (pgs_cons (pg_name (i := 7) sc__law_left_right.nd rfl (.inl rfl)) (pgs_cons (pg_name (i := 8) sc__law_left_right.nd rfl (.inl rfl)) pgs_nil))))
      (pss_cons (ps_if (pt_cmpR op_eq (pe_me0 (pv 7) T.cl_Number G_Number_kind (hr.mono (by decide)) b_Number_kind0 pass0) pe_str (nomark _))
      (pss_one (ps_ret (pe_cmpR op_in_seq pe_str (pv 8) (by rfl))))
      pss_nil)
      (pss_cons (ps_set (i := 9) sc__law_left_right.nd rfl (.inl rfl) (pe_op op_catT (pe_tupA (pa_cons (pe_me0 (pv 7) T.cl_Number G_Number_sign (hr.mono (by decide)) b_Number_sign0 pass0) pa_nil)) (pe_me0 (pv 7) T.cl_Number G_Number_parts (hr.mono (by decide)) b_Number_parts0 pass0)))
      (pss_cons (ps_asg (pe_kc G__law_sum (hr.mono (by decide)) (by rfl) b__law_sum2 pass0 (pa_cons (pe_tupA (pa_cons (pe_callTy call_int1 (by rfl) T.z_int (by decide +kernel) (pa_cons (pe_cmpR op_lt (pv 2) pe_int (nomark _)) pa_nil)) (pa_cons (pe_callB call_abs (by rfl) T.z_abs (by decide +kernel) (pa_cons (pv 2) pa_nil)) (pa_cons (pv 3) pa_nil)))) (pa_cons (pe_op op_catT (pe_tupA (pa_cons (pe_op op_sub pe_int (pe_ix ix_tup (pv 9) pe_int (fun _ _ => rfl))) pa_nil)) (pe_slice sl_tup (pv 9) (po_some pe_int) po_none)) pa_nil)) pk_nil) (pg_tup (n := 2) rfl (pgs_cons (pg_name (i := 10) sc__law_left_right.nd rfl (.inl rfl)) (pgs_cons (pg_name (i := 3) sc__law_left_right.nd rfl (.inl rfl)) pgs_nil))))
      (pss_cons (ps_if (pt_cmpR op_ne (pe_cmpR op_eq (pv 10) pe_int (nomark _)) (pe_cmpR (op_eqD hr.units) (pv 8) (pe_tupA pa_nil) (nomark _)) (nomark _))
      (pss_one (ps_ret pe_bl))
      pss_nil)
      (pss_cons (ps_asg (pe_kc G__law_fraction (hr.mono (by decide)) (by rfl) b__law_fraction2 pass0 (pa_cons (pv 10) (pa_cons (pv 3) pa_nil)) pk_nil) (pg_tup (n := 2) rfl (pgs_cons (pg_name (i := 5) sc__law_left_right.nd rfl (.inl rfl)) (pgs_cons (pg_name (i := 6) sc__law_left_right.nd rfl (.inl rfl)) pgs_nil))))
      (pss_cons (ps_asg (pe_kc G_rounded (hr.mono (by decide)) (by rfl) b_rounded2_shape_way pass0 (pa_cons (pv 5) (pa_cons (pv 6) pa_nil)) (pk_cons (pv 1) (pk_cons (pe_ix ix_list (pe_kc0 G__law_roads (hr.mono (by decide)) (by rfl) b__law_roads0 pass0 pk_nil) (pe_kc G__law_draw (hr.mono (by decide)) (by rfl) b__law_draw2 pass0 (pa_cons (pv 0) (pa_cons pe_int pa_nil)) pk_nil) (fun _ _ => rfl)) pk_nil))) (pg_tup (n := 2) rfl (pgs_cons (pg_name (i := 11) sc__law_left_right.nd rfl (.inl rfl)) (pgs_cons (pg_name (i := 8) sc__law_left_right.nd rfl (.inl rfl)) pgs_nil))))
      (pss_cons (ps_if (PW.pt (pw_or (pt_cmpR (op_neD hr.units) (pv 8) (pe_tupA pa_nil) (nomark _)) (pw_or1 (pt_cmpR op_eq (pe_me0 (pv 11) T.cl_Number G_Number_kind (hr.mono (by decide)) b_Number_kind0 pass0) pe_str (nomark _)))))
      (pss_one (ps_ret pe_bl))
      pss_nil)
      (pss_one (ps_ret (pe_cmpR op_eq (pe_ix ix_tup (pe_kc G__law_sum (hr.mono (by decide)) (by rfl) b__law_sum2 pass0 (pa_cons (pe_op op_catT (pe_tupA (pa_cons (pe_me0 (pv 11) T.cl_Number G_Number_sign (hr.mono (by decide)) b_Number_sign0 pass0) pa_nil)) (pe_me0 (pv 11) T.cl_Number G_Number_parts (hr.mono (by decide)) b_Number_parts0 pass0)) (pa_cons (pe_tupA (pa_cons (pe_callTy call_int1 (by rfl) T.z_int (by decide +kernel) (pa_cons (pe_cmpR op_gt (pv 10) pe_int (nomark _)) pa_nil)) (pa_cons (pe_callB call_abs (by rfl) T.z_abs (by decide +kernel) (pa_cons (pv 10) pa_nil)) (pa_cons (pv 3) pa_nil)))) pa_nil)) pk_nil) pe_int (fun _ _ => rfl)) pe_int (nomark _))))))))))))), ?_⟩
    refine seq_gen fun R k => ?_
    walk_at "rd"
    refine ⟨z, lst, rfl, Nat.lt_of_lt_of_le bz (Nat.pow_le_pow_right (n := 2) (i := 2170) (j := 100000) (by decide) (by decide)), by omega, by omega, fun H1 p sm1 np ep => ⟨_, rfl, _, SqT.of ep, rfl, _, _, rfl, _, _, rfl, rfl, k _ _ ?_⟩⟩
    clear k
    obtain ⟨u1, u2, u3, u4⟩ := frac_ok (l := lst) (Nat.lt_of_lt_of_le bz (Nat.pow_le_pow_right (n := 2) (i := 2170) (j := 2200) (by decide) (by decide))) (by omega) (by omega)
    refine seq_gen fun R k => ?_
    walk_at "rd"
    refine ⟨_, _, t, sh, w, 0, rfl, SqT.of (sm1 _ _ ht), hok, u1, u2, u3, u4, hw, by decide, by decide, fun H2 p2 a fa x fl sm2 np2 ep2 hx ef hR => ⟨_, rfl, _, SqT.of ep2, rfl, _, _, rfl, _, _, rfl, rfl, k _ _ ?_⟩⟩
    clear k
    have hLx := hL x fl hR
    have sm12 := sm1.trans sm2
    refine seq_gen fun R k => ?_
    walk_at "rd"
    refine hx.meq (fun _ => rfl) ?_
    rcases hLx with ⟨sd, rfl, rfl⟩ | ⟨xf, xsh, xe, kk, y1, y2, y3⟩
    · walk_at "rd"
      refine ⟨a, _, rfl, hx, hok, ?_⟩
      rw [show kindOf (infN sh sd) = "infinite" from by unfold kindOf; rw [if_pos (by show ¬ ("infinite" : Str) = "finite"; decide)]; rfl]
      walk_at "rd"
      exact ⟨fa, _, rfl, .inr (SqT.of ef), rfl, rfl, q H2 ((hD.same sm12).mono (by omega)) (same_but sm12)⟩
    have xst : x.st = "finite" := xf.st
    walk_at "rd"
    refine ⟨a, x, rfl, hx, xf.ok, ?_⟩
    walk_at "rd"
    rw [if_neg (fin_kind xst)]
    refine k _ _ ?_
    clear k
    refine seq_gen fun R k => ?_
    walk_at "rd"
    refine hx.meq (fun _ => rfl) ⟨a, x, rfl, hx, by decide, fun p3 H3 n3 s3 e3 => ?_⟩
    refine (hx.same s3).meq (fun _ => rfl) ⟨a, x, rfl, hx.same s3, xst, fun p4 H4 n4 s4 e4 => ?_⟩
    refine catT_of (SqT.of (s4 _ _ e3)) (SqT.of e4) (by simp) (by simp) (by show 1 + 2 ≤ 100000; decide) fun p5 H5 n5 s5 e5 => k _ _ ?_
    clear k
    have sm5 := sm12.trans (s3.trans (s4.trans s5))
    refine seq_gen fun R k => ?_
    walk_at "rd"
    refine ⟨by decide, fun p6 H6 n6 s6 e6 => ixt_of (SqT.of (s6 _ _ e5)) (atI_nat (j := 0) rfl) ⟨_, rfl, by decide, fun p7 H7 n7 s7 e7 => ?_⟩⟩
    refine slT_of (ys := [.int x.bits, .int x.scale]) (SqT.of (s7 _ _ (s6 _ _ e5))) (by show ¬ (1 = 0 ∧ _); omega) (by rfl) fun p8 H8 n8 s8 e8 => ?_
    refine catT_of (SqT.of (s8 _ _ e7)) (SqT.of e8) (by simp) (by simp) (by show 1 + 2 ≤ 100000; decide) fun p9 H9 n9 s9 e9 => ?_
    have bx : x.bits.natAbs < 2 ^ 64 := by
      have z1 : (2 : Int) ^ x.sh.p.toNat ≤ 2 ^ 64 := p2_mono (by have := xf.ok.p2; omega)
      have z2 : (2 : Int) ^ 64 = ((2 ^ 64 : Nat) : Int) := by decide
      have z3 := xf.b1
      have z4 := xf.b2
      omega
    have ex1 : sh.lo ≤ x.scale := by
      have := xf.e1
      rw [xsh] at this
      exact this
    have ex2 : x.scale ≤ sh.hi := by
      have := xf.e2
      rw [xsh] at this
      exact this
    have sx1 := xf.s1
    have sx2 := xf.s2
    refine ⟨p6, p9, sideOf z, absI z, lst, 1 - x.side, x.bits, x.scale, rfl, SqT.of (s9 _ _ (s8 _ _ (s7 _ _ e6))), SqT.of e9, by rw [absI_nat]; exact Nat.lt_of_lt_of_le bz (Nat.pow_le_pow_right (n := 2) (i := 2170) (j := 10000) (by decide) (by decide)),
      Nat.lt_of_lt_of_le bx (Nat.pow_le_pow_right (n := 2) (i := 64) (j := 10000) (by decide) (by decide)), by omega, by omega, by omega, by omega, side0 z, side1 z, by omega, by omega, fun H10 p10 s10 n10 e10 => ?_⟩
    have hsum := sum_sc (s1 := sideOf z) (b1 := absI z) (s2 := 1 - x.side) (b2 := x.bits) (e1 := lst) (e2 := x.scale) (by omega) (by omega)
    have hneg : sgS (sideOf z) (absI z) lst + sgS (1 - x.side) x.bits x.scale = z * sc lst - valS x := by
      rw [signed z lst]
      show (1 - 2 * sideOf z) * (absI z * sc lst) + (1 - 2 * (1 - x.side)) * (x.bits * sc x.scale) = _ - (1 - 2 * x.side) * (x.bits * sc x.scale)
      rw [show (1 : Int) - 2 * (1 - x.side) = -(1 - 2 * x.side) by omega, Int.neg_mul]
      omega
    rw [hneg] at hsum
    have mn1 : sh.lo ≤ minI lst x.scale := by
      unfold minI
      split <;> omega
    have mn2 : minI lst x.scale ≤ sh.hi := by
      unfold minI
      split <;> omega
    refine ⟨_, rfl, _, SqT.of e10, rfl, _, _, rfl, _, _, rfl, rfl, k _ _ ?_⟩
    clear k
    have sm10 := sm5.trans (s6.trans (s7.trans (s8.trans (s9.trans s10))))
    have sf := s3.trans (s4.trans (s5.trans (s6.trans (s7.trans (s8.trans (s9.trans s10))))))
    replace ef := sf _ _ ef
    clear e10 e9 e8 e7 e6 e5 e4 e3
    generalize absI z * 2 ^ (lst - minI lst x.scale).toNat * (1 - 2 * sideOf z) + x.bits * 2 ^ (x.scale - minI lst x.scale).toNat * (1 - 2 * (1 - x.side)) = L at hsum ⊢
    generalize minI lst x.scale = l' at *
    rw [y1] at hsum
    have xe' : fl = [] ↔ L = 0 := by
      rw [xe, y1, ← hsum]
      have := sc_pos l'
      constructor
      · intro h
        rcases Int.mul_eq_zero.mp h with h | h <;> omega
      · intro h
        rw [h, Int.zero_mul]
    refine seq_gen fun R k => ?_
    walk_at "rd"
    refine ⟨by decide, fun p11 H11 n11 s11 e11 => rEqD_tup (SqT.of (s11 _ _ ef)) (SqT.of e11) (rnd_flags hR) rfl ⟨rfl, ?_⟩⟩
    rw [eqL_nil', if_neg (show ¬ ¬ V.bl (decide (L = 0)) = V.bl (decide (fl = [])) from fun y => y (by rw [decide_eq_decide.mpr xe'.symm]))]
    refine k _ _ ?_
    clear k
    have bL := lost_small hsum (show kk.natAbs < 2 ^ 64 by
      have z1 : (2 : Int) ^ sh.p.toNat ≤ 2 ^ 64 := p2_mono (by omega)
      have z2 : (2 : Int) ^ 64 = ((2 ^ 64 : Nat) : Int) := by decide
      omega) (by omega)
    obtain ⟨v1, v2, v3, v4⟩ := frac_ok (l := l') (Nat.lt_of_lt_of_le bL (Nat.pow_le_pow_right (n := 2) (i := 2164) (j := 2200) (by decide) (by decide))) (by omega) (by omega)
    have sm11 := sm10.trans s11
    refine seq_gen fun R k => ?_
    walk_at "rd"
    refine ⟨L, l', rfl, Nat.lt_of_lt_of_le bL (Nat.pow_le_pow_right (n := 2) (i := 2164) (j := 100000) (by decide) (by decide)), by omega, by omega, fun H12 p12 s12 n12 e12 => ⟨_, rfl, _, SqT.of e12, rfl, _, _, rfl, _, _, rfl, rfl, k _ _ ?_⟩⟩
    clear k
    have sm12' := sm11.trans s12
    refine seq_gen fun R k => ?_
    walk_at "rd"
    refine ⟨rfl, fun H13 p13 s13 n13 e13 => ⟨m, l, b, 5, rfl, hD.same (sm12'.trans s13), by omega, by decide, by decide, fun r H14 r0 r1 B14 D14 => ?_⟩⟩
    have D13 := hD.same (sm12'.trans s13)
    have B : But m l H H14 := (same_but (sm12'.trans s13)).trans B14
    refine ixl_any (SqL.of (B14.lst D13 e13 ((hD.same sm12').new n13))) r0 r1 fun v hv => ?_
    obtain ⟨w', hw', rfl⟩ := List.mem_map.mp hv
    have ht14 : H14 t = some (.tup sh.vs) := B.at hD ht (fun _ z => by cases z) (fun _ z => by cases z)
    refine ⟨_, _, t, sh, w', 0, rfl, SqT.of ht14, hok, v1, v2, v3, v4, ways_all hw', by decide, by decide, fun H15 p15 b2 fa2 x2 fl2 sm15 np15 ep15 hx2 ef2 hR2 => ⟨_, rfl, _, SqT.of ep15, rfl, _, _, rfl, _, _, rfl, rfl, k _ _ ?_⟩⟩
    clear k
    obtain ⟨rfl, xf2, xv2⟩ := rnd_exact hok (by omega) hsum y2 y3 a1 a2 (by decide) (by decide) hR2
    have D15 := D14.same sm15
    have B15 := B.trans (same_but sm15)
    have xst2 : x2.st = "finite" := xf2.st
    refine seq_gen fun R k => ?_
    walk_at "rd"
    refine ⟨by decide, fun p16 H16 n16 s16 e16 => rNeD_tup (SqT.of (s16 _ _ ef2)) (SqT.of e16) rfl rfl ?_⟩
    rw [show eqL (([] : List Str).map V.str) [] = true from rfl]
    walk_at "rd"
    refine (hx2.same s16).meq (fun _ => rfl) ⟨b2, x2, rfl, hx2.same s16, xf2.ok, ?_⟩
    walk_at "rd"
    rw [if_neg (fin_kind xst2)]
    refine k _ _ ?_
    clear k
    walk_at "rd"
    have hx16 := hx2.same s16
    obtain ⟨w1, w2, w3⟩ := fin_sizes xf2
    refine hx16.meq (fun _ => rfl) ⟨b2, x2, rfl, hx16, by decide, fun p17 H17 n17 s17 e17 => ?_⟩
    refine (hx16.same s17).meq (fun _ => rfl) ⟨b2, x2, rfl, hx16.same s17, xst2, fun p18 H18 n18 s18 e18 => ?_⟩
    refine catT_of (SqT.of (s18 _ _ e17)) (SqT.of e18) (by simp) (by simp) (by show 1 + 2 ≤ 100000; decide) fun p19 H19 n19 s19 e19 => ⟨by decide, fun p20 H20 n20 s20 e20 => ?_⟩
    refine ⟨p19, p20, _, _, _, _, _, _, rfl, SqT.of (s20 _ _ e19), SqT.of e20, Nat.lt_of_lt_of_le w1 (Nat.pow_le_pow_right (n := 2) (i := 64) (j := 10000) (by decide) (by decide)),
      by rw [show (if L < 0 then -L else L).natAbs = L.natAbs from absI_nat L]; exact Nat.lt_of_lt_of_le bL (Nat.pow_le_pow_right (n := 2) (i := 2164) (j := 10000) (by decide) (by decide)), by omega, by omega, by omega, by omega, xf2.s1, xf2.s2, by split <;> decide, by split <;> decide, fun H21 p21 s21 n21 e21 => ?_⟩
    have s15 := s16.trans (s17.trans (s18.trans (s19.trans (s20.trans s21))))
    refine ixt_of (SqT.of e21) (atI_nat (j := 0) rfl) ⟨rfl, ?_⟩
    rw [sum_none xf2 (by omega) xv2, decide_eq_true (show V.int 0 = V.int 0 from rfl)]
    exact q H21 (D15.same s15) (B15.trans (same_but s15))
theorem ok__law_near_right (T : Tx K mg c_Number a_DOUBLE) : DefOk P w K mg base CX0 9 "_law_near_right" s__law_near_right [] [] ["_law_form_here", "_law_one_parts", "_law_other_parts"] (sp__law_near_right K c_Number) := by
  have G_Number_parts := ok_Number_parts (P := P) (w := w) (base := base) T
  have G_Number_sign := ok_Number_sign (P := P) (w := w) (base := base) T
  have G__law_fraction := ok__law_fraction (P := P) (w := w) (base := base) T
  have G__law_roads := ok__law_roads (P := P) (w := w) (base := base) T
  have G__law_sum := ok__law_sum (P := P) (w := w) (base := base) T
  have G_rounded := ok_rounded (P := P) (w := w) (base := base) T
  refine T.d__law_near_right.ok fun f fd F => FunD.ok0 F sc__law_near_right (fun vs H Q E h => ?_) (fun cdv A outer s H vs Q E hr h => ?_)
  · obtain ⟨t, sh, t1, s1, b1, e1, t2, s2, b2, e2, rfl, _⟩ := h
    rfl
  · obtain ⟨t, sh, t1, s1, b1, e1, t2, s2, b2, e2, rfl, ht, ht1, ht2, f1, f2, q⟩ := h
    have hok : sh.Ok := f1.ok
    obtain ⟨p1, p2', l1, l2, h1, h2⟩ := id hok
    obtain ⟨z1, z2, z3⟩ := fin_sizes f1
    obtain ⟨y1, y2, y3⟩ := fin_sizes f2
    change b1.natAbs < 2 ^ 64 at z1
    change -1100 ≤ e1 at z2
    change e1 ≤ 1000 at z3
    change b2.natAbs < 2 ^ 64 at y1
    change -1100 ≤ e2 at y2
    change e2 ≤ 1000 at y3
    have big : ∀ {i : Int}, i.natAbs < 2 ^ 64 → i.natAbs < 2 ^ 10000 := fun h => Nat.lt_of_lt_of_le h (Nat.pow_le_pow_right (n := 2) (i := 64) (j := 10000) (by decide) (by decide))
    refine ⟨_, (pss_cons (ps_asg (pe_kc G__law_sum (hr.mono (by decide)) (by rfl) b__law_sum2 pass0 (pa_cons (pe_op op_catT (pe_tupA (pa_cons pe_int pa_nil)) (pe_slice sl_tup (pv 1) (po_some pe_int) po_none)) (pa_cons (pe_op op_catT (pe_tupA (pa_cons pe_int pa_nil)) (pe_slice sl_tup (pv 2) (po_some pe_int) po_none)) pa_nil)) pk_nil) (pg_tup (n := 2) rfl (pgs_cons (pg_name (i := 3) sc__law_near_right.nd rfl (.inl rfl)) (pgs_cons (pg_name (i := 4) sc__law_near_right.nd rfl (.inl rfl)) pgs_nil))))
      (pss_cons (ps_set (i := 5) sc__law_near_right.nd rfl (.inl rfl) (pe_ix ix_tup (pe_kc G__law_sum (hr.mono (by decide)) (by rfl) b__law_sum2 pass0 (pa_cons (pe_tupA (pa_cons pe_int (pa_cons (pe_ix ix_tup (pv 1) pe_int (fun _ _ => rfl)) (pa_cons (pe_op op_add (pe_ix ix_tup (pv 1) pe_int (fun _ _ => rfl)) pe_int) pa_nil)))) (pa_cons (pe_op op_catT (pe_tupA (pa_cons pe_int pa_nil)) (pe_slice sl_tup (pv 2) (po_some pe_int) po_none)) pa_nil)) pk_nil) pe_int (fun _ _ => rfl)))
      (pss_cons (ps_set (i := 6) sc__law_near_right.nd rfl (.inl rfl) (pe_ix ix_tup (pe_kc G__law_sum (hr.mono (by decide)) (by rfl) b__law_sum2 pass0 (pa_cons (pe_tupA (pa_cons pe_int (pa_cons (pe_ix ix_tup (pv 2) pe_int (fun _ _ => rfl)) (pa_cons (pe_op op_add (pe_ix ix_tup (pv 2) pe_int (fun _ _ => rfl)) pe_int) pa_nil)))) (pa_cons (pe_op op_catT (pe_tupA (pa_cons pe_int pa_nil)) (pe_slice sl_tup (pv 1) (po_some pe_int) po_none)) pa_nil)) pk_nil) pe_int (fun _ _ => rfl)))
      (pss_cons (ps_if (PW.pt (pw_or (pt_cmpR op_lt (pv 5) pe_int (nomark _)) (pw_or1 (pt_cmpR op_lt (pv 6) pe_int (nomark _)))))
      (pss_one (ps_ret pe_bl))
      pss_nil)
      (pss_cons (ps_asg (pe_kc G__law_fraction (hr.mono (by decide)) (by rfl) b__law_fraction2 pass0 (pa_cons (pv 3) (pa_cons (pv 4) pa_nil)) pk_nil) (pg_tup (n := 2) rfl (pgs_cons (pg_name (i := 7) sc__law_near_right.nd rfl (.inl rfl)) (pgs_cons (pg_name (i := 8) sc__law_near_right.nd rfl (.inl rfl)) pgs_nil))))
      (pss_cons (ps_for PassesOwn.never rfl (pi_list (pe_kc0 G__law_roads (hr.mono (by decide)) (by rfl) b__law_roads0 pass0 pk_nil)) (pg_name (i := 9) sc__law_near_right.nd rfl (.inl rfl))
      (pss_cons (ps_asg (pe_kc G_rounded (hr.mono (by decide)) (by rfl) b_rounded2_shape_way pass0 (pa_cons (pv 7) (pa_cons (pv 8) pa_nil)) (pk_cons (pv 0) (pk_cons (pv 9) pk_nil))) (pg_tup (n := 2) rfl (pgs_cons (pg_name (i := 10) sc__law_near_right.nd rfl (.inl rfl)) (pgs_cons (pg_name (i := 11) sc__law_near_right.nd rfl (.inl rfl)) pgs_nil))))
      (pss_cons (ps_set (i := 12) sc__law_near_right.nd rfl (.inl rfl) (pe_op op_catT (pe_tupA (pa_cons (pe_me0 (pv 10) T.cl_Number G_Number_sign (hr.mono (by decide)) b_Number_sign0 pass0) pa_nil)) (pe_me0 (pv 10) T.cl_Number G_Number_parts (hr.mono (by decide)) b_Number_parts0 pass0)))
      (pss_one (ps_if (PW.pt (pw_or (pt_cmpR (op_neD hr.units) (pv 11) (pe_tupA pa_nil) (nomark _)) (pw_or1 (pt_cmpR op_ne (pe_ix ix_tup (pe_kc G__law_sum (hr.mono (by decide)) (by rfl) b__law_sum2 pass0 (pa_cons (pv 12) (pa_cons (pe_tupA (pa_cons (pe_callTy call_int1 (by rfl) T.z_int (by decide +kernel) (pa_cons (pe_cmpR op_gt (pv 3) pe_int (nomark _)) pa_nil)) (pa_cons (pe_callB call_abs (by rfl) T.z_abs (by decide +kernel) (pa_cons (pv 3) pa_nil)) (pa_cons (pv 4) pa_nil)))) pa_nil)) pk_nil) pe_int (fun _ _ => rfl)) pe_int (nomark _)))))
      (pss_one (ps_ret pe_bl))
      pss_nil)))))
      (pss_one (ps_ret pe_bl)))))))), ?_⟩
    refine seq_gen fun R k => ?_
    walk_at "rd"
    refine ⟨by decide, fun p3 H3 n3 s3 e3 => ?_⟩
    refine slT_of (ys := [.int b1, .int e1]) (SqT.of (s3 _ _ ht1)) (by show ¬ (1 = 0 ∧ _); omega) (by rfl) fun p4 H4 n4 s4 e4 => ?_
    refine catT_of (SqT.of (s4 _ _ e3)) (SqT.of e4) (by simp) (by simp) (by show 1 + 2 ≤ 100000; decide) fun p5 H5 n5 s5 e5 => ⟨by decide, fun p6 H6 n6 s6 e6 => ?_⟩
    have sA := s3.trans (s4.trans (s5.trans s6))
    refine slT_of (ys := [.int b2, .int e2]) (SqT.of (sA _ _ ht2)) (by show ¬ (1 = 0 ∧ _); omega) (by rfl) fun p7 H7 n7 s7 e7 => ?_
    refine catT_of (SqT.of (s7 _ _ e6)) (SqT.of e7) (by simp) (by simp) (by show 1 + 2 ≤ 100000; decide) fun p8 H8 n8 s8 e8 => ?_
    refine ⟨p5, p8, 0, b1, e1, 1, b2, e2, rfl, SqT.of (s8 _ _ (s7 _ _ (s6 _ _ e5))), SqT.of e8, big z1, big y1, by omega, by omega, by omega, by omega, by decide, by decide, by decide, by decide, fun H9 p9 s9 n9 e9 => ⟨_, rfl, _, SqT.of e9, rfl, _, _, rfl, _, _, rfl, rfl, k _ _ ?_⟩⟩
    clear k
    have sB := sA.trans (s7.trans (s8.trans s9))
    have hz := sum_sc (s1 := 0) (b1 := b1) (s2 := 1) (b2 := b2) z2 y2
    have bz := sum_small (z := b1 * 2 ^ (e1 - minI e1 e2).toNat * (1 - 2 * 0) + b2 * 2 ^ (e2 - minI e1 e2).toNat * (1 - 2 * 1)) (sh := sh) (s1 := 0) (s2 := 1) ⟨hok, Int.le_refl 0, Int.zero_le_ofNat 1, f1.b1, f1.b2, f1.e1, f1.e2, f1.nm, rfl⟩ ⟨hok, Int.zero_le_ofNat 1, Int.le_refl 1, f2.b1, f2.b2, f2.e1, f2.e2, f2.nm, rfl⟩ rfl
    have hz' : sgS 0 b1 e1 + sgS 1 b2 e2 = b1 * sc e1 - b2 * sc e2 := by
      unfold sgS
      rw [show (1 : Int) - 2 * 0 = 1 by decide, show (1 : Int) - 2 * 1 = -1 by decide, Int.one_mul, Int.neg_mul, Int.one_mul]
      rfl
    rw [hz'] at hz
    generalize hZ : b1 * 2 ^ (e1 - minI e1 e2).toNat * (1 - 2 * 0) + b2 * 2 ^ (e2 - minI e1 e2).toNat * (1 - 2 * 1) = z at *
    refine seq_gen fun R k => ?_
    walk_at "rd"
    refine ixt_of (SqT.of (sB _ _ ht1)) (atI_nat (j := 1) rfl) (ixt_of (SqT.of (sB _ _ ht1)) (atI_nat (j := 2) rfl) ⟨_, rfl, by decide, fun q13 G13 m13 r13 d13 => ⟨by decide, fun q14 G14 m14 r14 d14 => ?_⟩⟩)
    refine slT_of (ys := [.int b2, .int e2]) (SqT.of (r14 _ _ (r13 _ _ (sB _ _ ht2)))) (by show ¬ (1 = 0 ∧ _); omega) (by rfl) fun q17 G17 m17 r17 d17 => ?_
    refine catT_of (SqT.of (r17 _ _ d14)) (SqT.of d17) (by simp) (by simp) (by show 1 + 2 ≤ 100000; decide) fun q18 G18 m18 r18 d18 => ?_
    refine ⟨q13, q18, 0, b1, e1 + 1, 1, b2, e2, rfl, SqT.of (r18 _ _ (r17 _ _ (r14 _ _ d13))), SqT.of d18, big z1, big y1, by omega, by omega, by omega, by omega, by decide, by decide, by decide, by decide, fun G19 q19 r19 m19 d19 => ?_⟩
    refine ixt_of (SqT.of d19) (atI_nat (j := 0) rfl) (k _ _ ?_)
    clear k
    have sC1 := sB.trans (r13.trans (r14.trans (r17.trans (r18.trans r19))))
    have hT1 := sum_sc (s1 := 0) (b1 := b1) (s2 := 1) (b2 := b2) (show -1100 ≤ e1 + 1 by omega) y2
    have hT1' : sgS 0 b1 (e1 + 1) + sgS 1 b2 e2 = 2 * (b1 * sc e1) - b2 * sc e2 := by
      unfold sgS
      rw [show (1 : Int) - 2 * 0 = 1 by decide, show (1 : Int) - 2 * 1 = -1 by decide, Int.one_mul, Int.neg_mul, Int.one_mul, sc_next z2, Int.mul_left_comm]
      rfl
    rw [hT1'] at hT1
    generalize b1 * 2 ^ (e1 + 1 - minI (e1 + 1) e2).toNat * (1 - 2 * 0) + b2 * 2 ^ (e2 - minI (e1 + 1) e2).toNat * (1 - 2 * 1) = w1 at *
    refine seq_gen fun R k => ?_
    walk_at "rd"
    refine ixt_of (SqT.of (sC1 _ _ ht2)) (atI_nat (j := 1) rfl) (ixt_of (SqT.of (sC1 _ _ ht2)) (atI_nat (j := 2) rfl) ⟨_, rfl, by decide, fun q23 G23 m23 r23 d23 => ⟨by decide, fun q24 G24 m24 r24 d24 => ?_⟩⟩)
    refine slT_of (ys := [.int b1, .int e1]) (SqT.of (r24 _ _ (r23 _ _ (sC1 _ _ ht1)))) (by show ¬ (1 = 0 ∧ _); omega) (by rfl) fun q27 G27 m27 r27 d27 => ?_
    refine catT_of (SqT.of (r27 _ _ d24)) (SqT.of d27) (by simp) (by simp) (by show 1 + 2 ≤ 100000; decide) fun q28 G28 m28 r28 d28 => ?_
    refine ⟨q23, q28, 0, b2, e2 + 1, 1, b1, e1, rfl, SqT.of (r28 _ _ (r27 _ _ (r24 _ _ d23))), SqT.of d28, big y1, big z1, by omega, by omega, by omega, by omega, by decide, by decide, by decide, by decide, fun G29 q29 r29 m29 d29 => ?_⟩
    refine ixt_of (SqT.of d29) (atI_nat (j := 0) rfl) (k _ _ ?_)
    clear k
    have sC2 := sC1.trans (r23.trans (r24.trans (r27.trans (r28.trans r29))))
    have hT2 := sum_sc (s1 := 0) (b1 := b2) (s2 := 1) (b2 := b1) (show -1100 ≤ e2 + 1 by omega) z2
    have hT2' : sgS 0 b2 (e2 + 1) + sgS 1 b1 e1 = 2 * (b2 * sc e2) - b1 * sc e1 := by
      unfold sgS
      rw [show (1 : Int) - 2 * 0 = 1 by decide, show (1 : Int) - 2 * 1 = -1 by decide, Int.one_mul, Int.neg_mul, Int.one_mul, sc_next y2, Int.mul_left_comm]
      rfl
    rw [hT2'] at hT2
    generalize b2 * 2 ^ (e2 + 1 - minI (e2 + 1) e1).toNat * (1 - 2 * 0) + b1 * 2 ^ (e1 - minI (e2 + 1) e1).toNat * (1 - 2 * 1) = w2 at *
    refine seq_gen fun R k => ?_
    walk_at "rd"
    refine ite2 (fun _ => q _ sC2) (fun c1 => ite2 (fun _ => q _ sC2) (fun c2 => k _ _ ?_))
    clear k
    have nn : ∀ {w c X : Int}, 0 < c → w * c = X → ¬ w < 0 → 0 ≤ X := fun {w c X} hc e h => by
      rw [← e]
      exact Int.mul_nonneg (by omega) (Int.le_of_lt hc)
    obtain ⟨k1, k2⟩ := near_diff f1 f2 hz (nn (sc_pos _) hT1 c1) (nn (sc_pos _) hT2 c2)
    have mn1 : sh.lo ≤ minI e1 e2 := by
      have a1 : sh.lo ≤ e1 := f1.e1
      have a2 : sh.lo ≤ e2 := f2.e1
      unfold minI
      split <;> omega
    have mn2 : minI e1 e2 ≤ sh.hi := by
      have a1 : e1 ≤ sh.hi := f1.e2
      have a2 : e2 ≤ sh.hi := f2.e2
      unfold minI
      split <;> omega
    generalize minI e1 e2 = l' at *
    obtain ⟨v1, v2, v3, v4⟩ := frac_ok (l := l') (Nat.lt_of_lt_of_le bz (Nat.pow_le_pow_right (n := 2) (i := 2170) (j := 2200) (by decide) (by decide))) (by omega) (by omega)
    refine seq_gen fun R k => ?_
    walk_at "rd"
    refine ⟨z, l', rfl, Nat.lt_of_lt_of_le bz (Nat.pow_le_pow_right (n := 2) (i := 2170) (j := 100000) (by decide) (by decide)), by omega, by omega, fun H12 p12 s12 n12 e12 => ⟨_, rfl, _, SqT.of e12, rfl, _, _, rfl, _, _, rfl, rfl, k _ _ ?_⟩⟩
    clear k
    have sD := sC2.trans s12
    refine seq_gen fun R k => ?_
    walk_at "rd"
    refine ⟨rfl, fun H13 p13 s13 n13 e13 => ⟨_, rfl, ⟨_, SqL.of e13⟩, ?_⟩⟩
    have sE := sD.trans s13
    refine loop_list (xs := ways.map V.str) (fun i σ H' => ∃ f9 f10 f11 f12, σ = [some (V.ref t), some (V.ref t1), some (V.ref t2), some (V.int z), some (V.int l'), some (V.int w1), some (V.int w2), some (V.int (z * 2 ^ l'.toNat)), some (V.int (2 ^ (-l').toNat)), f9, f10, f11, f12] ∧ Same H13 H')
      ⟨_, _, _, _, rfl, fun _ _ e => e⟩ (fun i σ H' _ ⟨_, _, _, _, _, s⟩ => SqL.of (s _ _ e13)) (fun i x σ H' hx hp => ?_) (fun σ H' hp => ?_)
    · obtain ⟨f9, f10, f11, f12, rfl, s14⟩ := hp
      obtain ⟨w, hw', rfl⟩ := List.mem_map.mp (List.mem_of_getElem? hx)
      have sF := sE.trans s14
      walk_at "rd"
      refine ⟨_, _, t, sh, w, 0, rfl, SqT.of (sF _ _ ht), hok, v1, v2, v3, v4, ways_all hw', by decide, by decide, fun H15 p15 a2 fa2 x2 fl2 sm15 np15 ep15 hx2 ef2 hR2 => ⟨_, rfl, _, SqT.of ep15, rfl, _, _, rfl, _, _, rfl, rfl, ?_⟩⟩
      obtain ⟨rfl, xf2, xv2⟩ := rnd_exact hok (by omega) rfl k1 k2 mn1 mn2 (by decide) (by decide) hR2
      have xst2 : x2.st = "finite" := xf2.st
      obtain ⟨w4, w5, w6⟩ := fin_sizes xf2
      refine hx2.meq (fun _ => rfl) ⟨a2, x2, rfl, hx2, by decide, fun p17 H17 n17 s17 e17 => ?_⟩
      refine (hx2.same s17).meq (fun _ => rfl) ⟨a2, x2, rfl, hx2.same s17, xst2, fun p18 H18 n18 s18 e18 => ?_⟩
      refine catT_of (SqT.of (s18 _ _ e17)) (SqT.of e18) (by simp) (by simp) (by show 1 + 2 ≤ 100000; decide) fun p19 H19 n19 s19 e19 => ⟨by decide, fun p16 H16 n16 s16 e16 => ?_⟩
      refine rNeD_tup (SqT.of (s16 _ _ (s19 _ _ (s18 _ _ (s17 _ _ ef2))))) (SqT.of e16) rfl rfl ?_
      rw [show eqL (([] : List Str).map V.str) [] = true from rfl]
      walk_at "rd"
      refine ⟨by decide, fun p20 H20 n20 s20 e20 => ?_⟩
      refine ⟨p19, p20, _, _, _, _, _, _, rfl, SqT.of (s20 _ _ (s16 _ _ e19)), SqT.of e20, big w4,
        by rw [show (if z < 0 then -z else z).natAbs = z.natAbs from absI_nat z]; exact Nat.lt_of_lt_of_le bz (Nat.pow_le_pow_right (n := 2) (i := 2170) (j := 10000) (by decide) (by decide)), by omega, by omega, by omega, by omega, xf2.s1, xf2.s2, by split <;> decide, by split <;> decide, fun H21 p21 s21 n21 e21 => ?_⟩
      refine ixt_of (SqT.of e21) (atI_nat (j := 0) rfl) ⟨rfl, ?_⟩
      rw [sum_none xf2 (by omega) xv2, if_neg (show ¬ ¬ V.int 0 = V.int 0 from fun y => y rfl)]
      exact s14.trans (sm15.trans (s17.trans (s18.trans (s19.trans (s16.trans (s20.trans s21))))))
    · obtain ⟨f9, f10, f11, f12, rfl, s14⟩ := hp
      refine k _ _ ?_
      walk_at "rd"
      exact q H' (sE.trans s14)
theorem ok_law (T : Tx K mg c_Number a_DOUBLE) : DefOk P w K mg base CX0 10 "law" s_law [] [] ["_law_script"] (sp_law K) := by
  have G__law_begun := ok__law_begun (P := P) (w := w) (base := base) T
  have G__law_draw := ok__law_draw (P := P) (w := w) (base := base) T
  have G__law_form := ok__law_form (P := P) (w := w) (base := base) T
  have G__law_left_right := ok__law_left_right (P := P) (w := w) (base := base) T
  have G__law_near_parts := ok__law_near_parts (P := P) (w := w) (base := base) T
  have G__law_near_right := ok__law_near_right (P := P) (w := w) (base := base) T
  have G__law_parts := ok__law_parts (P := P) (w := w) (base := base) T
  have G__law_sum := ok__law_sum (P := P) (w := w) (base := base) T
  refine T.d_law.ok fun f fd F => FunD.ok0 F sc_law (fun vs H Q E h => ?_) (fun cdv A outer s H vs Q E hr h => ?_)
  · obtain ⟨a, ns, rfl, _⟩ := h
    rfl
  · obtain ⟨a, ns, rfl, hs, hl, q⟩ := h
    refine ⟨_, (pss_cons (ps_set (i := 1) sc_law.nd rfl (.inl rfl) (pe_kc G__law_begun (hr.mono (by decide)) (by rfl) b__law_begun1 pass0 (pa_cons (pv 0) pa_nil) pk_nil))
      (pss_cons (ps_for PassesOwn.never rfl (pi_range1 (by rfl) T.z_range (pa_cons (pe_op op_add pe_int (pe_callB (call_min2 rfl) (by rfl) T.z_min (by decide +kernel) (pa_cons pe_int (pa_cons (pe_callB call_len_seq (by rfl) T.z_len (by decide +kernel) (pa_cons (pv 0) pa_nil)) pa_nil)))) pa_nil)) (pg_name (i := 2) sc_law.nd rfl (.inl rfl))
      (pss_cons (ps_set (i := 3) sc_law.nd rfl (.inl rfl) (pe_kc G__law_form (hr.mono (by decide)) (by rfl) b__law_form1 pass0 (pa_cons (pv 1) pa_nil) pk_nil))
      (pss_cons (ps_set (i := 4) sc_law.nd rfl (.inl rfl) (pe_lstA (pa_cons (pe_kc G__law_parts (hr.mono (by decide)) (by rfl) b__law_parts2 pass0 (pa_cons (pv 1) (pa_cons (pv 3) pa_nil)) pk_nil) pa_nil)))
      (pss_cons (ps_expr (pe_bm PySem.F.plainAttrs_list PySem.F.slot_list_append PySem.F.type_list_append mt_append (pv 4) (pa_cons (pe_ifExp (pt_cmpR op_eq (pe_kc G__law_draw (hr.mono (by decide)) (by rfl) b__law_draw2 pass0 (pa_cons (pv 1) (pa_cons pe_int pa_nil)) pk_nil) pe_int (nomark _)) (pe_kc G__law_parts (hr.mono (by decide)) (by rfl) b__law_parts2 pass0 (pa_cons (pv 1) (pa_cons (pv 3) pa_nil)) pk_nil) (pe_kc G__law_near_parts (hr.mono (by decide)) (by rfl) b__law_near_parts3 pass0 (pa_cons (pv 1) (pa_cons (pv 3) (pa_cons (pe_ix ix_list (pv 4) pe_int (fun _ _ => rfl)) pa_nil))) pk_nil)) pa_nil)))
      (pss_cons (ps_asg (pe_kc G__law_sum (hr.mono (by decide)) (by rfl) b__law_sum2 pass0 (pa_cons (pe_ix ix_list (pv 4) pe_int (fun _ _ => rfl)) (pa_cons (pe_ix ix_list (pv 4) pe_int (fun _ _ => rfl)) pa_nil)) pk_nil) (pg_tup (n := 2) rfl (pgs_cons (pg_name (i := 5) sc_law.nd rfl (.inl rfl)) (pgs_cons (pg_name (i := 6) sc_law.nd rfl (.inl rfl)) pgs_nil))))
      (pss_cons (ps_for PassesOwn.never rfl (pi_tup (pe_tupA (pa_cons pe_str (pa_cons pe_str pa_nil)))) (pg_name (i := 7) sc_law.nd rfl (.inl rfl))
      (pss_one (ps_if (pt_not (pt_val (pe_kc G__law_left_right (hr.mono (by decide)) (by rfl) b__law_left_right5 pass0 (pa_cons (pv 1) (pa_cons (pv 3) (pa_cons (pv 5) (pa_cons (pv 6) (pa_cons (pv 7) pa_nil))))) pk_nil)))
      (pss_one (ps_ret pe_bl))
      pss_nil)))
      (pss_one (ps_if (pt_not (pt_val (pe_kc G__law_near_right (hr.mono (by decide)) (by rfl) b__law_near_right3 pass0 (pa_cons (pv 3) (pa_cons (pe_ix ix_list (pv 4) pe_int (fun _ _ => rfl)) (pa_cons (pe_ix ix_list (pv 4) pe_int (fun _ _ => rfl)) pa_nil))) pk_nil)))
      (pss_one (ps_ret pe_bl))
      pss_nil))))))))
      (pss_one (ps_ret pe_bl)))), ?_⟩
    refine seq_gen fun R k => ?_
    walk_at "rd"
    refine ⟨a, ns, rfl, hs, hl, fun H1 m l s1 hm hl' hD => k _ _ ?_⟩
    clear k
    refine seq_gen fun R k => ?_
    walk_at "rd"
    refine ⟨_, .inl (s1.seq hs), ?_⟩
    rw [List.length_map]
    generalize hN : (6 + if (ns.length : Int) < 10 then (ns.length : Int) else 10) = N
    have hN1 : 0 ≤ N ∧ N ≤ 16 := by
      rw [← hN]
      split <;> omega
    refine ⟨by omega, by omega, ?_⟩
    refine loop_range (fun i σ H' => ∃ y2 y3 y4 y5 y6 y7, σ = [some (V.ref a), some (V.ref m), y2, y3, y4, y5, y6, y7] ∧ Drw H' m l (30 * i)) ⟨_, _, _, _, _, _, rfl, hD⟩ (fun i σ H' hi hp => ?_) (fun σ H' hp => ?_)
    · obtain ⟨y2, y3, y4, y5, y6, y7, rfl, D1⟩ := hp
      clear k
      show tSeq _ _ _ _ _
      refine seq_gen fun R k => ?_
      walk_at "rd"
      refine ⟨m, l, 30 * i, rfl, D1, by omega, fun H2 t sh D2 B2 n2 ht hok => k _ _ ?_⟩
      clear k
      refine seq_gen fun R k => ?_
      walk_at "rd"
      refine ⟨m, l, 30 * i + 8, t, sh, rfl, D2, by omega, ht, hok, fun H3 t1 s1 b1 e1 D3 B3 n3 ht1 f1 => ⟨by decide, fun po H4 n4 s4 eo => k _ _ ?_⟩⟩
      clear k
      have D4 := D3.same s4
      have ht4 : H4 t = some (.tup sh.vs) := s4 _ _ (B3.at D2 ht (fun _ z => by cases z) (fun _ z => by cases z))
      have ht14 := s4 _ _ ht1
      have pol : po ≠ l := D3.new n4
      refine seq_gen fun R k => ?_
      suffices mm : ∀ t2 s2 b2 e2 H5, Drw H5 m l (30 * i + 27) → H5 t = some (.tup sh.vs) → H5 t1 = some (.tup [.int s1, .int b1, .int e1]) → H5 t2 = some (.tup [.int s2, .int b2, .int e2]) → (finN sh s2 b2 e2).Fin → H5 po = some (.lst [.ref t1, .ref t2]) →
          R [some (V.ref a), some (V.ref m), some (V.int (0 + i)), some (V.ref t), some (V.ref po), y5, y6, y7] H5 by
        walk_at "rd"
        refine ⟨.inl ⟨rfl, _, SqL.of eo⟩, m, l, 30 * i + 17, 3, rfl, D4, by omega, by decide, by decide, fun y H5 y0 y1 B5 D5 => ?_⟩
        have tT : ∀ {H0 H6 : Hp} {b : Nat} {t : Addr} {xs : List V}, But m l H0 H6 → Drw H0 m l b → H0 t = some (.tup xs) → H6 t = some (.tup xs) := fun B D e => B.at D e (fun _ z => by cases z) (fun _ z => by cases z)
        have eo5 := B5.lst D4 eo pol
        have nt : ∀ {H6 : Hp} {t : Addr} {xs : List V}, H6 po = some (.lst [.ref t1]) → H6 t = some (.tup xs) → t ≠ po := fun e1 e2 => ne_of e2 e1 (by intro z; cases z)
        walk_at "rd"
        refine ite2 (fun _ => ?_) (fun _ => ?_)
        · refine ⟨m, l, 30 * i + 18, t, sh, rfl, D5, by omega, tT B5 D4 ht4, hok, fun H6 t2 s2 b2 e2 D6 B6 n6 ht6 f2 => ?_⟩
          have eo6 := B6.lst D5 eo5 pol
          refine app_of eo6 (by show 1 ≤ 99999; decide) fun H7 k7 e7 => mm t2 s2 b2 e2 H7 (D6.put eo6 (by show 1 ≠ 64; decide) pol k7) ?_ ?_ ?_ f2 e7
          · have z := tT B6 D5 (tT B5 D4 ht4)
            rw [k7 t (nt eo6 z)]
            exact z
          · have z := tT B6 D5 (tT B5 D4 ht14)
            rw [k7 t1 (nt eo6 z)]
            exact z
          · rw [k7 t2 (nt eo6 ht6)]
            exact ht6
        · refine ixl_of (SqL.of eo5) (atI_nat (j := 0) rfl) ?_
          refine ⟨m, l, 30 * i + 18, t, sh, t1, _, _, _, rfl, D5, by omega, tT B5 D4 ht4, hok, tT B5 D4 ht14, fun H6 t2 s2 b2 e2 D6 B6 n6 ht6 f2 => ?_⟩
          have eo6 := B6.lst D5 eo5 pol
          refine app_of eo6 (by show 1 ≤ 99999; decide) fun H7 k7 e7 => mm t2 s2 b2 e2 H7 (D6.put eo6 (by show 1 ≠ 64; decide) pol k7) ?_ ?_ ?_ f2 e7
          · have z := tT B6 D5 (tT B5 D4 ht4)
            rw [k7 t (nt eo6 z)]
            exact z
          · have z := tT B6 D5 (tT B5 D4 ht14)
            rw [k7 t1 (nt eo6 z)]
            exact z
          · rw [k7 t2 (nt eo6 ht6)]
            exact ht6
      intro t2 s2 b2 e2 H5 D5 ht5 ht15 ht25 f2 eo5
      refine k _ _ ?_
      clear k
      refine seq_gen fun R k => ?_
      walk_at "rd"
      obtain ⟨w1, w2, w3⟩ := fin_sizes f1
      obtain ⟨w4, w5, w6⟩ := fin_sizes f2
      change b1.natAbs < 2 ^ 64 at w1
      change -1100 ≤ e1 at w2
      change e1 ≤ 1000 at w3
      change b2.natAbs < 2 ^ 64 at w4
      change -1100 ≤ e2 at w5
      change e2 ≤ 1000 at w6
      have big : ∀ {i : Int}, i.natAbs < 2 ^ 64 → i.natAbs < 2 ^ 10000 := fun h => Nat.lt_of_lt_of_le h (Nat.pow_le_pow_right (n := 2) (i := 64) (j := 10000) (by decide) (by decide))
      refine ixl_of (SqL.of eo5) (atI_nat (j := 0) rfl) (ixl_of (SqL.of eo5) (atI_nat (j := 1) rfl) ?_)
      refine ⟨t1, t2, s1, b1, e1, s2, b2, e2, rfl, SqT.of ht15, SqT.of ht25, big w1, big w4, by omega, by omega, by omega, by omega, f1.s1, f1.s2, f2.s1, f2.s2, fun H6 p6 sm6 n6 e6 => ⟨_, rfl, _, SqT.of e6, rfl, _, _, rfl, _, _, rfl, rfl, k _ _ ?_⟩⟩
      clear k
      have hz := sum_sc (s1 := s1) (b1 := b1) (s2 := s2) (b2 := b2) w2 w5
      have bz := sum_small f1 f2 rfl
      have D6 := D5.same sm6
      have a1 : sh.lo ≤ minI e1 e2 := by
        have a1 : sh.lo ≤ e1 := f1.e1
        have a2 : sh.lo ≤ e2 := f2.e1
        unfold minI
        split <;> omega
      have a2 : minI e1 e2 ≤ sh.hi := by
        have a1 : e1 ≤ sh.hi := f1.e2
        have a2 : e2 ≤ sh.hi := f2.e2
        unfold minI
        split <;> omega
      generalize b1 * 2 ^ (e1 - minI e1 e2).toNat * (1 - 2 * s1) + b2 * 2 ^ (e2 - minI e1 e2).toNat * (1 - 2 * s2) = z at *
      have hLO : ∀ w : Str, w = "nearest" ∨ w = "away" → LeftOk sh w z (minI e1 e2) := fun w hw x fl hR => sum_left f1 f2 hw hz hR
      refine seq_gen fun R k => ?_
      walk_at "rd"
      refine ⟨by decide, fun p7 H7 n7 s7 e7 => ⟨⟨_, SqT.of e7⟩, ?_⟩⟩
      have D7 := D6.same s7
      have sm7 := sm6.trans s7
      refine loop_tup (xs := [.str "nearest", .str "away"]) (fun j σ H' => ∃ y7, σ = [some (V.ref a), some (V.ref m), some (V.int (0 + i)), some (V.ref t), some (V.ref po), some (V.int z), some (V.int (minI e1 e2)), y7] ∧ But m l H7 H' ∧ Drw H' m l (30 * i + 27 + j))
        ⟨_, rfl, But.refl, D7⟩ (fun j σ H' _ ⟨_, _, B, _⟩ => SqT.of (B.at D7 e7 (fun _ z => by cases z) (fun _ z => by cases z))) (fun j x σ H' hx hp => ?_) (fun σ H' hp => ?_)
      · obtain ⟨y7, rfl, B8, D8⟩ := hp
        have hj : j < 2 := by
          have := List.getElem?_eq_some_iff.mp hx
          exact this.1
        have hw : ∃ w : Str, x = .str w ∧ (w = "nearest" ∨ w = "away") := by
          have := List.mem_of_getElem? hx
          simp only [List.mem_cons, List.not_mem_nil, or_false] at this
          rcases this with rfl | rfl
          · exact ⟨_, rfl, .inl rfl⟩
          · exact ⟨_, rfl, .inr rfl⟩
        obtain ⟨w, rfl, hw⟩ := hw
        walk_at "rd"
        refine ⟨m, l, 30 * i + 27 + j, t, sh, z, minI e1 e2, w, rfl, D8, by omega, B8.at D7 (sm7 _ _ ht5) (fun _ z => by cases z) (fun _ z => by cases z), hok, a1, a2, bz, isWay_of (by rcases hw with h | h; exact .inl h; exact .inr (.inl h)), hLO w hw, fun H9 D9 B9 => ?_⟩
        walk_at "rd"
        exact ⟨B8.trans B9, D9⟩
      · obtain ⟨y7, rfl, B8, D8⟩ := hp
        refine k _ _ ?_
        clear k
        walk_at "rd"
        have tT : ∀ {t : Addr} {xs : List V}, H5 t = some (.tup xs) → H' t = some (.tup xs) := fun e => B8.at D7 (sm7 _ _ e) (fun _ z => by cases z) (fun _ z => by cases z)
        have eo8 := B8.lst D7 (sm7 _ _ eo5) pol
        refine ixl_of (SqL.of eo8) (atI_nat (j := 0) rfl) (ixl_of (SqL.of eo8) (atI_nat (j := 1) rfl) ?_)
        refine ⟨t, sh, t1, s1, b1, e1, t2, s2, b2, e2, rfl, tT ht5, tT ht15, tT ht25, f1, f2, fun H10 s10 => ⟨true, rfl, ?_⟩⟩
        rw [if_neg (by decide)]
        refine (D8.same s10).mono ?_
        show 30 * i + 27 + 2 ≤ _
        omega
    · obtain ⟨y2, y3, y4, y5, y6, y7, rfl, D1⟩ := hp
      refine k _ _ ?_
      walk_at "rd"
      exact q H'
theorem ok_top_rank (T : Tx K mg c_Number a_DOUBLE) : DefOk P w K mg base CX0 1 "top_rank" s_top_rank [] [] ["shape"] (sp_top_rank K) := by
  refine T.d_top_rank.ok fun f fd F => FunD.ok0 F sc_top_rank (fun vs H Q E h => ?_) (fun cdv A outer s H vs Q E hr h => ?_)
  · obtain ⟨t, s, rfl, _⟩ := h
    rfl
  · obtain ⟨t, sh, rfl, ht, hok, q⟩ := h
    obtain ⟨p1, p2, l1, l2, h1, h2⟩ := hok
    refine ⟨_, (pss_one (ps_ret (pe_op op_shlW (pe_op op_add (pe_op op_sub (pe_ix ix_tup (pv 0) pe_int (fun _ _ => rfl)) (pe_ix ix_tup (pv 0) pe_int (fun _ _ => rfl))) pe_int) (pe_op op_sub (pe_ix ix_tup (pv 0) pe_int (fun _ _ => rfl)) pe_int)))), ?_⟩
    walk_at "rd"
    refine ixt_of ht (atI_nat (j := 2) rfl) (ixt_of ht (atI_nat (j := 1) rfl) ?_)
    walk_at "rd"
    refine ixt_of ht (atI_nat (j := 0) rfl) ?_
    walk_at "rd"
    exact ⟨shl_small (by omega) (by omega) (small_nat (by omega)), q⟩
theorem ok_Number_shape (T : Tx K mg c_Number a_DOUBLE) : MethOk P w K mg base CX0 1 c_Number "shape" "Number.shape" s_Number_shape [] [] ["self"] (sp_Number_shape K c_Number) := by
  refine T.d_Number_shape.ok fun f fd F => FunD.ok0 F sc_Number_shape (fun vs H Q E h => ?_) (fun cdv A outer s H vs Q E hr h => ?_)
  · obtain ⟨a, x, rfl, _⟩ := h
    rfl
  · obtain ⟨a, x, rfl, hx, q⟩ := h
    have NC : NumCls K c_Number := ⟨T.cl_Number, T.n_Number_form, T.n_Number_side, T.n_Number_bits, T.n_Number_scale, T.n_Number_state⟩
    refine ⟨_, (pss_one (ps_ret (pe_fld (pv 0) rfl))), ?_⟩
    walk_at "rd"
    exact hx.form NC q
end
end DW
namespace DW
open PySem PySem.Spec PyProof.Rows L2
theorem fin_law {P : Program} {w : World} {K : PySem.W.Frag} {mg : Str → Option Value} {fa c_Number a_DOUBLE : Addr} (hfa : mg "law" = some (.ref fa)) (T : Tx K mg c_Number a_DOUBLE) :
    ∃ fd : FuncData, (∀ (s : Shared) (v : Value), BindsTo s fd ⟨[v], []⟩ [("_law_script", v)]) ∧ ∀ base : Heap, K.In base → base.Ns mainGlobals mg → FnOk P w K mg base CX0 10 fa fd ["_law_script"] (sp_law K) :=
  DefOk.fin T.d_law hfa (fun _ _ _ _ _ _ us hl => match us, hl with | [_], _ => rfl) fun base => ok_law T
end DW
open PySem PySem.W PyProof.Rows
set_option maxHeartbeats 0 in
theorem PySem.Challenge.cw_digitway_k26_whole_what_a_sum_loses_holds : PySem.Challenge.rw_digitway_k26_whole_what_a_sum_loses.Holds := by
  w_on; o_law; k_head; (case hw => w_witness2)
  k_fill
  refine L2.walk_ofK (l := PySem.Challenge.rw_digitway_k26_whole_what_a_sum_loses) (n := 63) (k := 10) (x := "_law_script") (CX := L2.CX0) (sp := DW.sp_law) rfl (by decide) rfl ⟨rfl, by decide, by decide⟩ (fun w h Y => PySem.W.kIn_of Y) ?F (fun _ _ a ns hl _ hS => ⟨a, ns, rfl, hS, hl, fun _ => rfl⟩) (fun _ _ _ _ h => h)
  case F =>
    intro w mg fa h KX G hmg
    refine' DW.fin_law hmg (DW.Tx.mk ?x0 ?x1 ?x2 ?x3 ?x4 ?x5 ?x6 ?x7 ?x8 ?x9 ?x10 ?x11 ?x12 ?x13 ?x14 ?x15 ?x16 ?x17 ?x18 ?x19 ?x20 ?x21 ?x22 ?x23 ?x24 ?x25 ?x26 ?x27 ?x28 ?x29 ?x30 ?x31 ?x32 ?x33 ?x34 ?x35 ?x36 ?x37 ?x38 ?x39 ?x40 ?x41 ?x42 ?x43 ?x44 ?x45 ?x46 ?x47 ?x48 ?x49 ?x50 ?x51 ?x52 ?x53 ?x54 ?x55 ?x56 ?x57 ?x58 ?x59 ?x60 ?x61 ?x62 ?x63)
    (case x35 =>
      (refine' PySem.W.mg_of KX G ?e; (case e => k_is))
    )
    (case x41 =>
      (refine' PySem.W.mg_of KX G ?e; (case e => k_is))
    )
    (case x0 =>
      (refine' DW.DefAt.mk0 KX G ?a ?l ?c ?k; (case a => k_is); (case l => k_is); (case c => k_is); (case k => k_is))
    )
    (case x1 =>
      (refine' DW.DefAt.mk0 KX G ?a ?l ?c ?k; (case a => k_is); (case l => k_is); (case c => k_is); (case k => k_is))
    )
    (case x2 =>
      (refine' DW.DefAt.mk0 KX G ?a ?l ?c ?k; (case a => k_is); (case l => k_is); (case c => k_is); (case k => k_is))
    )
    (case x3 =>
      (refine' DW.DefAt.mk0 KX G ?a ?l ?c ?k; (case a => k_is); (case l => k_is); (case c => k_is); (case k => k_is))
    )
    (case x4 =>
      (refine' DW.DefAt.mk0 KX G ?a ?l ?c ?k; (case a => k_is); (case l => k_is); (case c => k_is); (case k => k_is))
    )
    (case x5 =>
      (refine' DW.DefAt.mk0 KX G ?a ?l ?c ?k; (case a => k_is); (case l => k_is); (case c => k_is); (case k => k_is))
    )
    (case x6 =>
      (refine' DW.DefAt.mk0 KX G ?a ?l ?c ?k; (case a => k_is); (case l => k_is); (case c => k_is); (case k => k_is))
    )
    (case x7 =>
      (refine' DW.DefAt.mk0 KX G ?a ?l ?c ?k; (case a => k_is); (case l => k_is); (case c => k_is); (case k => k_is))
    )
    (case x8 =>
      (refine' DW.DefAt.mk0 KX G ?a ?l ?c ?k; (case a => k_is); (case l => k_is); (case c => k_is); (case k => k_is))
    )
    (case x9 =>
      (refine' DW.DefAt.mk0 KX G ?a ?l ?c ?k; (case a => k_is); (case l => k_is); (case c => k_is); (case k => k_is))
    )
    (case x10 =>
      (refine' DW.DefAt.mk0 KX G ?a ?l ?c ?k; (case a => k_is); (case l => k_is); (case c => k_is); (case k => k_is))
    )
    (case x11 =>
      (refine' DW.DefAt.mk0 KX G ?a ?l ?c ?k; (case a => k_is); (case l => k_is); (case c => k_is); (case k => k_is))
    )
    (case x12 =>
      (refine' DW.DefAt.mk0 KX G ?a ?l ?c ?k; (case a => k_is); (case l => k_is); (case c => k_is); (case k => k_is))
    )
    (case x13 =>
      (refine' DW.DefAt.mk0 KX G ?a ?l ?c ?k; (case a => k_is); (case l => k_is); (case c => k_is); (case k => k_is))
    )
    (case x14 =>
      (refine' DW.DefAt.mk0 KX G ?a ?l ?c ?k; (case a => k_is); (case l => k_is); (case c => k_is); (case k => k_is))
    )
    (case x15 =>
      (refine' DW.DefAt.mk0 KX G ?a ?l ?c ?k; (case a => k_is); (case l => k_is); (case c => k_is); (case k => k_is))
    )
    (case x16 =>
      (refine' DW.InitAt.mk ?a ?i ?mk ?kC ?l ?c ?k ?d ?w; (case a => k_is); (case i => k_is); (case mk => k_is); (case kC => k_is); (case l => k_is); (case c => k_is); (case k => k_is)
       (case d => (refine' DW.dfl_mk ?t (by simp) ?r; (case t => k_is); (case r => exact (.cons rfl .nil))))
       (case w => (refine' (DW.KwdV.one ?e0 ?r0 (.inr (DW.KwdV.one ?e1 ?r1 (.inr (DW.KwdV.one ?e2 ?r2 (.inl rfl)))))); (case e0 => k_is); (case r0 => exact ⟨_, rfl⟩); (case e1 => k_is); (case r1 => exact ⟨_, rfl⟩); (case e2 => k_is); (case r2 => exact rfl))))
    )
    (case x17 =>
      (refine' DW.DefAt.mk0 KX G ?a ?l ?c ?k; (case a => k_is); (case l => k_is); (case c => k_is); (case k => k_is))
    )
    (case x18 =>
      (refine' DW.DefAt.mk0 KX G ?a ?l ?c ?k; (case a => k_is); (case l => k_is); (case c => k_is); (case k => k_is))
    )
    (case x19 =>
      (refine' DW.DefAt.mkD KX G ?a ?l ?c ?k ?d ?w; (case a => k_is); (case l => k_is); (case c => k_is); (case k => k_is)
       (case d => (refine' DW.dfl_mk ?t (by simp) ?r; (case t => k_is); (case r => exact (.cons rfl .nil))))
       (case w => (refine' (DW.KwdV.one ?e0 ?r0 (.inl rfl)); (case e0 => k_is); (case r0 => exact ⟨_, rfl⟩))))
    )
    (case x20 =>
      (refine' DW.DefAt.mkD KX G ?a ?l ?c ?k ?d ?w; (case a => k_is); (case l => k_is); (case c => k_is); (case k => k_is)
       (case d => (refine' DW.dfl_mk ?t (by simp) ?r; (case t => k_is); (case r => exact (.cons rfl .nil))))
       (case w => (refine' (DW.KwdV.one ?e0 ?r0 (.inl rfl)); (case e0 => k_is); (case r0 => exact ⟨_, rfl⟩))))
    )
    (case x21 =>
      (refine' DW.DefAt.mk0 KX G ?a ?l ?c ?k; (case a => k_is); (case l => k_is); (case c => k_is); (case k => k_is))
    )
    (case x22 =>
      (refine' DW.DefAt.mk0 KX G ?a ?l ?c ?k; (case a => k_is); (case l => k_is); (case c => k_is); (case k => k_is))
    )
    (case x23 =>
      (refine' DW.DefAt.mkD KX G ?a ?l ?c ?k ?d ?w; (case a => k_is); (case l => k_is); (case c => k_is); (case k => k_is)
       (case d => (refine' DW.dfl_mk ?t (by simp) ?r; (case t => k_is); (case r => exact (.cons ⟨_, rfl⟩ .nil))))
       (case w => (refine' (DW.KwdV.one ?e0 ?r0 (.inr (DW.KwdV.one ?e1 ?r1 (.inr (DW.KwdV.one ?e2 ?r2 (.inl rfl)))))); (case e0 => k_is); (case r0 => exact rfl); (case e1 => k_is); (case r1 => exact ⟨_, rfl⟩); (case e2 => k_is); (case r2 => exact ⟨_, rfl⟩))))
    )
    (case x24 =>
      (refine' DW.MethAt.mk ?a ?i ?l ?c ?k ?d ?w; (case a => k_is); (case i => k_is); (case l => k_is); (case c => k_is); (case k => k_is)
       (case d => exact .inl ⟨rfl, rfl⟩)
       (case w => exact .inl rfl))
    )
    (case x25 =>
      (refine' DW.MethAt.mk ?a ?i ?l ?c ?k ?d ?w; (case a => k_is); (case i => k_is); (case l => k_is); (case c => k_is); (case k => k_is)
       (case d => exact .inl ⟨rfl, rfl⟩)
       (case w => exact .inl rfl))
    )
    (case x26 =>
      (refine' DW.MethAt.mk ?a ?i ?l ?c ?k ?d ?w; (case a => k_is); (case i => k_is); (case l => k_is); (case c => k_is); (case k => k_is)
       (case d => exact .inl ⟨rfl, rfl⟩)
       (case w => exact .inl rfl))
    )
    (case x27 =>
      (refine' DW.MethAt.mk ?a ?i ?l ?c ?k ?d ?w; (case a => k_is); (case i => k_is); (case l => k_is); (case c => k_is); (case k => k_is)
       (case d => exact .inl ⟨rfl, rfl⟩)
       (case w => exact .inl rfl))
    )
    (case x28 =>
      (refine' DW.DefAt.mk0 KX G ?a ?l ?c ?k; (case a => k_is); (case l => k_is); (case c => k_is); (case k => k_is))
    )
    (case x29 =>
      (refine' DW.DefAt.mk0 KX G ?a ?l ?c ?k; (case a => k_is); (case l => k_is); (case c => k_is); (case k => k_is))
    )
    (case x30 =>
      (refine' DW.DefAt.mk0 KX G ?a ?l ?c ?k; (case a => k_is); (case l => k_is); (case c => k_is); (case k => k_is))
    )
    (case x31 =>
      (refine' DW.DefAt.mk0 KX G ?a ?l ?c ?k; (case a => k_is); (case l => k_is); (case c => k_is); (case k => k_is))
    )
    (case x32 =>
      (refine' DW.DefAt.mk0 KX G ?a ?l ?c ?k; (case a => k_is); (case l => k_is); (case c => k_is); (case k => k_is))
    )
    (case x33 =>
      (refine' DW.MethAt.mk ?a ?i ?l ?c ?k ?d ?w; (case a => k_is); (case i => k_is); (case l => k_is); (case c => k_is); (case k => k_is)
       (case d => exact .inl ⟨rfl, rfl⟩)
       (case w => exact .inl rfl))
    )
    (case x34 =>
      (refine' DW.Cls.mk' ?a ?b ?c ?d; (case a => k_is); (case b => k_is); (case c => k_is); (case d => k_is))
    )
    (case x36 =>
      (show PySem.W.findIn _ _ _ = _; k_is)
    )
    (case x37 =>
      (show PySem.W.findIn _ _ _ = _; k_is)
    )
    (case x38 =>
      (show PySem.W.findIn _ _ _ = _; k_is)
    )
    (case x39 =>
      (show PySem.W.findIn _ _ _ = _; k_is)
    )
    (case x40 =>
      (show PySem.W.findIn _ _ _ = _; k_is)
    )
    (case x42 =>
      (refine' DW.kt_mk ?l ?z ?r; (case l => k_is); (case z => decide); (case r => exact (.cons ⟨_, rfl⟩ (.cons ⟨_, rfl⟩ (.cons ⟨_, rfl⟩ .nil)))))
    )
    (case x43 =>
      (refine' PySem.W.mg_none_of KX G ?e; (case e => k_is))
    )
    (case x44 =>
      (refine' PySem.W.mg_none_of KX G ?e; (case e => k_is))
    )
    (case x45 =>
      (refine' PySem.W.mg_none_of KX G ?e; (case e => k_is))
    )
    (case x46 =>
      (refine' PySem.W.mg_none_of KX G ?e; (case e => k_is))
    )
    (case x47 =>
      (refine' PySem.W.mg_none_of KX G ?e; (case e => k_is))
    )
    (case x48 =>
      (refine' PySem.W.mg_none_of KX G ?e; (case e => k_is))
    )
    (case x49 =>
      (refine' PySem.W.mg_none_of KX G ?e; (case e => k_is))
    )
    (case x50 =>
      (refine' PySem.W.mg_none_of KX G ?e; (case e => k_is))
    )
    (case x51 =>
      (refine' PySem.W.mg_none_of KX G ?e; (case e => k_is))
    )
    (case x52 =>
      (refine' PySem.W.mg_none_of KX G ?e; (case e => k_is))
    )
    (case x53 =>
      (refine' PySem.W.mg_none_of KX G ?e; (case e => k_is))
    )
    (case x54 =>
      (refine' PySem.W.mg_none_of KX G ?e; (case e => k_is))
    )
    (case x55 =>
      (refine' DW.gc_mk KX G ?e ?r; (case e => k_is); (case r => exact ⟨_, rfl⟩))
    )
    (case x56 =>
      (refine' DW.gc_mk KX G ?e ?r; (case e => k_is); (case r => exact ⟨_, rfl⟩))
    )
    (case x57 =>
      (refine' DW.gc_mk KX G ?e ?r; (case e => k_is); (case r => exact ⟨_, rfl⟩))
    )
    (case x58 =>
      (refine' DW.gc_mk KX G ?e ?r; (case e => k_is); (case r => exact ⟨_, rfl⟩))
    )
    (case x59 =>
      (refine' DW.gc_mk KX G ?e ?r; (case e => k_is); (case r => exact ⟨_, rfl⟩))
    )
    (case x60 =>
      (refine' DW.gc_mk KX G ?e ?r; (case e => k_is); (case r => exact ⟨_, rfl⟩))
    )
    (case x61 =>
      (refine' DW.gc_mk KX G ?e ?r; (case e => k_is); (case r => exact ⟨_, rfl⟩))
    )
    (case x62 =>
      (refine' DW.gc_mk KX G ?e ?r; (case e => k_is); (case r => exact ⟨_, rfl⟩))
    )
    (case x63 =>
      (refine' DW.gc_mk KX G ?e ?r; (case e => k_is); (case r => exact ⟨_, rfl⟩))
    )
