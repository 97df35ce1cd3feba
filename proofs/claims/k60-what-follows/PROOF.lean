import PyProof.Rows.All
import Wide.All
import OpenK.AllK
import Wide.FinOn
import HandS.ForMost
import HandS.ForExc
import HandS.Flow
import HandS.Style
import HandS.IsInst
import HandS.Wide
import HandS.WideMore
import HandS.WideBits
import HandS.Defaults
import HandS.MakeKwOnly
import HandS.OwnEq
import PyProof.InstNe
import HandS.Lambda
import HandS.EndTab
import HandS.ExcInit
import HandS.ExcField
import HandS.ExcIs
import HandS.TryMany
import HandS.ExcValue
import HandS.ClsMeth
import KE.KExcInit
import KE.KExcIs
import KE.KTryMore
import HandS.TupAny
import HandS.Deep
import HandS.Zip
import PyProof.ReprRoads
import PyProof.ReprLen
import HandS.StrMore
import KE.KFmtOwn
import HandS.FStr
import PyProof.InstSpecial
import HandS.TupMul
import HandS.NoneIn
import PyProof.StrOps2
import PyProof.AssignAttr
import PyProof.StrLawsRepr
import KE.KIntText
import PyProof.Rows.StrPadFill
import HandS.TupLen
import PyProof.Rows.CountFlat
import PyProof.Rows.SetFrom
import HandS.TupSets
import HandS.Strs
import KE.KDictDisplayH
import PyProof.MaxThree
import HandS.HeadHook3
import PyProof.Rows.StrPartPair
import PySem.Challenge.RW_digitway_k60_whole_what_follows
set_option Elab.async false
set_option linter.all false
set_option maxRecDepth 100000
set_option maxHeartbeats 2000000
set_option exponentiation.threshold 200000
namespace DW
open PySem PySem.Spec PyProof.Rows L2

/-! ### calls with keywords -/
def KB (K : PySem.W.Frag) (fd : FuncData) (ps : List Str) (n : Nat) (ks : List Str) (gV : List V → List V → List V) : Prop :=
  ∀ (s : Shared) (us ws : List Value) (vs zs : List V), K.In s.heap → Vals vs us → Vals zs ws → vs.length = n → zs.length = ks.length →
    ∃ rs, BindsTo s fd ⟨us, ks.zip ws⟩ (ps.zip rs) ∧ Vals (gV vs zs) rs
section
variable {X : Cx} {CX : CXT} {k n : Nat} {f : Addr} {fd : FuncData} {ps ks : List Str} {sp : Sp} {E : XK} {x : Str} {p pos : Pos} {e : Expr} {es : List Expr} {kws : List Keyword} {t tk : TA} {gV : List V → List V → List V}
theorem pe_gc {v : V} (hg : Gl X x) (h : ∃ u, X.mg x = some u ∧ RelV v u) (hd : (x == ("__debug__" : Str)) = false := by decide) : PE X (.Name x pos) (tC v) := by
  obtain ⟨u, hm, r⟩ := h
  exact pe_glob hg hm r hd
end
/-! ### defs of the text, with their promises -/
abbrev FD (K : PySem.W.Frag) (x qual : Str) (st : Stmt) (dvs : List V) (kws : List (Str × V)) (f : Addr) (fd : FuncData) : Prop := FunD K x qual (defArgs st) (defBody st) (defScope st) dvs kws f fd
def DefAt (K : PySem.W.Frag) (mg : Str → Option Value) (x : Str) (st : Stmt) (dvs : List V) (kws : List (Str × V)) : Prop := ∃ f fd, FD K x x st dvs kws f fd ∧ mg x = some (.ref f)
def DefOk (P : Program) (w : World) (K : PySem.W.Frag) (mg : Str → Option Value) (base : Heap) (CX : CXT) (k : Nat) (x : Str) (st : Stmt) (dvs : List V) (kws : List (Str × V)) (ps : List Str) (sp : Sp) : Prop :=
  ∃ f fd, FD K x x st dvs kws f fd ∧ mg x = some (.ref f) ∧ FnOk P w K mg base CX k f fd ps sp
section
variable {P : Program} {w : World} {K : PySem.W.Frag} {mg : Str → Option Value} {base : Heap} {CX : CXT} {k : Nat} {x : Str} {st : Stmt} {dvs : List V} {kws : List (Str × V)} {ps : List Str} {sp : Sp}
theorem DefAt.ok (h : DefAt K mg x st dvs kws) (g : ∀ f fd, FD K x x st dvs kws f fd → FnOk P w K mg base CX k f fd ps sp) : DefOk P w K mg base CX k x st dvs kws ps sp := by
  obtain ⟨f, fd, F, m⟩ := h
  exact ⟨f, fd, F, m, g f fd F⟩
theorem DefOk.mono {j : Nat} (h : DefOk P w K mg base CX j x st dvs kws ps sp) (e : j ≤ k) : DefOk P w K mg base CX k x st dvs kws ps sp := by
  obtain ⟨f, fd, F, m, g⟩ := h
  exact ⟨f, fd, F, m, g.mono e⟩
end
section
variable {X : Cx} {CX : CXT} {k n : Nat} {ps ks : List Str} {sp : Sp} {E : XK} {x : Str} {st : Stmt} {dvs : List V} {kvs : List (Str × V)} {p pos : Pos} {e : Expr} {es : List Expr} {kws : List Keyword} {t tk : TA} {gV : List V → List V → List V}
end
/-! ### how a call binds -/
section
variable {K : PySem.W.Frag} {x qual : Str} {params : Arguments} {body : List Stmt} {scope : Scope} {dvs : List V} {kws : List (Str × V)} {f : Addr} {fd : FuncData} {ps : List Str} {n : Nat} {ks : List Str} {gV : List V → List V → List V}
theorem FunD.kbA (F : FunD K x qual params body scope [] kws f fd)
    (h : ∀ (kV doc pm : Value) (an : Option Addr) (cdv ct : Value) (vs : List V) (us : List Value) (zs : List V) (ws : List Value), Vals vs us → Vals zs ws → vs.length = n → zs.length = ks.length →
      ∃ rs, bindArgs (PySem.W.fnOf x qual params body scope .none kV doc pm an cdv ct) ⟨us, ks.zip ws⟩ = pure (ps.zip rs) ∧ Vals (gV vs zs) rs) : KB K fd ps n ks gV := by
  obtain ⟨oc, od, dV, kV, doc, pm, an, cdv, ct, osl, rfl, lk, hcd, hD, hK⟩ := F.ex
  rcases hD with ⟨_, rfl⟩ | ⟨e, _⟩
  · intro s us ws vs zs X r1 r2 l1 l2
    obtain ⟨rs, e, r⟩ := h kV doc pm an cdv ct vs us zs ws r1 r2 l1 l2
    exact ⟨rs, .of_eq e, r⟩
  · exact absurd rfl e
theorem FunD.kbD (F : FunD K x qual params body scope dvs kws f fd) (ms : List (Str × V)) (hd : dvs ≠ []) (hk : kws ≠ []) (hms : ∀ q ∈ ms, q ∈ kws)
    (h : ∀ (T D : Addr) (doc pm : Value) (an : Option Addr) (cdv ct : Value) (vs : List V) (us : List Value) (zs : List V) (ws its mv : List Value), Vals vs us → Vals zs ws → Vals dvs its → Vals (ms.map (·.2)) mv → vs.length = n → zs.length = ks.length →
      ∃ k, bindArgs (PySem.W.fnOf x qual params body scope (.ref T) (.ref D) doc pm an cdv ct) ⟨us, ks.zip ws⟩ = seqItems? (.ref T) >>= k ∧ ∃ rs, KwChain D ((ms.map (·.1)).zip mv) (k (some its.toArray)) (ps.zip rs) ∧ Vals (gV vs zs) rs) : KB K fd ps n ks gV := by
  obtain ⟨oc, od, dV, kV, doc, pm, an, cdv, ct, osl, rfl, lk, hcd, hD, hK⟩ := F.ex
  rcases hD with ⟨e, _⟩ | ⟨_, T, o, its, m, rfl, lT, oT, rT⟩
  · exact absurd e hd
  · rcases hK with e | ⟨D, rfl, hq⟩
    · exact absurd e hk
    · obtain ⟨mv, hl, rk, hks⟩ := kwd_vals (ms := ms) fun q hm => hq q (hms q hm)
      intro s us ws vs zs X r1 r2 l1 l2
      obtain ⟨k, e1, rs, e2, r⟩ := h T D doc pm an cdv ct vs us zs ws its mv r1 r2 rT rk l1 l2
      refine ⟨rs, BindsTo.of_looks fun M => ?_, r⟩
      rw [e1]
      exact looks_items X lT oT (KwChain.looks X hks e2)
end
/-! ### operators with wider conditions -/
def CMulC (i j : Int) : Prop := CMul i j ∨ CMulX i j
theorem CMulC.ok {i j : Int} (h : CMulC i j) : IntMulOk i j := by
  rcases h with h | h
  · exact h.ok
  · exact h.ok
def CDivC (i j : Int) : Prop := 0 < j ∧ (j.natAbs < 2 ^ 9000 ∨ Builtin.Int.intBits i ≤ Builtin.Int.intBits j + 4000)
theorem CDivC.p {i j : Int} (h : CDivC i j) : CDivP i j := by
  obtain ⟨h0, h | h⟩ := h
  · exact ⟨h0, PyProof.noPylong_of_log2 (PySem.Flt.log2_lt_of (by decide) h)⟩
  · exact divp_ok h0 h
section
variable {X : Cx}
theorem op_mulC : OpR X (binaryOp .Mult) (rI CMulC fun i j => .int (i * j)) := opI fun _ _ _ _ _ _ _ hc q => mul_int q hc.ok
theorem op_fdivC : OpR X (binaryOp .FloorDiv) (rI CDivC fun i j => .int (i / j)) := opI fun i j _ _ _ _ _ hc q => by
  have h1 : (0 : Int) < j := hc.1
  exact floordiv_int (by omega) (by rw [Int.fdiv_eq_ediv_of_nonneg i (by omega)]; exact q) (.inl hc.p.2)
end
/-! ### loops -/
def But (m l : Addr) (H H' : Hp) : Prop := ∀ a o, a ≠ m → a ≠ l → H a = some o → H' a = some o
theorem look_new {H : Hp} {p b : Addr} {o x : HO} (e : H b = some x) (hp : H p = none) : upd H p o b = some x := by
  rw [upd_ne (ne_of_none e hp)]
  exact e
theorem look_mut {H : Hp} {p b : Addr} {o x : HO} (hne : b ≠ p) (e : H b = some x) : upd H p o b = some x := by
  rw [upd_ne hne]
  exact e
theorem same_new {H : Hp} {p : Addr} {o : HO} (hp : H p = none) : Same H (upd H p o) := fun _ _ e => look_new e hp
theorem But.trans {m l : Addr} {H H1 H2 : Hp} (a : But m l H H1) (b : But m l H1 H2) : But m l H H2 := fun c o h1 h2 e => b c o h1 h2 (a c o h1 h2 e)
theorem But.refl {m l : Addr} {H : Hp} : But m l H H := fun _ _ _ _ e => e
theorem same_tup {K : PySem.W.Frag} {H H' : Hp} {a : Addr} {xs : List V} (e : Same H H') (h : SqT K H a xs) : SqT K H' a xs := by
  rcases h with (h | ⟨o, h⟩) | h
  · exact .inl (.inl (e _ _ h))
  · exact .inl (.inr ⟨o, e _ _ h⟩)
  · exact .inr h
theorem neR {H : Hp} {p b : Addr} {x : HO} (e : H b = some x) (hp : H p = none) : p ≠ b := fun z => by
  rw [z, e] at hp
  cases hp
/-! ### the kinds that isinstance asks of -/
def datV : V → PyData
  | .non => .none
  | .bl b => .bool b
  | .int i => .int i
  | .str x => .str x
  | _ => .none
def okV : V → Bool
  | .non => true
  | .bl _ => true
  | .int _ => true
  | .str x => (PyData.str x).canLay0
  | _ => false
theorem canLay_datV : ∀ {x : V}, okV x = true → (datV x).canLay0 = true
  | .non, _ => rfl
  | .bl _, _ => rfl
  | .int _, _ => rfl
  | .str _, h => h
  | .byt _, h => by cases h
  | .flt _, h => by cases h
  | .ref _, h => by cases h
  | .ty _, h => by cases h
theorem canLayAll_datV : ∀ {xs : List V}, xs.all okV = true → PyData.canLayAll0 (xs.map datV) = true
  | [], _ => rfl
  | x :: xs, h => by
    rw [List.all_cons, Bool.and_eq_true] at h
    show ((datV x).canLay0 && PyData.canLayAll0 (xs.map datV)) = true
    rw [canLay_datV h.1, canLayAll_datV h.2]
    rfl
theorem depth_datV (x : V) : (datV x).depth ≤ 1 := by
  cases x <;> simp [datV, PyData.depth]
theorem depthAll_datV : ∀ xs : List V, PyData.depthAll (xs.map datV) ≤ 1
  | [] => by simp [PyData.depthAll]
  | x :: xs => by
    have h1 := depth_datV x
    have h2 := depthAll_datV xs
    simp only [List.map_cons, PyData.depthAll]
    omega
theorem shaped_lst {xs : List V} (h : xs.all okV = true) : SeqAt.shaped (.list (xs.map datV)) = true := by
  have h2 := depthAll_datV xs
  show ((PyData.list (xs.map datV)).canLay0 && decide ((PyData.list (xs.map datV)).depth ≤ 64)) = true
  rw [show (PyData.list (xs.map datV)).canLay0 = true from canLayAll_datV h, Bool.true_and]
  refine decide_eq_true ?_
  simp only [PyData.depth]
  omega
theorem ok_ints (ns : List Int) : (ns.map V.int).all okV = true := by
  rw [List.all_eq_true]
  intro x hx
  obtain ⟨i, _, rfl⟩ := List.mem_map.mp hx
  rfl
/-! ### where a def stands -/
section
variable {K : PySem.W.Frag} {mg : Str → Option Value} {h : Heap} {x : Str} {st : Stmt} {f : Addr} {oc : Value} {od an : Option Addr} {osl : Array (Option Value)} {kV doc pm cdv ct : Value}
theorem DefAt.mk0 (X : K.In h) (G : h.Ns mainGlobals mg) (a : PySem.W.nsIn K mainGlobals x = some (some (.ref f)))
    (l : K.lookup f = some ⟨oc, od, .func (PySem.W.fnOf x x (defArgs st) (defBody st) (defScope st) .none kV doc pm an cdv ct), osl⟩) (c : PySem.W.codeIn K cdv x = true) (k : PySem.W.keepIn K (.ref f) = true) : DefAt K mg x st [] [] :=
  ⟨f, _, ⟨⟨oc, od, .none, kV, doc, pm, an, cdv, ct, osl, rfl, l, c, .inl ⟨rfl, rfl⟩, .inl rfl⟩, k⟩, PySem.W.mg_of X G a⟩
theorem KwdV.one {D : Addr} {y : Str} {v : V} {u : Value} {kws : List (Str × V)} (e : PySem.W.nsIn K D y = some (some u)) (r : RelV v u) (h : kws = [] ∨ KwdV K (.ref D) kws) : KwdV K (.ref D) ((y, v) :: kws) := by
  refine .inr ⟨D, rfl, fun q hq => ?_⟩
  rcases List.mem_cons.mp hq with rfl | hq
  · exact ⟨u, e, r⟩
  · rcases h with h | h | ⟨D', e', hh⟩
    · rw [h] at hq
      cases hq
    · rw [h] at hq
      cases hq
    · cases e'
      exact hh q hq
theorem dfl_mk {T : Addr} {c1 : Value} {e1 : Option Addr} {its : List Value} {n : Nat} {sl : Array (Option Value)} {dvs : List V} (l : K.lookup T = some ⟨c1, e1, .seq its.toArray n, sl⟩) (hd : dvs ≠ []) (r : Vals dvs its) : DflV K (.ref T) dvs :=
  .inr ⟨hd, T, _, its, n, rfl, l, rfl, r⟩
end
/-! ### what the laws draw by -/
def Drw (H : Hp) (m l : Addr) (b : Nat) : Prop := ∃ (c : Addr) (k : Nat) (cs ls : List Int), H m = some (.dK [(.inr "cells", .ref c), (.inr "left", .ref l), (.inr "spot", .int k)]) ∧ H c = some (.lst (cs.map V.int)) ∧ H l = some (.lst (ls.map V.int)) ∧
  c ≠ l ∧ k ≤ b ∧ cs.length = 64 ∧ (∀ x ∈ cs, 0 ≤ x ∧ x < 2147483648) ∧ ls.length ≤ 63
theorem Drw.mono {H : Hp} {m l : Addr} {b b' : Nat} (d : Drw H m l b) (h : b ≤ b') : Drw H m l b' := by
  obtain ⟨c, k, cs, ls, e1, e2, e3, e4, e5, e6⟩ := d
  exact ⟨c, k, cs, ls, e1, e2, e3, e4, Nat.le_trans e5 h, e6⟩
theorem Drw.same {H H' : Hp} {m l : Addr} {b : Nat} (d : Drw H m l b) (s : Same H H') : Drw H' m l b := by
  obtain ⟨c, k, cs, ls, e1, e2, e3, e4⟩ := d
  exact ⟨c, k, cs, ls, s _ _ e1, s _ _ e2, s _ _ e3, e4⟩
theorem Drw.m {H : Hp} {m l : Addr} {b : Nat} (d : Drw H m l b) : ∃ kvs, H m = some (.dK kvs) := by
  obtain ⟨c, k, cs, ls, e1, _⟩ := d
  exact ⟨_, e1⟩
theorem Drw.l {H : Hp} {m l : Addr} {b : Nat} (d : Drw H m l b) : ∃ xs, H l = some (.lst xs) := by
  obtain ⟨c, k, cs, ls, e1, e2, e3, _⟩ := d
  exact ⟨_, e3⟩
theorem Drw.ne {H : Hp} {m l : Addr} {b : Nat} (d : Drw H m l b) : m ≠ l := by
  obtain ⟨c, k, cs, ls, e1, e2, e3, _⟩ := d
  exact ne_of e1 e3 (by intro z; cases z)
theorem But.at {m l a : Addr} {H H' : Hp} {b : Nat} {o : HO} (h : But m l H H') (d : Drw H m l b) (e : H a = some o) (h1 : ∀ kvs, o ≠ .dK kvs) (h2 : ∀ xs, o ≠ .lst xs) : H' a = some o := by
  obtain ⟨kvs, em⟩ := d.m
  obtain ⟨xs, el⟩ := d.l
  exact h a o (ne_of e em (h1 kvs)) (ne_of e el (h2 xs)) e
theorem But.free {m l p : Addr} {H H' : Hp} {b : Nat} (h : But m l H H') (d' : Drw H' m l b) (e : H' p = none) : H p = none := by
  obtain ⟨kvs, em⟩ := d'.m
  obtain ⟨xs, el⟩ := d'.l
  have n1 : p ≠ m := fun z => by rw [z, em] at e; cases e
  have n2 : p ≠ l := fun z => by rw [z, el] at e; cases e
  cases q : H p with
  | none => rfl
  | some o =>
    rw [h p o n1 n2 q] at e
    cases e

theorem mem_set_of {α : Type} {x y : α} : ∀ {xs : List α} {i : Nat}, y ∈ xs.set i x → y = x ∨ y ∈ xs
  | [], _, h => by cases h
  | a :: xs, 0, h => by
    rcases List.mem_cons.mp h with h | h
    · exact .inl h
    · exact .inr (List.mem_cons_of_mem _ h)
  | a :: xs, i + 1, h => by
    rcases List.mem_cons.mp h with h | h
    · exact .inr (by rw [h]; exact List.mem_cons_self ..)
    · rcases mem_set_of (xs := xs) h with h | h
      · exact .inl h
      · exact .inr (List.mem_cons_of_mem _ h)
theorem ixN_int {n : Nat} {i : Int} (h0 : 0 ≤ i) (h1 : i < n) : ixN n i = some i.toNat := by
  unfold ixN
  rw [if_pos h0, if_pos h1]
section
variable {K : PySem.W.Frag} {a b : Addr} {xs ys : List V} {g : TG} {tb : TS} {D : Ends} {σ : L2.St} {H : Hp} {tt : TT} {te : TE} {vs : List Nat} {Q : VK}
end
theorem size_lt {n : Nat} (h : n ≤ 100000) : n < sizeLine := by
  rw [sizeLine_eq]
  omega
theorem size_le {n : Nat} (h : n ≤ 100000) : n ≤ sizeLine := Nat.le_of_lt (size_lt h)
section
variable {K : PySem.W.Frag} {H : Hp} {p : Addr} {xs : List V} {i : Int} {v : V} {Q : VK}
end
section
variable {X : Cx} {es : List Expr} {e : Expr} {t : TA} {u v : TE} {pos : Pos}
theorem pe_imp (h : PE X e u) (m : ∀ σ H Q, v σ H Q → u σ H Q) : PE X e v := ⟨fun pins s σ H Q I q => h.run pins s σ H Q I (m σ H Q q)⟩
end
section
variable {K : PySem.W.Frag} {a b : Addr} {xs ys : List V} {g : TG} {tb : TS} {D : Ends} {σ : L2.St} {H : Hp}
end
theorem But.lst {m l a : Addr} {H H' : Hp} {b : Nat} {xs : List V} (h : But m l H H') (d : Drw H m l b) (e : H a = some (.lst xs)) (hl : a ≠ l) : H' a = some (.lst xs) := by
  obtain ⟨kvs, em⟩ := d.m
  exact h a _ (ne_of e em (by intro z; cases z)) hl e
theorem DefOk.fin {P : Program} {w : World} {K : PySem.W.Frag} {mg : Str → Option Value} {CX : CXT} {k : Nat} {x y : Str} {st : Stmt} {sp : Sp} {fa : Addr} (d : DefAt K mg x st [] []) (hfa : mg x = some (.ref fa))
    (hb : ∀ (kV doc pm : Value) (an : Option Addr) (cdv ct : Value) (us : List Value), us.length = ([y] : List Str).length → bindArgs (PySem.W.fnOf x x (defArgs st) (defBody st) (defScope st) .none kV doc pm an cdv ct) ⟨us, []⟩ = pure (([y] : List Str).zip us))
    (h : ∀ base : Heap, DefOk P w K mg base CX k x st [] [] [y] sp) :
    ∃ fd : FuncData, (∀ (s : Shared) (v : Value), BindsTo s fd ⟨[v], []⟩ [(y, v)]) ∧ ∀ base : Heap, K.In base → base.Ns mainGlobals mg → FnOk P w K mg base CX k fa fd [y] sp := by
  obtain ⟨f, fd, F, m⟩ := d
  have e : f = fa := by
    rw [hfa] at m
    exact (Value.ref.inj (Option.some.inj m)).symm
  subst e
  refine ⟨fd, fun s v => FunD.bindsA F hb s [v] rfl, fun base _ _ => ?_⟩
  obtain ⟨f', fd', F', m', ok⟩ := h base
  have e' : f' = f := by
    rw [m] at m'
    exact (Value.ref.inj (Option.some.inj m')).symm
  subst e'
  have e2 : fd' = fd := by
    obtain ⟨_, _, _, _, _, _, _, _, _, _, _, l1, _⟩ := F.ex
    obtain ⟨_, _, _, _, _, _, _, _, _, _, _, l2, _⟩ := F'.ex
    rw [l1] at l2
    injection l2 with l2
    injection l2 with _ _ l2
    injection l2 with l2
    exact l2.symm
  subst e2
  exact ok
theorem gc_mk {K : PySem.W.Frag} {h : Heap} {mg : Str → Option Value} {x : Str} {u : Value} {v : V} (X : K.In h) (G : h.Ns mainGlobals mg) (e : PySem.W.nsIn K mainGlobals x = some (some u)) (r : RelV v u) : ∃ u, mg x = some u ∧ RelV v u :=
  ⟨u, PySem.W.mg_of X G e, r⟩
/-! ### classes -/
def MethAt (K : PySem.W.Frag) (C : Addr) (m qual : Str) (st : Stmt) (dvs : List V) (kws : List (Str × V)) : Prop := ∃ f fd, FD K m qual st dvs kws f fd ∧ Meth K C m f
def MethOk (P : Program) (w : World) (K : PySem.W.Frag) (mg : Str → Option Value) (base : Heap) (CX : CXT) (k : Nat) (C : Addr) (m qual : Str) (st : Stmt) (dvs : List V) (kws : List (Str × V)) (ps : List Str) (sp : Sp) : Prop :=
  ∃ f fd, FD K m qual st dvs kws f fd ∧ Meth K C m f ∧ FnOk P w K mg base CX k f fd ps sp
def InitAt (K : PySem.W.Frag) (C : Addr) (qual : Str) (st : Stmt) (dvs : List V) (kws : List (Str × V)) : Prop := ∃ f fd, FD K "__init__" qual st dvs kws f fd ∧ Mk K C f
def InitOk (P : Program) (w : World) (K : PySem.W.Frag) (mg : Str → Option Value) (base : Heap) (CX : CXT) (k : Nat) (C : Addr) (qual : Str) (st : Stmt) (dvs : List V) (kws : List (Str × V)) (ps : List Str) (sp : Sp) : Prop :=
  ∃ f fd, FD K "__init__" qual st dvs kws f fd ∧ Mk K C f ∧ FnOk P w K mg base CX k f fd ps sp
section
variable {P : Program} {w : World} {K : PySem.W.Frag} {mg : Str → Option Value} {base : Heap} {CX : CXT} {k : Nat} {m qual : Str} {st : Stmt} {dvs : List V} {kws : List (Str × V)} {ps : List Str} {sp : Sp} {C : Addr}
theorem MethAt.ok (h : MethAt K C m qual st dvs kws) (g : ∀ f fd, FD K m qual st dvs kws f fd → FnOk P w K mg base CX k f fd ps sp) : MethOk P w K mg base CX k C m qual st dvs kws ps sp := by
  obtain ⟨f, fd, F, z⟩ := h
  exact ⟨f, fd, F, z, g f fd F⟩
theorem InitAt.ok (h : InitAt K C qual st dvs kws) (g : ∀ f fd, FD K "__init__" qual st dvs kws f fd → FnOk P w K mg base CX k f fd ps sp) : InitOk P w K mg base CX k C qual st dvs kws ps sp := by
  obtain ⟨f, fd, F, z⟩ := h
  exact ⟨f, fd, F, z, g f fd F⟩
end
section
variable {X : Cx} {CX : CXT} {k n : Nat} {ps ks : List Str} {sp : Sp} {E : XK} {C : Addr} {x m qual : Str} {st : Stmt} {dvs : List V} {kvs : List (Str × V)} {p pos apos : Pos} {o e : Expr} {es : List Expr} {kws : List Keyword} {t tk : TA} {to : TE} {gV : List V → List V → List V}
end
/-! ### fields -/
def FldQ (K : PySem.W.Frag) (f : Str) (x : V) (H : Hp) (Q : VK) : Prop := ∃ a C dx fs v, x = .ref a ∧ H a = some (.ins C dx fs) ∧ Cls K C ∧ NoAttr K C f ∧ fs.lookup f = some v ∧ Q v H
section
variable {K : PySem.W.Frag} {f : Str} {a C dx : Addr} {fs fs' : List (Str × V)} {v y : V} {H : Hp} {Q : VK} {R : Hp → Prop}
theorem fldq_of (e : H a = some (.ins C dx fs)) (c : Cls K C) (n : NoAttr K C f) (l : fs.lookup f = some v) (q : Q v H) : FldQ K f (.ref a) H Q := ⟨a, C, dx, fs, v, rfl, e, c, n, l, q⟩
end
theorem tyx_sqt {K : PySem.W.Frag} {H : Hp} {a : Addr} {xs : List V} (h : SqT K H a xs) : TyX K H (.ref a) (.type "tuple") := by
  rcases h with (h | ⟨o, h⟩) | ⟨o, its, n, h1, h2, _⟩
  · exact .base (.tup h)
  · exact .fTuple h
  · exact .kTuple h1 h2
structure Sh where
  p : Int
  lo : Int
  hi : Int
def Sh.vs (s : Sh) : List V := [.int s.p, .int s.lo, .int s.hi]
structure Sh.Ok (s : Sh) : Prop where
  p1 : 2 ≤ s.p
  p2 : s.p ≤ 64
  l1 : -1100 ≤ s.lo
  l2 : s.lo ≤ 0
  h1 : s.lo ≤ s.hi
  h2 : s.hi ≤ 1000
structure Nm where
  sh : Sh
  side : Int
  bits : Int
  scale : Int
  st : Str
def Nm.fs (x : Nm) (t : Addr) : List (Str × V) := [("form", .ref t), ("side", .int x.side), ("bits", .int x.bits), ("scale", .int x.scale), ("state", .str x.st)]
structure Nm.Fin (x : Nm) : Prop where
  ok : x.sh.Ok
  s1 : 0 ≤ x.side
  s2 : x.side ≤ 1
  b1 : 0 ≤ x.bits
  b2 : x.bits < 2 ^ x.sh.p.toNat
  e1 : x.sh.lo ≤ x.scale
  e2 : x.scale ≤ x.sh.hi
  nm : x.sh.lo < x.scale → 2 ^ (x.sh.p - 1).toNat ≤ x.bits
  st : x.st = "finite"
inductive Nm.Ok (x : Nm) : Prop where
  | fin (h : x.Fin)
  | inf (h : x.sh.Ok) (s1 : 0 ≤ x.side) (s2 : x.side ≤ 1) (b : x.bits = 0) (e : x.scale = x.sh.lo) (st : x.st = "infinite")
  | nan (h : x.sh.Ok) (s : x.side = 0) (b : x.bits = 0) (e : x.scale = x.sh.lo) (st : x.st = "nan")
def IsNum (K : PySem.W.Frag) (C : Addr) (H : Hp) (a : Addr) (x : Nm) : Prop := ∃ dx t, H a = some (.ins C dx (x.fs t)) ∧ SqT K H t x.sh.vs
theorem IsNum.same {K : PySem.W.Frag} {C a : Addr} {H H' : Hp} {x : Nm} (h : IsNum K C H a x) (s : Same H H') : IsNum K C H' a x := by
  obtain ⟨dx, t, e1, e2⟩ := h
  exact ⟨dx, t, s _ _ e1, same_tup s e2⟩
structure NumCls (K : PySem.W.Frag) (C : Addr) : Prop where
  c : Cls K C
  n_form : NoAttr K C "form"
  n_side : NoAttr K C "side"
  n_bits : NoAttr K C "bits"
  n_scale : NoAttr K C "scale"
  n_state : NoAttr K C "state"
section
variable {K : PySem.W.Frag} {C a : Addr} {H : Hp} {x : Nm} {Q : VK}
theorem IsNum.form (h : IsNum K C H a x) (c : NumCls K C) (q : ∀ t, SqT K H t x.sh.vs → Q (.ref t) H) : FldQ K "form" (.ref a) H Q := by
  obtain ⟨dx, t, e1, e2⟩ := h
  exact fldq_of e1 c.c c.n_form rfl (q t e2)
theorem IsNum.side (h : IsNum K C H a x) (c : NumCls K C) (q : Q (.int x.side) H) : FldQ K "side" (.ref a) H Q := by
  obtain ⟨dx, t, e1, e2⟩ := h
  exact fldq_of e1 c.c c.n_side rfl q
theorem IsNum.bits (h : IsNum K C H a x) (c : NumCls K C) (q : Q (.int x.bits) H) : FldQ K "bits" (.ref a) H Q := by
  obtain ⟨dx, t, e1, e2⟩ := h
  exact fldq_of e1 c.c c.n_bits rfl q
theorem IsNum.scale (h : IsNum K C H a x) (c : NumCls K C) (q : Q (.int x.scale) H) : FldQ K "scale" (.ref a) H Q := by
  obtain ⟨dx, t, e1, e2⟩ := h
  exact fldq_of e1 c.c c.n_scale rfl q
theorem IsNum.state (h : IsNum K C H a x) (c : NumCls K C) (q : Q (.str x.st) H) : FldQ K "state" (.ref a) H Q := by
  obtain ⟨dx, t, e1, e2⟩ := h
  exact fldq_of e1 c.c c.n_state rfl q
end
section
variable {K : PySem.W.Frag} {C : Addr} {m qual : Str} {st : Stmt} {f : Addr} {oc dV : Value} {od an : Option Addr} {osl : Array (Option Value)} {kV doc pm cdv ct : Value} {dvs : List V} {kws : List (Str × V)}
theorem MethAt.mk (a : PySem.W.findIn K (.ref C) m = some (some (.ref f))) (i : PySem.W.isFn K (.ref f) = true)
    (l : K.lookup f = some ⟨oc, od, .func (PySem.W.fnOf m qual (defArgs st) (defBody st) (defScope st) dV kV doc pm an cdv ct), osl⟩) (c : PySem.W.codeIn K cdv qual = true) (k : PySem.W.keepIn K (.ref f) = true)
    (d : DflV K dV dvs) (w : KwdV K kV kws) : MethAt K C m qual st dvs kws := ⟨f, _, ⟨⟨oc, od, dV, kV, doc, pm, an, cdv, ct, osl, rfl, l, c, d, w⟩, k⟩, ⟨a, i, k⟩⟩
theorem InitAt.mk (a : PySem.W.findIn K (.ref C) "__init__" = some (some (.ref f))) (i : PySem.W.isFn K (.ref f) = true) (mk : PySem.W.makesIn K C = true) (kC : PySem.W.keepIn K (.ref C) = true)
    (l : K.lookup f = some ⟨oc, od, .func (PySem.W.fnOf "__init__" qual (defArgs st) (defBody st) (defScope st) dV kV doc pm an cdv ct), osl⟩) (c : PySem.W.codeIn K cdv qual = true) (k : PySem.W.keepIn K (.ref f) = true)
    (d : DflV K dV dvs) (w : KwdV K kV kws) : InitAt K C qual st dvs kws := ⟨f, _, ⟨⟨oc, od, dV, kV, doc, pm, an, cdv, ct, osl, rfl, l, c, d, w⟩, k⟩, ⟨mk, a, i, kC⟩⟩
theorem Cls.mk' (a : PySem.W.plainGet K C Str.empty = true) (b : PySem.W.hasDictIn K C = true) (c : PySem.W.plainOver K C = true) (d : PySem.W.findIn K (.ref C) "__setattr__" = some (some (.builtin "object.__setattr__"))) : Cls K C := ⟨a, b, c, d⟩
end
/-! ### whole numbers -/
def absI (i : Int) : Int := if i < 0 then -i else i
theorem wholeOf_parts (n : Int) {d : Int} (h : 0 < d) : ∃ q r, n = d * q + r ∧ 0 ≤ r ∧ r < d ∧ n / d = q ∧ n % d = r :=
  ⟨n / d, n % d, (Int.mul_ediv_add_emod n d).symm, Int.emod_nonneg _ (by omega), Int.emod_lt_of_pos _ h, rfl, rfl⟩
theorem parts_neg {n d q r : Int} (h : 0 < d) (e : n = d * q + r) (h0 : 0 ≤ r) (h1 : r < d) : (-n) / d = (if r = 0 then -q else -q - 1) ∧ (-n) % d = (if r = 0 then 0 else d - r) := by
  have key : ∀ q' r', -n = d * q' + r' → 0 ≤ r' → r' < d → (-n) / d = q' ∧ (-n) % d = r' := fun q' r' e' a b => by
    have e2 : -n = r' + d * q' := by omega
    constructor
    · rw [e2, Int.add_mul_ediv_left _ _ (by omega), Int.ediv_eq_zero_of_lt a b, Int.zero_add]
    · rw [e2, Int.add_mul_emod_self_left, Int.emod_eq_of_lt a b]
  by_cases z : r = 0
  · rw [if_pos z, if_pos z]
    refine key _ _ ?_ (by omega) (by omega)
    rw [e, Int.mul_neg]
    omega
  · rw [if_neg z, if_neg z]
    refine key _ _ ?_ (by omega) (by omega)
    rw [e, Int.mul_sub, Int.mul_neg]
    omega
theorem p2 (n : Nat) : (0 : Int) < 2 ^ n := PySem.W.kbt_pos n
theorem p2_add (a b : Nat) : (2 : Int) ^ (a + b) = 2 ^ a * 2 ^ b := Int.pow_add ..
theorem by_pow {d s o : Int} {N : Nat} (h : 0 ≤ o + N) : d * 2 ^ o.toNat ≤ s * 2 ^ (-o).toNat ↔ d * 2 ^ (o + N).toNat ≤ s * 2 ^ N := by
  rcases Int.lt_or_le o 0 with z | z
  · have e1 : o.toNat = 0 := by omega
    have e2 : N = (-o).toNat + (o + N).toNat := by omega
    rw [e1, Int.pow_zero, Int.mul_one]
    conv => rhs; rw [e2]
    rw [p2_add, ← Int.mul_assoc, show ((o : Int) + (((-o).toNat + (o + (N : Int)).toNat : Nat) : Int)).toNat = (o + N).toNat by omega]
    exact ⟨fun x => Int.mul_le_mul_of_nonneg_right x (Int.le_of_lt (p2 _)), fun x => Int.le_of_mul_le_mul_right x (p2 _)⟩
  · have e1 : (-o).toNat = 0 := by omega
    have e2 : (o + N).toNat = o.toNat + N := by omega
    rw [e1, Int.pow_zero, Int.mul_one, e2, p2_add, ← Int.mul_assoc]
    exact ⟨fun x => Int.mul_le_mul_of_nonneg_right x (Int.le_of_lt (p2 _)), fun x => Int.le_of_mul_le_mul_right x (p2 _)⟩
theorem by_pow' {d s o : Int} {N : Nat} (h : 0 ≤ o + N) : s * 2 ^ (-o).toNat < d * 2 ^ o.toNat ↔ s * 2 ^ N < d * 2 ^ (o + N).toNat := by
  have k := by_pow (d := d) (s := s) h
  constructor
  · intro x
    rcases Int.lt_or_le (s * 2 ^ N) (d * 2 ^ (o + N).toNat) with z | z
    · exact z
    · have := k.mpr z
      omega
  · intro x
    rcases Int.lt_or_le (s * 2 ^ (-o).toNat) (d * 2 ^ o.toNat) with z | z
    · exact z
    · have := k.mp z
      omega
theorem absI_pos {n : Int} (h : n ≠ 0) : 0 < absI n := by
  unfold absI
  split <;> omega
theorem pow_le_one (n : Nat) : (1 : Int) ≤ 2 ^ n := by
  have := p2 n
  omega
theorem p2_mono {a b : Nat} (h : a ≤ b) : (2 : Int) ^ a ≤ 2 ^ b := by
  obtain ⟨c, rfl⟩ := Nat.le.dest h
  rw [p2_add]
  have h1 := p2 a
  have h2 := Int.mul_le_mul_of_nonneg_left (pow_le_one c) (Int.le_of_lt h1)
  omega
theorem Drw.new {H : Hp} {m l p : Addr} {b : Nat} (d : Drw H m l b) (hp : H p = none) : p ≠ l := by
  obtain ⟨xs, e⟩ := d.l
  exact neR e hp
section
variable {K : PySem.W.Frag} {H : Hp} {a b : Addr} {xs ys : List V} {Q : VK}
end
def infN (sh : Sh) (side : Int) : Nm := ⟨sh, side, 0, sh.lo, "infinite"⟩
def finN (sh : Sh) (side bits scale : Int) : Nm := ⟨sh, side, bits, scale, "finite"⟩
def greatN (sh : Sh) (side : Int) : Nm := finN sh side (2 ^ sh.p.toNat - 1) sh.hi
section
variable {prog : Program} {w : World} {A : Around} {E : Value → Shared → Prop} {K : PySem.W.Frag} {s : Shared} {x C f : Addr} {ox : Obj} {od : Option Obj} {y : Value}
end
structure EqCls (K : PySem.W.Frag) (C : Addr) : Prop where
  ob : PySem.W.subIn K (.ref C) (.type "object") = some true
  ne : PySem.W.findIn K (.ref C) "__ne__" = some (some (.builtin "object.__ne__"))
section
variable {X : Cx} {CX : CXT} {k : Nat} {ps : List Str} {sp : Sp} {E : XK} {C : Addr} {qual : Str} {st : Stmt} {dvs : List V} {kvs : List (Str × V)} {gV : List V → List V → List V}
end
end DW
namespace DW
open PySem PySem.Spec PyProof.Rows L2

/-! ### deep data -/
inductive D where
  | non | bl (b : Bool) | int (i : Int) | str (x : Str) | ty (n : String) | cls (n : Str)
  | tup (l : List D) | lst (l : List D) | scr (l : List D) | dct (ks : List Key) (l : List D) | ins (n : Str) (ns : List Str) (l : List D)
  | ref (n : Nat)
  | xcp (n : Str) (ns : List Str) (l : List D)
  | xcl (n : Str)
inductive Ob where
  | lst (l : List D) | dct (ks : List Key) (l : List D) | ins (n : Str) (ns : List Str) (l : List D)
  /-- a dict whose keys are tuples of whole numbers and texts -/
  | dT (ks : List (List Key)) (l : List D)
  /-- a dict of which no more is known -/
  | odd
abbrev Sto := List Ob
abbrev Dl := List (Option D)
structure Xc where
  n : Str
  ns : List Str
  l : List D
structure Cc where
  K : PySem.W.Frag
  cl : Str → Option Addr
  /-- the tables of code objects, and the name of those in them -/
  T : List (Addr × Str) := []
  /-- the classes of exceptions -/
  xc : Str → Option Addr := fun _ => none
def FzL (c : Cc) (ρ : List Addr) (H : Hp) (a : Addr) (xs : List V) : Prop := (a ∉ ρ ∧ Rd H a (.lst xs)) ∨ ∃ (o : Obj) (its : Array Value) (n : Nat), c.K.lookup a = some o ∧ o.cls = .type "list" ∧ o.dict = none ∧ o.data = .seq its n ∧ its.size ≤ sizeLine ∧ Vals xs its.toList
def homV (xs : List V) : Bool := !(xs.any (fun | .str _ => true | _ => false) && xs.any (fun | .int _ => true | _ => false))
def FzT (c : Cc) (ρ : List Addr) (H : Hp) (a : Addr) (xs : List V) : Prop := (a ∉ ρ ∧ H a = some (.tup xs)) ∨ ∃ (o : Obj) (its : Array Value) (n : Nat), c.K.lookup a = some o ∧ o.cls = .type "tuple" ∧ o.data = .seq its n ∧ its.size ≤ sizeLine ∧ Vals xs its.toList ∧ homV xs = true
theorem FzL.sq {c : Cc} {ρ : List Addr} {H : Hp} {a : Addr} {xs : List V} (h : FzL c ρ H a xs) : SqL c.K H a xs := by
  rcases h with ⟨_, h⟩ | h
  · exact .inl h
  · exact .inr h
theorem FzT.sq {c : Cc} {ρ : List Addr} {H : Hp} {a : Addr} {xs : List V} (h : FzT c ρ H a xs) : SqT c.K H a xs := by
  rcases h with ⟨_, h⟩ | ⟨o, its, n, h1, h2, h3, h4, h5, _⟩
  · exact .inl (.inl h)
  · exact .inr ⟨o, its, n, h1, h2, h3, h4, h5⟩
def XO (C : Addr) (d : Option Addr) (a : Addr) : HO := .ext fun h => ∃ (oe : Obj) (vs : Array Value), h.get? a = some oe ∧ Zc (.ref C) d oe ∧ oe.data = .fields vs
mutual
def Dat (c : Cc) (ρ : List Addr) (H : Hp) : D → V → Prop
  | .non, v => v = .non
  | .bl b, v => v = .bl b
  | .int i, v => v = .int i
  | .str x, v => v = .str x
  | .ty n, v => v = .ty n
  | .cls n, v => ∃ C, c.cl n = some C ∧ v = .ref C
  | .tup l, v => ∃ a xs, v = .ref a ∧ FzT c ρ H a xs ∧ DatAll c ρ H l xs
  | .lst l, v => ∃ a xs, v = .ref a ∧ a ∉ ρ ∧ H a = some (.lst xs) ∧ DatAll c ρ H l xs
  | .scr l, v => ∃ a xs, v = .ref a ∧ FzL c ρ H a xs ∧ DatAll c ρ H l xs
  | .dct ks l, v => ∃ a xs, v = .ref a ∧ a ∉ ρ ∧ H a = some (.dK (ks.zip xs)) ∧ ks.length = l.length ∧ DatAll c ρ H l xs
  | .ins n ns l, v => ∃ a xs C dx, v = .ref a ∧ a ∉ ρ ∧ c.cl n = some C ∧ H a = some (.ins C dx (ns.zip xs)) ∧ ns.length = l.length ∧ DatAll c ρ H l xs
  | .ref n, v => ∃ a, v = .ref a ∧ ρ[n]? = some a
  | .xcp n ns l, v => ∃ a xs C dd, v = .ref a ∧ a ∉ ρ ∧ c.xc n = some C ∧ H a = some (XO C (some dd) a) ∧ dd ∉ ρ ∧ H dd = some (.xd (ns.zip xs)) ∧ ns.length = l.length ∧ DatAll c ρ H l xs
  | .xcl n, v => ∃ C, c.xc n = some C ∧ v = .ref C
def DatAll (c : Cc) (ρ : List Addr) (H : Hp) : List D → List V → Prop
  | [], xs => xs = []
  | d :: l, xs => ∃ x r, xs = x :: r ∧ Dat c ρ H d x ∧ DatAll c ρ H l r
end
def ObAt (c : Cc) (ρ : List Addr) (H : Hp) (a : Addr) : Ob → Prop
  | .lst l => ∃ xs, H a = some (.lst xs) ∧ DatAll c ρ H l xs
  | .dct ks l => ∃ xs, H a = some (.dK (ks.zip xs)) ∧ (ks.length = l.length ∧ ks.Nodup) ∧ DatAll c ρ H l xs
  | .ins n ns l => ∃ xs C dx, c.cl n = some C ∧ H a = some (.ins C dx (ns.zip xs)) ∧ (ns.length = l.length ∧ ns.Nodup) ∧ DatAll c ρ H l xs
  | .dT ks l => ∃ xs, H a = some (.dT (ks.zip xs)) ∧ (ks.length = l.length ∧ ks.Nodup) ∧ DatAll c ρ H l xs
  | .odd => ∃ φ : Heap → Prop, H a = some (.ext φ) ∧ ∀ h, φ h → ∃ o, h.get? a = some o ∧ o.cls = .type "dict"
structure Rep (c : Cc) (ρ : List Addr) (S : Sto) (H : Hp) : Prop where
  nd : ρ.Nodup
  len : ρ.length = S.length
  at_ : ∀ (n : Nat) (o : Ob), S[n]? = some o → ∃ a, ρ[n]? = some a ∧ ObAt c ρ H a o
structure Ext (ρ : List Addr) (H : Hp) (ρ' : List Addr) (H' : Hp) : Prop where
  pre : ∃ r, ρ' = ρ ++ r
  keep : ∀ a o, H a = some o → a ∉ ρ → H' a = some o ∧ a ∉ ρ'
theorem Ext.refl {ρ : List Addr} {H : Hp} : Ext ρ H ρ H := ⟨⟨[], by simp⟩, fun a o e h => ⟨e, h⟩⟩
theorem Ext.trans {ρ ρ1 ρ2 : List Addr} {H H1 H2 : Hp} (a : Ext ρ H ρ1 H1) (b : Ext ρ1 H1 ρ2 H2) : Ext ρ H ρ2 H2 := by
  obtain ⟨r1, e1⟩ := a.pre
  obtain ⟨r2, e2⟩ := b.pre
  refine ⟨⟨r1 ++ r2, by rw [e2, e1, List.append_assoc]⟩, fun x o e h => ?_⟩
  obtain ⟨e', h'⟩ := a.keep x o e h
  exact b.keep x o e' h'
section
variable {c : Cc} {ρ ρ' : List Addr} {H H' : Hp}
theorem Ext.get (x : Ext ρ H ρ' H') {n : Nat} {a : Addr} (h : ρ[n]? = some a) : ρ'[n]? = some a := by
  obtain ⟨r, e⟩ := x.pre
  rw [e, List.getElem?_append_left (List.getElem?_eq_some_iff.mp h).1]
  exact h
theorem Ext.rd (x : Ext ρ H ρ' H') {a : Addr} {u : HO} (hn : a ∉ ρ) (h : Rd H a u) : a ∉ ρ' ∧ Rd H' a u := by
  rcases h with h | ⟨o, h⟩
  · exact ⟨(x.keep _ _ h hn).2, .inl (x.keep _ _ h hn).1⟩
  · exact ⟨(x.keep _ _ h hn).2, .inr ⟨o, (x.keep _ _ h hn).1⟩⟩
theorem FzL.ext {a : Addr} {xs : List V} (h : FzL c ρ H a xs) (x : Ext ρ H ρ' H') : FzL c ρ' H' a xs := by
  rcases h with ⟨n, h⟩ | h
  · exact .inl (x.rd n h)
  · exact .inr h
theorem FzT.ext {a : Addr} {xs : List V} (h : FzT c ρ H a xs) (x : Ext ρ H ρ' H') : FzT c ρ' H' a xs := by
  rcases h with ⟨n, h⟩ | h
  · exact .inl ⟨(x.keep _ _ h n).2, (x.keep _ _ h n).1⟩
  · exact .inr h
mutual
theorem Dat.ext (x : Ext ρ H ρ' H') : ∀ (d : D) {v : V}, Dat c ρ H d v → Dat c ρ' H' d v
  | .non, _, h => h
  | .bl _, _, h => h
  | .int _, _, h => h
  | .str _, _, h => h
  | .ty _, _, h => h
  | .cls _, _, h => h
  | .tup l, _, h => by
    simp only [Dat] at h ⊢
    obtain ⟨a, xs, e, f, q⟩ := h
    exact ⟨a, xs, e, f.ext x, DatAll.ext x l q⟩
  | .lst l, _, h => by
    simp only [Dat] at h ⊢
    obtain ⟨a, xs, e, f, g, q⟩ := h
    exact ⟨a, xs, e, (x.keep _ _ g f).2, (x.keep _ _ g f).1, DatAll.ext x l q⟩
  | .scr l, _, h => by
    simp only [Dat] at h ⊢
    obtain ⟨a, xs, e, f, q⟩ := h
    exact ⟨a, xs, e, f.ext x, DatAll.ext x l q⟩
  | .dct ks l, _, h => by
    simp only [Dat] at h ⊢
    obtain ⟨a, xs, e, f, g, hl, q⟩ := h
    exact ⟨a, xs, e, (x.keep _ _ g f).2, (x.keep _ _ g f).1, hl, DatAll.ext x l q⟩
  | .ins n ns l, _, h => by
    simp only [Dat] at h ⊢
    obtain ⟨a, xs, C, dx, e, f, hC, g, hl, q⟩ := h
    exact ⟨a, xs, C, dx, e, (x.keep _ _ g f).2, hC, (x.keep _ _ g f).1, hl, DatAll.ext x l q⟩
  | .ref n, _, h => by
    simp only [Dat] at h ⊢
    obtain ⟨a, e, q⟩ := h
    exact ⟨a, e, x.get q⟩
  | .xcp n ns l, _, h => by
    simp only [Dat] at h ⊢
    obtain ⟨a, xs, C, dd, e, f, hC, g, f2, g2, hl, q⟩ := h
    exact ⟨a, xs, C, dd, e, (x.keep _ _ g f).2, hC, (x.keep _ _ g f).1, (x.keep _ _ g2 f2).2, (x.keep _ _ g2 f2).1, hl, DatAll.ext x l q⟩
  | .xcl _, _, h => h
theorem DatAll.ext (x : Ext ρ H ρ' H') : ∀ (l : List D) {vs : List V}, DatAll c ρ H l vs → DatAll c ρ' H' l vs
  | [], _, h => h
  | d :: l, _, h => by
    simp only [DatAll] at h ⊢
    obtain ⟨y, r, e, h1, h2⟩ := h
    exact ⟨y, r, e, Dat.ext x d h1, DatAll.ext x l h2⟩
end
theorem DatAll.length : ∀ {l : List D} {vs : List V}, DatAll c ρ H l vs → vs.length = l.length
  | [], _, h => by
    simp only [DatAll] at h
    subst h
    rfl
  | d :: l, _, h => by
    simp only [DatAll] at h
    obtain ⟨y, r, rfl, h1, h2⟩ := h
    simp [DatAll.length h2]
theorem DatAll.cons {d : D} {l : List D} {v : V} {vs : List V} (h : Dat c ρ H d v) (t : DatAll c ρ H l vs) : DatAll c ρ H (d :: l) (v :: vs) := by
  simp only [DatAll]
  exact ⟨v, vs, rfl, h, t⟩
theorem DatAll.nil : DatAll c ρ H [] [] := by simp only [DatAll]
theorem DatAll.get : ∀ {l : List D} {vs : List V} {i : Nat} {d : D}, DatAll c ρ H l vs → l[i]? = some d → ∃ v, vs[i]? = some v ∧ Dat c ρ H d v
  | [], _, _, _, _, e => by simp at e
  | d :: l, vs, 0, d', h, e => by
    simp only [DatAll] at h
    obtain ⟨y, r, rfl, h1, h2⟩ := h
    simp at e
    subst e
    exact ⟨y, rfl, h1⟩
  | d :: l, vs, i + 1, d', h, e => by
    simp only [DatAll] at h
    obtain ⟨y, r, rfl, h1, h2⟩ := h
    have e' : l[i]? = some d' := by simpa using e
    obtain ⟨v, q1, q2⟩ := DatAll.get h2 e'
    exact ⟨v, by simpa using q1, q2⟩
theorem DatAll.append : ∀ {l l' : List D} {vs vs' : List V}, DatAll c ρ H l vs → DatAll c ρ H l' vs' → DatAll c ρ H (l ++ l') (vs ++ vs')
  | [], _, _, _, h, q => by
    simp only [DatAll] at h
    subst h
    exact q
  | d :: l, l', vs, vs', h, q => by
    simp only [DatAll] at h
    obtain ⟨y, r, rfl, h1, h2⟩ := h
    exact .cons h1 (DatAll.append h2 q)
theorem DatAll.set : ∀ {l : List D} {vs : List V} {d : D} {v : V} (i : Nat), DatAll c ρ H l vs → Dat c ρ H d v → DatAll c ρ H (l.set i d) (vs.set i v)
  | [], _, _, _, _, h, _ => by
    simp only [DatAll] at h
    subst h
    exact .nil
  | d :: l, vs, d', v', 0, h, q => by
    simp only [DatAll] at h
    obtain ⟨y, r, rfl, h1, h2⟩ := h
    exact .cons q h2
  | d :: l, vs, d', v', i + 1, h, q => by
    simp only [DatAll] at h
    obtain ⟨y, r, rfl, h1, h2⟩ := h
    exact .cons h1 (DatAll.set i h2 q)
theorem DatAll.take : ∀ {l : List D} {vs : List V} (i : Nat), DatAll c ρ H l vs → DatAll c ρ H (l.take i) (vs.take i)
  | [], _, _, h => by
    simp only [DatAll] at h
    subst h
    simp only [List.take_nil]
    exact .nil
  | d :: l, vs, 0, h => by
    simp only [List.take_zero]
    exact .nil
  | d :: l, vs, i + 1, h => by
    simp only [DatAll] at h
    obtain ⟨y, r, rfl, h1, h2⟩ := h
    exact .cons h1 (DatAll.take i h2)
theorem DatAll.drop : ∀ {l : List D} {vs : List V} (i : Nat), DatAll c ρ H l vs → DatAll c ρ H (l.drop i) (vs.drop i)
  | [], _, _, h => by
    simp only [DatAll] at h
    subst h
    simp only [List.drop_nil]
    exact .nil
  | d :: l, vs, 0, h => by
    simp only [List.drop_zero]
    exact h
  | d :: l, vs, i + 1, h => by
    simp only [DatAll] at h
    obtain ⟨y, r, rfl, h1, h2⟩ := h
    exact DatAll.drop i h2
end
/-! ### slots -/
structure Loc (c : Cc) (ρ : List Addr) (H : Hp) (δ : Dl) (σ : L2.St) : Prop where
  len : δ.length = σ.length
  at_ : ∀ (i : Nat) (d : D), δ[i]? = some (some d) → ∃ v, σ[i]? = some (some v) ∧ Dat c ρ H d v
section
variable {c : Cc} {ρ ρ' : List Addr} {H H' : Hp} {δ : Dl} {σ : L2.St}
theorem Loc.ext (h : Loc c ρ H δ σ) (x : Ext ρ H ρ' H') : Loc c ρ' H' δ σ := ⟨h.len, fun i d e => by
  obtain ⟨v, e1, e2⟩ := h.at_ i d e
  exact ⟨v, e1, Dat.ext x d e2⟩⟩
theorem Loc.set (h : Loc c ρ H δ σ) {d : D} {v : V} (i : Nat) (q : Dat c ρ H d v) : Loc c ρ H (δ.set i (some d)) (σ.set i (some v)) := by
  refine ⟨by rw [List.length_set, List.length_set]; exact h.len, fun j d' e => ?_⟩
  rw [List.getElem?_set] at e ⊢
  by_cases hij : i = j
  · subst hij
    by_cases hi : i < δ.length
    · simp [hi] at e
      subst e
      have hi' : i < σ.length := by rw [← h.len]; exact hi
      exact ⟨v, by simp [hi'], q⟩
    · simp [hi] at e
  · simp only [if_neg hij] at e ⊢
    exact h.at_ j d' e
theorem Loc.start {ds : List D} {vs : List V} (n : Nat) (h : DatAll c ρ H ds vs) : Loc c ρ H (ds.map some ++ List.replicate n none) (vs.map some ++ List.replicate n none) := by
  refine ⟨by simp [h.length], fun i d e => ?_⟩
  by_cases hi : i < ds.length
  · rw [List.getElem?_append_left (by simpa using hi), List.getElem?_map] at e
    cases q : ds[i]? with
    | none =>
      rw [q] at e
      cases e
    | some d' =>
      rw [q] at e
      cases e
      obtain ⟨v, e1, e2⟩ := h.get q
      refine ⟨v, ?_, e2⟩
      rw [List.getElem?_append_left (by simpa [h.length] using hi), List.getElem?_map, e1]
      rfl
  · rw [List.getElem?_append_right (by simpa using hi), List.getElem?_replicate] at e
    split at e <;> cases e
end
/-! ### results -/
inductive R (α : Type) where
  | ok (a : α) (s : Sto) | ex (e : Xc) (s : Sto) | bad
def R.bind {α β : Type} (r : R α) (f : α → Sto → R β) : R β := match r with
  | .ok a s => f a s
  | .ex e s => .ex e s
  | .bad => .bad
def wp {α : Type} (r : R α) (Q : α → Sto → Prop) (E : Xc → Sto → Prop) : Prop := match r with
  | .ok a s => Q a s
  | .ex e s => E e s
  | .bad => False
open Classical in
noncomputable def R.chk {α : Type} (p : Prop) (r : R α) : R α := if p then r else .bad
section
variable {α β : Type} {r : R α} {f : α → Sto → R β} {Q Q' : α → Sto → Prop} {E E' : Xc → Sto → Prop} {a : α} {s : Sto} {e : Xc} {p : Prop}
theorem bind_ok : (R.ok a s).bind f = f a s := rfl
theorem wp_ok : wp (R.ok a s) Q E = Q a s := rfl
theorem wp_bad : wp (R.bad : R α) Q E = False := rfl
theorem wp_bind {Q : β → Sto → Prop} : wp (r.bind f) Q E = wp r (fun a s => wp (f a s) Q E) E := by cases r <;> rfl
theorem wp_chk : wp (R.chk p r) Q E = (p ∧ wp r Q E) := by
  unfold R.chk
  by_cases h : p
  · simp [h]
  · simp [h, wp]
theorem wp_mono (h : wp r Q E) (q : ∀ a s, Q a s → Q' a s) (x : ∀ e s, E e s → E' e s) : wp r Q' E' := by
  cases r with
  | ok a s => exact q a s h
  | ex e s => exact x e s h
  | bad => exact h
theorem chk_pos (h : p) : R.chk p r = r := if_pos h
theorem wp_ite [Decidable p] {r' : R α} : wp (if p then r else r') Q E = if p then wp r Q E else wp r' Q E := by split <;> rfl
end
inductive RS where
  | nx (δ : Dl) (s : Sto) | rt (d : D) (s : Sto) | ex (e : Xc) (δ : Dl) (s : Sto) | bad
def wpS (r : RS) (N : Dl → Sto → Prop) (T : D → Sto → Prop) (E : Xc → Dl → Sto → Prop) : Prop := match r with
  | .nx δ s => N δ s
  | .rt d s => T d s
  | .ex e δ s => E e δ s
  | .bad => False
def R.go {α : Type} (r : R α) (δ : Dl) (f : α → Sto → RS) : RS := match r with
  | .ok a s => f a s
  | .ex e s => .ex e δ s
  | .bad => .bad
def RS.seq (r : RS) (f : Dl → Sto → RS) : RS := match r with
  | .nx δ s => f δ s
  | .rt d s => .rt d s
  | .ex e δ s => .ex e δ s
  | .bad => .bad
section
variable {α : Type} {r : R α} {q : RS} {δ : Dl} {s : Sto} {f : α → Sto → RS} {g : Dl → Sto → RS} {N N' : Dl → Sto → Prop} {T T' : D → Sto → Prop} {E E' : Xc → Dl → Sto → Prop} {p : Prop} {d : D} {e : Xc} {a : α}
theorem wpS_go : wpS (r.go δ f) N T E = wp r (fun a s => wpS (f a s) N T E) (fun e s => E e δ s) := by cases r <;> rfl
theorem wpS_seq : wpS (q.seq g) N T E = wpS q (fun δ s => wpS (g δ s) N T E) T E := by cases q <;> rfl
theorem wpS_nx : wpS (.nx δ s) N T E = N δ s := rfl
theorem wpS_rt : wpS (.rt d s) N T E = T d s := rfl
theorem wpS_bad : wpS .bad N T E = False := rfl
theorem wpS_mono (h : wpS q N T E) (n : ∀ δ s, N δ s → N' δ s) (t : ∀ d s, T d s → T' d s) (x : ∀ e δ s, E e δ s → E' e δ s) : wpS q N' T' E' := by
  cases q with
  | nx δ s => exact n δ s h
  | rt d s => exact t d s h
  | ex e δ s => exact x e δ s h
  | bad => exact h
theorem wpS_ite [Decidable p] {q' : RS} : wpS (if p then q else q') N T E = if p then wpS q N T E else wpS q' N T E := by split <;> rfl
end
/-! ### readings of deep data: G, a part of the heap, is what the data speak of; all else stays -/
def TabG (G H : Hp) (P : Addr) (q : Str) : Prop := G P = none ∧ ∃ ps : Array Value, H P = some (.tbl ps) ∧ TriplesOk ps.toList ∧ ∀ (pos : Pos) (cv : Value), codeAmong pos ps.toList = some cv → ∃ b, cv = .ref b ∧ G b = none ∧ H b = some (LamX.CodeO b q)
def NoTab (o : HO) : Prop := (∀ ps, o ≠ .tbl ps) ∧ ∀ b q, o ≠ LamX.CodeO b q
structure Sub (c : Cc) (G H : Hp) : Prop where
  at_ : ∀ a o, G a = some o → H a = some o
  nt : ∀ a o, G a = some o → NoTab o
  tb : ∀ p ∈ c.T, TabG G H p.1 p.2
instance {c : Cc} {G H : Hp} : CoeFun (Sub c G H) (fun _ => ∀ a o, G a = some o → H a = some o) := ⟨Sub.at_⟩
structure Go (c : Cc) (ρ : List Addr) (G H : Hp) (ρ' : List Addr) (G' H' : Hp) : Prop where
  sub : Sub c G' H'
  fr : ∀ a o, H a = some o → G a = none → (∀ ps, o ≠ .tbl ps) → H' a = some o ∧ G' a = none
  ext : Ext ρ G ρ' G'
theorem TabG.of {G H G' H' : Hp} {P : Addr} {q : Str} (t : TabG G H P q) (h : ∀ a o, H a = some o → G a = none → ((∃ ps, o = .tbl ps) ∨ ∃ b q, o = LamX.CodeO b q) → H' a = some o ∧ G' a = none) : TabG G' H' P q := by
  obtain ⟨g, ps, h1, h2, h3⟩ := t
  obtain ⟨e1, e2⟩ := h P _ h1 g (.inl ⟨ps, rfl⟩)
  refine ⟨e2, ps, e1, h2, fun pos cv hc => ?_⟩
  obtain ⟨b, e3, e4, e5⟩ := h3 pos cv hc
  exact ⟨b, e3, (h b _ e5 e4 (.inr ⟨b, q, rfl⟩)).2, (h b _ e5 e4 (.inr ⟨b, q, rfl⟩)).1⟩
theorem Go.mk' {c : Cc} {ρ ρ' : List Addr} {G H G' H' : Hp} (s : Sub c G H) (a : ∀ a o, G' a = some o → H' a = some o) (n : ∀ a o, G' a = some o → NoTab o) (f : ∀ a o, H a = some o → G a = none → H' a = some o ∧ G' a = none) (x : Ext ρ G ρ' G') : Go c ρ G H ρ' G' H' :=
  ⟨⟨a, n, fun p hp => (s.tb p hp).of fun b o e h _ => f b o e h⟩, fun b o e h _ => f b o e h, x⟩
theorem Go.stay {c : Cc} {ρ ρ' : List Addr} {G H G' H' : Hp} (g : Go c ρ G H ρ' G' H') {a : Addr} {o : HO} (e : H a = some o) (h : G a = none) (n : ∀ ps, o ≠ .tbl ps) : H' a = some o ∧ G' a = none := g.fr a o e h n
theorem Go.refl {c : Cc} {ρ : List Addr} {G H : Hp} (s : Sub c G H) : Go c ρ G H ρ G H := ⟨s, fun _ _ e h _ => ⟨e, h⟩, Ext.refl⟩
theorem Go.trans {c : Cc} {ρ ρ1 ρ2 : List Addr} {G H G1 H1 G2 H2 : Hp} (a : Go c ρ G H ρ1 G1 H1) (b : Go c ρ1 G1 H1 ρ2 G2 H2) : Go c ρ G H ρ2 G2 H2 := ⟨b.sub, fun x o e h n => by
  obtain ⟨e1, h1⟩ := a.fr x o e h n
  exact b.fr x o e1 h1 n, a.ext.trans b.ext⟩
def DatX (c : Cc) (ρ : List Addr) (H : Hp) (e : Xc) (cls : Value) (d : Option Addr) : Prop := ∃ C, c.xc e.n = some C ∧ cls = .ref C ∧ ∃ a xs, d = some a ∧ a ∉ ρ ∧ H a = some (.xd (e.ns.zip xs)) ∧ e.ns.length = e.l.length ∧ DatAll c ρ H e.l xs
def kE (c : Cc) (ρ : List Addr) (G H : Hp) (Q : VK) : D → Sto → Prop := fun d S' => ∀ v ρ' G' H', Rep c ρ' S' G' → Go c ρ G H ρ' G' H' → Dat c ρ' G' d v → Q v H'
def kA (c : Cc) (ρ : List Addr) (G H : Hp) (Q : List V → Hp → Prop) : List D → Sto → Prop := fun ds S' => ∀ vs ρ' G' H', Rep c ρ' S' G' → Go c ρ G H ρ' G' H' → DatAll c ρ' G' ds vs → Q vs H'
def kT (c : Cc) (ρ : List Addr) (G H : Hp) (Q : Bool → Hp → Prop) : Bool → Sto → Prop := fun b S' => ∀ ρ' G' H', Rep c ρ' S' G' → Go c ρ G H ρ' G' H' → Q b H'
def kX (c : Cc) (ρ : List Addr) (G H : Hp) (W : Value → Option Addr → Hp → Prop) : Xc → Sto → Prop := fun e S' => ∀ ρ' G' H' cls d, Rep c ρ' S' G' → Go c ρ G H ρ' G' H' → DatX c ρ' G' e cls d → W cls d H'
def kN (c : Cc) (ρ : List Addr) (G H : Hp) (N : L2.St → Hp → Prop) : Dl → Sto → Prop := fun δ' S' => ∀ σ' ρ' G' H', Rep c ρ' S' G' → Go c ρ G H ρ' G' H' → Loc c ρ' G' δ' σ' → N σ' H'
def kXS (c : Cc) (ρ : List Addr) (G H : Hp) (W : WX) : Xc → Dl → Sto → Prop := fun e δ' S' => ∀ σ' ρ' G' H' cls d, Rep c ρ' S' G' → Go c ρ G H ρ' G' H' → Loc c ρ' G' δ' σ' → DatX c ρ' G' e cls d → W cls d σ' H'
def kF (c : Cc) (ρ : List Addr) (G H : Hp) (Q : VK) : List D → Sto → Prop := fun l S' => ∀ a xs ρ' G' H', Rep c ρ' S' G' → Go c ρ G H ρ' G' H' → (∀ o, H a = some o → G a = none → (∀ ps, o ≠ .tbl ps) → False) → G' a = none → H' a = some (.lst xs) → DatAll c ρ' G' l xs → Q (.ref a) H'
abbrev FE := Dl → Sto → R D
abbrev FA := Dl → Sto → R (List D)
abbrev FT := Dl → Sto → R Bool
abbrev FS := Dl → Sto → RS
def tD (c : Cc) (W : WX) (f : FE) : TE := fun σ H Q => ∃ δ S ρ G, Sub c G H ∧ Loc c ρ G δ σ ∧ Rep c ρ S G ∧ wp (f δ S) (kE c ρ G H Q) (kX c ρ G H fun cls d H' => W cls d σ H')
def tF (c : Cc) (W : WX) (f : FA) : TE := fun σ H Q => ∃ δ S ρ G, Sub c G H ∧ Loc c ρ G δ σ ∧ Rep c ρ S G ∧ wp (f δ S) (kF c ρ G H Q) (kX c ρ G H fun cls d H' => W cls d σ H')
def tDA (c : Cc) (W : WX) (f : FA) : TA := fun σ H Q => ∃ δ S ρ G, Sub c G H ∧ Loc c ρ G δ σ ∧ Rep c ρ S G ∧ wp (f δ S) (kA c ρ G H Q) (kX c ρ G H fun cls d H' => W cls d σ H')
def tDT (c : Cc) (W : WX) (f : FT) : TT := fun σ H Q => ∃ δ S ρ G, Sub c G H ∧ Loc c ρ G δ σ ∧ Rep c ρ S G ∧ wp (f δ S) (kT c ρ G H Q) (kX c ρ G H fun cls d H' => W cls d σ H')
def tDS (c : Cc) (W : WX) (f : FS) : TS := fun D σ H => ∃ δ S ρ G, Sub c G H ∧ Loc c ρ G δ σ ∧ Rep c ρ S G ∧ wpS (f δ S) (kN c ρ G H D.nx) (kE c ρ G H D.rt) (kXS c ρ G H W)
abbrev DE (c : Cc) (X : Cx) (W : WX) (e : Expr) (f : FE) : Prop := PE X e (tD c W f)
abbrev DF (c : Cc) (X : Cx) (W : WX) (e : Expr) (f : FA) : Prop := PE X e (tF c W f)
abbrev DA (c : Cc) (X : Cx) (W : WX) (es : List Expr) (f : FA) : Prop := PA X es (tDA c W f)
abbrev DK (c : Cc) (X : Cx) (W : WX) (es : List Keyword) (f : FA) : Prop := PK X es (tDA c W f)
abbrev DT (c : Cc) (X : Cx) (W : WX) (e : Expr) (f : FT) : Prop := PT X e (tDT c W f)
abbrev DW_ (c : Cc) (X : Cx) (W : WX) (e : Expr) (f : FT) : Prop := PW X e (tDT c W f)
abbrev DS (c : Cc) (X : Cx) (W : WX) (st : Stmt) (f : FS) : Prop := PS X st (tDS c W f)
abbrev DSs (c : Cc) (X : Cx) (W : WX) (st : List Stmt) (f : FS) : Prop := PSs X st (tDS c W f)
section
variable {c : Cc} {ρ ρ' : List Addr} {G G' H H' : Hp} {S : Sto}
theorem kE.go {Q : VK} {d : D} (h : kE c ρ G H Q d S) (x : Go c ρ G H ρ' G' H') : kE c ρ' G' H' Q d S := fun v ρ2 G2 H2 r e q => h v ρ2 G2 H2 r (x.trans e) q
theorem kF.go {Q : VK} {d : List D} (h : kF c ρ G H Q d S) (x : Go c ρ G H ρ' G' H') : kF c ρ' G' H' Q d S := fun a xs ρ2 G2 H2 r e n q => h a xs ρ2 G2 H2 r (x.trans e) (fun o e1 e2 e3 => n _ (x.fr a o e1 e2 e3).1 (x.fr a o e1 e2 e3).2 e3) q
theorem kA.go {Q : List V → Hp → Prop} {d : List D} (h : kA c ρ G H Q d S) (x : Go c ρ G H ρ' G' H') : kA c ρ' G' H' Q d S := fun v ρ2 G2 H2 r e q => h v ρ2 G2 H2 r (x.trans e) q
theorem kT.go {Q : Bool → Hp → Prop} {d : Bool} (h : kT c ρ G H Q d S) (x : Go c ρ G H ρ' G' H') : kT c ρ' G' H' Q d S := fun ρ2 G2 H2 r e => h ρ2 G2 H2 r (x.trans e)
theorem kX.go {W : Value → Option Addr → Hp → Prop} {d : Xc} (h : kX c ρ G H W d S) (x : Go c ρ G H ρ' G' H') : kX c ρ' G' H' W d S := fun ρ2 G2 H2 cls d r e q => h ρ2 G2 H2 cls d r (x.trans e) q
theorem kN.go {N : L2.St → Hp → Prop} {d : Dl} (h : kN c ρ G H N d S) (x : Go c ρ G H ρ' G' H') : kN c ρ' G' H' N d S := fun v ρ2 G2 H2 r e q => h v ρ2 G2 H2 r (x.trans e) q
theorem kXS.go {W : WX} {e : Xc} {d : Dl} (h : kXS c ρ G H W e d S) (x : Go c ρ G H ρ' G' H') : kXS c ρ' G' H' W e d S := fun v ρ2 G2 H2 cls dd r e q p => h v ρ2 G2 H2 cls dd r (x.trans e) q p
theorem wpE_go {Q : VK} {W : Value → Option Addr → Hp → Prop} {r : R D} (h : wp r (kE c ρ G H Q) (kX c ρ G H W)) (x : Go c ρ G H ρ' G' H') : wp r (kE c ρ' G' H' Q) (kX c ρ' G' H' W) := wp_mono h (fun _ _ q => q.go x) fun _ _ q => q.go x
theorem wpF_go {Q : VK} {W : Value → Option Addr → Hp → Prop} {r : R (List D)} (h : wp r (kF c ρ G H Q) (kX c ρ G H W)) (x : Go c ρ G H ρ' G' H') : wp r (kF c ρ' G' H' Q) (kX c ρ' G' H' W) := wp_mono h (fun _ _ q => q.go x) fun _ _ q => q.go x
theorem wpT_go {Q : Bool → Hp → Prop} {W : Value → Option Addr → Hp → Prop} {r : R Bool} (h : wp r (kT c ρ G H Q) (kX c ρ G H W)) (x : Go c ρ G H ρ' G' H') : wp r (kT c ρ' G' H' Q) (kX c ρ' G' H' W) := wp_mono h (fun _ _ q => q.go x) fun _ _ q => q.go x
theorem wpS_goE {N : L2.St → Hp → Prop} {T : VK} {W : WX} {r : RS} (h : wpS r (kN c ρ G H N) (kE c ρ G H T) (kXS c ρ G H W)) (x : Go c ρ G H ρ' G' H') : wpS r (kN c ρ' G' H' N) (kE c ρ' G' H' T) (kXS c ρ' G' H' W) := wpS_mono h (fun _ _ q => q.go x) (fun _ _ q => q.go x) fun _ _ _ q => q.go x
theorem Sub.free (s : Sub c G H) {p : Addr} (h : H p = none) : G p = none := by
  cases e : G p with
  | none => rfl
  | some o =>
    rw [s p o e] at h
    cases h
theorem Sub.rd (s : Sub c G H) {a : Addr} {u : HO} (h : Rd G a u) : Rd H a u := by
  rcases h with h | ⟨o, h⟩
  · exact .inl (s _ _ h)
  · exact .inr ⟨o, s _ _ h⟩
theorem Sub.sqL {K : PySem.W.Frag} (s : Sub c G H) {a : Addr} {xs : List V} (h : SqL K G a xs) : SqL K H a xs := by
  rcases h with h | h
  · exact .inl (s.rd h)
  · exact .inr h
theorem Sub.sqT {K : PySem.W.Frag} (s : Sub c G H) {a : Addr} {xs : List V} (h : SqT K G a xs) : SqT K H a xs := by
  rcases h with h | h
  · exact .inl (s.rd h)
  · exact .inr h
end
end DW
namespace DW
open PySem PySem.Spec PyProof.Rows L2
/-! ### heaps under a store -/
theorem ndx {ρ : List Addr} (hN : ρ.Nodup) {i j : Nat} {x : Addr} (a : ρ[i]? = some x) (b : ρ[j]? = some x) : i = j := by
  obtain ⟨h1, e1⟩ := List.getElem?_eq_some_iff.mp a
  obtain ⟨h2, e2⟩ := List.getElem?_eq_some_iff.mp b
  exact (List.getElem_inj hN).mp (e1.trans e2.symm)
section
variable {c : Cc} {ρ : List Addr} {S : Sto} {H : Hp} {p a : Addr} {o : HO}
theorem ObAt.has {ob : Ob} (h : ObAt c ρ H a ob) : ∃ o, H a = some o := by
  cases ob with
  | lst l => obtain ⟨xs, e, _⟩ := h; exact ⟨_, e⟩
  | dct ks l => obtain ⟨xs, e, _⟩ := h; exact ⟨_, e⟩
  | dT ks l => obtain ⟨xs, e, _⟩ := h; exact ⟨_, e⟩
  | odd => obtain ⟨φ, e, _⟩ := h; exact ⟨_, e⟩
  | ins n ns l => obtain ⟨xs, C, dx, _, e, _⟩ := h; exact ⟨_, e⟩
theorem Rep.has (r : Rep c ρ S H) (h : a ∈ ρ) : ∃ o, H a = some o := by
  obtain ⟨n, hn, e⟩ := List.getElem_of_mem h
  obtain ⟨b, e1, e2⟩ := r.at_ n (S[n]'(by rw [← r.len]; exact hn)) (List.getElem?_eq_getElem _)
  rw [List.getElem?_eq_getElem hn] at e1
  have : a = b := by rw [← e]; exact Option.some.inj e1
  subst this
  exact e2.has
theorem Rep.fresh (r : Rep c ρ S H) (h : H p = none) : p ∉ ρ := fun z => by
  obtain ⟨o, e⟩ := r.has z
  rw [h] at e
  cases e
theorem Ext.new (h : H p = none) : Ext ρ H ρ (upd H p o) := ⟨⟨[], by simp⟩, fun b ob e hb => ⟨look_new e h, hb⟩⟩
theorem ObAt.ext {ρ' : List Addr} {H' : Hp} {ob : Ob} (h : ObAt c ρ H a ob) (x : Ext ρ H ρ' H') (k : ∀ o, H a = some o → H' a = some o) : ObAt c ρ' H' a ob := by
  cases ob with
  | lst l => obtain ⟨xs, e, q⟩ := h; exact ⟨xs, k _ e, DatAll.ext x _ q⟩
  | dct ks l => obtain ⟨xs, e, hl, q⟩ := h; exact ⟨xs, k _ e, hl, DatAll.ext x _ q⟩
  | dT ks l => obtain ⟨xs, e, hl, q⟩ := h; exact ⟨xs, k _ e, hl, DatAll.ext x _ q⟩
  | odd => obtain ⟨φ, e, q⟩ := h; exact ⟨φ, k _ e, q⟩
  | ins n ns l => obtain ⟨xs, C, dx, hC, e, hl, q⟩ := h; exact ⟨xs, C, dx, hC, k _ e, hl, DatAll.ext x _ q⟩
theorem Rep.new (r : Rep c ρ S H) (h : H p = none) : Rep c ρ S (upd H p o) := ⟨r.nd, r.len, fun n ob e => by
  obtain ⟨b, e1, e2⟩ := r.at_ n ob e
  exact ⟨b, e1, e2.ext (Ext.new h) fun o' q => look_new q h⟩⟩
theorem Ext.same {H' : Hp} (s : Same H H') : Ext ρ H ρ H' := ⟨⟨[], by simp⟩, fun b ob e hb => ⟨s _ _ e, hb⟩⟩
theorem Rep.same {H' : Hp} (r : Rep c ρ S H) (s : Same H H') : Rep c ρ S H' := ⟨r.nd, r.len, fun n ob e => by
  obtain ⟨b, e1, e2⟩ := r.at_ n ob e
  exact ⟨b, e1, e2.ext (Ext.same s) fun o' q => s _ _ q⟩⟩
theorem Ext.alloc {H' : Hp} (s : Same H H') (h : H p = none) : Ext ρ H (ρ ++ [p]) H' := ⟨⟨[p], rfl⟩, fun b ob e hb => ⟨s _ _ e, fun z => by
  rcases List.mem_append.mp z with z | z
  · exact hb z
  · have : b = p := by simpa using z
    rw [this, h] at e
    cases e⟩⟩
theorem Rep.alloc {H' : Hp} {ob : Ob} (r : Rep c ρ S H) (s : Same H H') (h : H p = none) (n : ObAt c (ρ ++ [p]) H' p ob) : Rep c (ρ ++ [p]) (S ++ [ob]) H' := by
  refine ⟨?_, by simp [r.len], fun m o' e => ?_⟩
  · rw [List.nodup_append]
    refine ⟨r.nd, by simp, fun x hx y hy z => ?_⟩
    have : y = p := by simpa using hy
    subst this
    subst z
    exact r.fresh h hx
  · by_cases hm : m < S.length
    · rw [List.getElem?_append_left hm] at e
      obtain ⟨b, e1, e2⟩ := r.at_ m o' e
      refine ⟨b, ?_, e2.ext (Ext.alloc s h) fun o' q => s _ _ q⟩
      rw [List.getElem?_append_left (by rw [r.len]; exact hm)]
      exact e1
    · have e3 := (List.getElem?_eq_some_iff.mp e).1
      have : m = S.length := by simp at e3; omega
      subst this
      rw [List.getElem?_append_right (Nat.le_refl _)] at e
      simp at e
      subst e
      refine ⟨p, ?_, n⟩
      rw [← r.len, List.getElem?_append_right (Nat.le_refl _)]
      simp
theorem Ext.write {n : Nat} (h : ρ[n]? = some a) : Ext ρ H ρ (upd H a o) := ⟨⟨[], by simp⟩, fun b ob e hb => ⟨look_mut (fun z => hb (by rw [z]; exact List.mem_of_getElem? h)) e, hb⟩⟩
theorem Rep.write {n : Nat} {ob : Ob} (r : Rep c ρ S H) (h : ρ[n]? = some a) (w : ObAt c ρ (upd H a o) a ob) : Rep c ρ (S.set n ob) (upd H a o) := by
  refine ⟨r.nd, by rw [List.length_set]; exact r.len, fun m o' e => ?_⟩
  rw [List.getElem?_set] at e
  by_cases hm : n = m
  · subst hm
    have hn : n < S.length := by rw [← r.len]; exact (List.getElem?_eq_some_iff.mp h).1
    simp [hn] at e
    subst e
    exact ⟨a, h, w⟩
  · rw [if_neg hm] at e
    obtain ⟨b, e1, e2⟩ := r.at_ m o' e
    refine ⟨b, e1, e2.ext (Ext.write h) fun o' q => look_mut (fun z => hm ?_) q⟩
    subst z
    exact ndx r.nd h e1
end
theorem Go.new {c : Cc} {ρ : List Addr} {G H : Hp} {p : Addr} {o : HO} (s : Sub c G H) (h : H p = none) (no : NoTab o := by (first | assumption | exact ⟨(by intro _ z; cases z), (by intro _ _ z; unfold LamX.CodeO at z; cases z)⟩)) : Go c ρ G H ρ (upd G p o) (upd H p o) := .mk' s (fun a ob e => by
  by_cases z : a = p
  · subst z
    rw [upd_same] at e ⊢
    exact e
  · rw [upd_ne z] at e ⊢
    exact s a ob e) (fun a ob e => by
  by_cases z : a = p
  · rw [z, upd_same] at e
    cases e
    exact no
  · rw [upd_ne z] at e
    exact s.nt a ob e) (fun a ob e hg => by
  have z : a ≠ p := ne_of_none e h
  exact ⟨look_new e h, by rw [upd_ne z]; exact hg⟩) (Ext.new (s.free h))
theorem Go.alloc {c : Cc} {ρ : List Addr} {G H : Hp} {p : Addr} {o : HO} (s : Sub c G H) (h : H p = none) (no : NoTab o := by (first | assumption | exact ⟨(by intro _ z; cases z), (by intro _ _ z; unfold LamX.CodeO at z; cases z)⟩)) : Go c ρ G H (ρ ++ [p]) (upd G p o) (upd H p o) := ⟨(Go.new (ρ := ρ) s h no).sub, (Go.new (ρ := ρ) s h no).fr, Ext.alloc (same_new (s.free h)) (s.free h)⟩
theorem Go.write {c : Cc} {ρ : List Addr} {G H : Hp} {a : Addr} {o ob : HO} {n : Nat} (s : Sub c G H) (h : ρ[n]? = some a) (hg : G a = some ob) (no : NoTab o := by (first | assumption | exact ⟨(by intro _ z; cases z), (by intro _ _ z; unfold LamX.CodeO at z; cases z)⟩)) : Go c ρ G H ρ (upd G a o) (upd H a o) := .mk' s (fun b o' e => by
  by_cases z : b = a
  · subst z
    rw [upd_same] at e ⊢
    exact e
  · rw [upd_ne z] at e ⊢
    exact s b o' e) (fun b ob e => by
  by_cases z : b = a
  · rw [z, upd_same] at e
    cases e
    exact no
  · rw [upd_ne z] at e
    exact s.nt b ob e) (fun b o' e q => by
  have z : b ≠ a := fun z => by rw [z, hg] at q; cases q
  exact ⟨by rw [upd_ne z]; exact e, by rw [upd_ne z]; exact q⟩) (Ext.write h)
theorem Go.keep {c : Cc} {ρ : List Addr} {G H H' : Hp} (s : Sub c G H) (k : Same H H') : Go c ρ G H ρ G H' := .mk' s (fun a o e => k _ _ (s a o e)) s.nt (fun a o e h => ⟨k _ _ e, h⟩) Ext.refl
theorem Go.take {c : Cc} {ρ : List Addr} {G H : Hp} {a : Addr} {xs : List V} (s : Sub c G H) (h : G a = none) (e : H a = some (.lst xs)) : Sub c (upd G a (.lst xs)) H := ⟨fun b ob q => by
  by_cases z : b = a
  · subst z
    rw [upd_same] at q
    rw [e]
    exact q
  · rw [upd_ne z] at q
    exact s b ob q, fun b ob q => by
  by_cases z : b = a
  · rw [z, upd_same] at q
    cases q
    (first | assumption | exact ⟨(by intro _ z; cases z), (by intro _ _ z; unfold LamX.CodeO at z; cases z)⟩)
  · rw [upd_ne z] at q
    exact s.nt b ob q, fun p hp => (s.tb p hp).of fun b o eb hb n => by
  have z : b ≠ a := fun z => by
    rw [z, e] at eb
    cases eb
    rcases n with ⟨_, n⟩ | ⟨_, _, n⟩
    · cases n
    · unfold LamX.CodeO at n
      cases n
  exact ⟨eb, by rw [upd_ne z]; exact hb⟩⟩
theorem Go.poke {c : Cc} {ρ ρ' : List Addr} {G H G' H' : Hp} {L : Addr} {xs : List V} {o : HO} (t : Go c ρ G H ρ' G' H') (hL : H L = none) (gL : G' L = none) (eL : H' L = some (.lst xs)) : Go c ρ G H ρ' G' (upd H' L o) := ⟨⟨fun a o e => by
  have na : a ≠ L := fun z => by
    rw [z, gL] at e
    cases e
  rw [upd_ne na]
  exact t.sub a o e, t.sub.nt, fun p hp => (t.sub.tb p hp).of fun b o eb hb n => by
  have z : b ≠ L := fun z => by
    rw [z, eL] at eb
    cases eb
    rcases n with ⟨_, n⟩ | ⟨_, _, n⟩
    · cases n
    · unfold LamX.CodeO at n
      cases n
  exact ⟨by rw [upd_ne z]; exact eb, hb⟩⟩, fun a o e hg n => by
  have na : a ≠ L := fun z => by
    rw [z, hL] at e
    cases e
  rw [upd_ne na]
  exact t.fr a o e hg n, t.ext⟩
theorem Go.lay {c : Cc} {ρ ρ1 ρ2 : List Addr} {G H G1 H1 : Hp} {p : Addr} {u o : HO} (t : Go c ρ G H ρ1 G1 H1) (hp : H p = none) (gp : G1 p = none) (ep : H1 p = some u) (n1 : ∀ ps, u ≠ .tbl ps) (n2 : ∀ b q, u ≠ LamX.CodeO b q) (x : Ext ρ1 G1 ρ2 (upd G1 p o)) (no : NoTab o := by (first | assumption | exact ⟨(by intro _ z; cases z), (by intro _ _ z; unfold LamX.CodeO at z; cases z)⟩)) : Go c ρ G H ρ2 (upd G1 p o) (upd H1 p o) := ⟨⟨fun b o e => by
  by_cases z : b = p
  · subst z
    rw [upd_same] at e ⊢
    exact e
  · rw [upd_ne z] at e ⊢
    exact t.sub b o e, fun b ob e => by
  by_cases z : b = p
  · rw [z, upd_same] at e
    cases e
    exact no
  · rw [upd_ne z] at e
    exact t.sub.nt b ob e, fun q hq => (t.sub.tb q hq).of fun b o eb hb n => by
  have z : b ≠ p := fun z => by
    rw [z, ep] at eb
    cases eb
    rcases n with ⟨_, n⟩ | ⟨_, _, n⟩
    · exact n1 _ n
    · exact n2 _ _ n
  exact ⟨by rw [upd_ne z]; exact eb, by rw [upd_ne z]; exact hb⟩⟩, fun b o e hg n => by
  have z : b ≠ p := ne_of_none e hp
  rw [upd_ne z, upd_ne z]
  exact t.fr b o e hg n, t.ext.trans x⟩
/-! ### sequencing -/
def Op2 (c : Cc) (r : R2) (g : D → D → Sto → R D) : Prop := ∀ ρ S G H d1 d2 v1 v2 Q W, Sub c G H → Rep c ρ S G → Dat c ρ G d1 v1 → Dat c ρ G d2 v2 → wp (g d1 d2 S) (kE c ρ G H Q) (kX c ρ G H W) → r v1 v2 H Q
def Op1 (c : Cc) (r : V → Hp → VK → Prop) (g : D → Sto → R D) : Prop := ∀ ρ S G H d v Q W, Sub c G H → Rep c ρ S G → Dat c ρ G d v → wp (g d S) (kE c ρ G H Q) (kX c ρ G H W) → r v H Q
section
variable {c : Cc} {W : WX} {σ : L2.St} {H : Hp}
theorem tD_1 {fa : FE} {g : D → Sto → R D} {Q : VK} {r : V → Hp → VK → Prop} (s : Op1 c r g) (h : tD c W (fun δ S => (fa δ S).bind g) σ H Q) : tD c W fa σ H (fun x H1 => r x H1 Q) := by
  obtain ⟨δ, S, ρ, G, sb, hl, hr, h⟩ := h
  refine ⟨δ, S, ρ, G, sb, hl, hr, ?_⟩
  rw [wp_bind] at h
  refine wp_mono h (fun d1 S1 h1 v ρ1 G1 H1 r1 e1 dv => ?_) (fun _ _ z => z)
  exact s ρ1 S1 G1 H1 d1 v Q _ e1.sub r1 dv (wpE_go h1 e1)
theorem tD_2 {fa fb : FE} {g : D → D → Sto → R D} {Q : VK} {r : R2} (s : Op2 c r g)
    (h : tD c W (fun δ S => (fa δ S).bind fun x S => (fb δ S).bind fun y S => g x y S) σ H Q) : tD c W fa σ H (fun x H1 => tD c W fb σ H1 (fun y H2 => r x y H2 Q)) := by
  obtain ⟨δ, S, ρ, G, sb, hl, hr, h⟩ := h
  refine ⟨δ, S, ρ, G, sb, hl, hr, ?_⟩
  rw [wp_bind] at h
  refine wp_mono h (fun d1 S1 h1 v1 ρ1 G1 H1 r1 e1 dv1 => ?_) (fun _ _ z => z)
  refine ⟨δ, S1, ρ1, G1, e1.sub, hl.ext e1.ext, r1, ?_⟩
  rw [wp_bind] at h1
  refine wp_mono h1 (fun d2 S2 h2 v2 ρ2 G2 H2 r2 e2 dv2 => ?_) (fun _ _ z => z.go e1)
  exact s ρ2 S2 G2 H2 d1 d2 v1 v2 Q _ e2.sub r2 (Dat.ext e2.ext d1 dv1) dv2 (wpE_go (wpE_go h2 e1) e2)
end
/-! ### names, constants -/
def eVar (i : Nat) : FE := fun δ S => match δ[i]? with
  | some (some d) => .ok d S
  | _ => .bad
def eC (d : D) : FE := fun _ S => .ok d S
section
variable {c : Cc} {X : Cx} {W : WX}
theorem de_var {i : Nat} {e : Expr} (h : PE X e (tVar i)) : DE c X W e (eVar i) := pe_imp h fun σ H Q q => by
  obtain ⟨δ, S, ρ, G, sb, hl, hr, q⟩ := q
  unfold eVar at q
  split at q
  · rename_i d e
    obtain ⟨v, e1, e2⟩ := hl.at_ i d e
    exact ⟨v, e1, q v ρ G H hr (Go.refl sb) e2⟩
  · exact q.elim
theorem de_c {e : Expr} {v : V} {d : D} (h : PE X e (tC v)) (hd : ∀ ρ H, Dat c ρ H d v) : DE c X W e (eC d) := pe_imp h fun σ H Q q => by
  obtain ⟨δ, S, ρ, G, sb, hl, hr, q⟩ := q
  exact q v ρ G H hr (Go.refl sb) (hd _ _)
theorem de_int {i j pos} : DE c X W (.Constant (.int i) j pos) (eC (.int i)) := de_c pe_int fun _ _ => by simp only [Dat]
theorem de_bl {b j pos} : DE c X W (.Constant (.bool b) j pos) (eC (.bl b)) := de_c pe_bl fun _ _ => by simp only [Dat]
theorem de_non {j pos} : DE c X W (.Constant .none j pos) (eC .non) := de_c pe_non fun _ _ => by simp only [Dat]
theorem de_str {x j pos} : DE c X W (.Constant (.str x) j pos) (eC (.str x)) := de_c pe_str fun _ _ => by simp only [Dat]
theorem de_ty {e : Expr} {n : String} (h : PE X e (tC (.ty n))) : DE c X W e (eC (.ty n)) := de_c h fun _ _ => by simp only [Dat]
end
/-! ### two operands -/
def e2 (g : D → D → Sto → R D) (fa fb : FE) : FE := fun δ S => (fa δ S).bind fun x S => (fb δ S).bind fun y S => g x y S
def e1 (g : D → Sto → R D) (fa : FE) : FE := fun δ S => (fa δ S).bind g
section
variable {c : Cc} {X : Cx} {W : WX} {a b : Expr} {fa fb : FE} {pos : Pos} {g : D → D → Sto → R D}
theorem de_op {op : Operator} {r : R2} (ho : OpR X (binaryOp op) r) (s : Op2 c r g) (ha : DE c X W a fa) (hb : DE c X W b fb) : DE c X W (.BinOp a op b pos) (e2 g fa fb) := pe_imp (pe_op ho ha hb) fun σ H Q q => tD_2 s q
theorem de_cmp {op : CmpOp} {r : R2} (ho : OpR X (compareOp op) r) (s : Op2 c r g) (ha : DE c X W a fa) (hb : DE c X W b fb) (hm : behindInMarks op b = false) : DE c X W (.Compare a [op] [b] pos) (e2 g fa fb) := pe_imp (pe_cmpR ho ha hb hm) fun σ H Q q => tD_2 s q
theorem de_ix_ {r : R2} (ho : IxR X r) (s : Op2 c r g) (ha : DE c X W a fa) (hb : DE c X W b fb) (hs : PlainIx b) : DE c X W (.Subscript a b pos) (e2 g fa fb) := pe_imp (pe_ix ho ha hb hs) fun σ H Q q => tD_2 s q
end
def orR (r r' : R2) : R2 := fun x y H Q => r x y H Q ∨ r' x y H Q
theorem OpR.or {X : Cx} {f : Value → Value → Sem Value} {r r' : R2} (h : OpR X f r) (h' : OpR X f r') : OpR X f (orR r r') := fun pins s σ H x y v u Q I rx ry q => by
  rcases q with q | q
  · exact h pins s σ H x y v u Q I rx ry q
  · exact h' pins s σ H x y v u Q I rx ry q
end DW
namespace DW
open PySem PySem.Spec PyProof.Rows L2
/-! ### what the data are worth -/
def D.seq (S : Sto) : D → Option (List D)
  | .tup l => some l
  | .lst l => some l
  | .scr l => some l
  | .ref n => match S[n]? with
    | some (.lst l) => some l
    | _ => none
  | _ => none
def D.lseq (S : Sto) : D → Option (List D)
  | .lst l => some l
  | .ref n => match S[n]? with
    | some (.lst l) => some l
    | _ => none
  | _ => none
section
variable {c : Cc} {ρ : List Addr} {S : Sto} {H : Hp} {d : D} {v : V} {l : List D}
theorem dat_ref {n : Nat} {ob : Ob} (r : Rep c ρ S H) (h : Dat c ρ H (.ref n) v) (e : S[n]? = some ob) : ∃ a, v = .ref a ∧ ρ[n]? = some a ∧ ObAt c ρ H a ob := by
  simp only [Dat] at h
  obtain ⟨a, e1, e2⟩ := h
  obtain ⟨b, e3, e4⟩ := r.at_ n ob e
  rw [e2] at e3
  cases e3
  exact ⟨a, e1, e2, e4⟩
theorem D.lseq_lst (r : Rep c ρ S H) (h : Dat c ρ H d v) (e : d.lseq S = some l) : ∃ a xs, v = .ref a ∧ H a = some (.lst xs) ∧ DatAll c ρ H l xs := by
  cases d with
  | lst m =>
    simp only [Dat] at h
    obtain ⟨a, xs, e1, _, e2, e3⟩ := h
    cases e
    exact ⟨a, xs, e1, e2, e3⟩
  | ref n =>
    unfold D.lseq at e
    dsimp only at e
    split at e
    · rename_i m q
      cases e
      obtain ⟨a, e1, _, xs, e2, e3⟩ := dat_ref r h q
      exact ⟨a, xs, e1, e2, e3⟩
    · cases e
  | _ => cases e
theorem D.seq_sq (r : Rep c ρ S H) (h : Dat c ρ H d v) (e : d.seq S = some l) : ∃ a xs, v = .ref a ∧ (SqL c.K H a xs ∨ SqT c.K H a xs) ∧ DatAll c ρ H l xs := by
  cases d with
  | tup m =>
    simp only [Dat] at h
    obtain ⟨a, xs, e1, e2, e3⟩ := h
    cases e
    exact ⟨a, xs, e1, .inr e2.sq, e3⟩
  | lst m =>
    simp only [Dat] at h
    obtain ⟨a, xs, e1, _, e2, e3⟩ := h
    cases e
    exact ⟨a, xs, e1, .inl (.of e2), e3⟩
  | scr m =>
    simp only [Dat] at h
    obtain ⟨a, xs, e1, e2, e3⟩ := h
    cases e
    exact ⟨a, xs, e1, .inl e2.sq, e3⟩
  | ref n =>
    unfold D.seq at e
    dsimp only at e
    split at e
    · rename_i m q
      cases e
      obtain ⟨a, e1, _, xs, e2, e3⟩ := dat_ref r h q
      exact ⟨a, xs, e1, .inl (.of e2), e3⟩
    · cases e
  | _ => cases e
end
/-! ### arithmetic -/
noncomputable def addD : D → D → Sto → R D
  | .int i, .int j, S => .ok (.int (i + j)) S
  | .str x, .str y, S => .chk (x.length + y.length ≤ sizeLine) (.ok (.str (x ++ y)) S)
  | .tup l, .tup m, S => .chk (l.length + m.length ≤ sizeLine) (.ok (.tup (l ++ m)) S)
  | _, _, _ => .bad
def intOp (g : Int → Int → D) : D → D → Sto → R D
  | .int i, .int j, S => .ok (g i j) S
  | _, _, _ => .bad
noncomputable def intOpC (C : Int → Int → Prop) (g : Int → Int → D) : D → D → Sto → R D
  | .int i, .int j, S => .chk (C i j) (.ok (g i j) S)
  | _, _, _ => .bad
noncomputable abbrev subD := intOp fun i j => .int (i - j)
noncomputable abbrev mulD := intOpC CMulC fun i j => .int (i * j)
noncomputable abbrev fdivD := intOpC CDivC fun i j => .int (i / j)
noncomputable abbrev modD := intOpC (fun _ j => 0 < j) fun i j => .int (i % j)
noncomputable abbrev powD := intOpC CPow fun i j => .int (i ^ j.toNat)
noncomputable abbrev ltD := intOp fun i j => .bl (decide (i < j))
noncomputable abbrev leD := intOp fun i j => .bl (decide (i ≤ j))
noncomputable abbrev gtD := intOp fun i j => .bl (decide (i > j))
noncomputable abbrev geD := intOp fun i j => .bl (decide (i ≥ j))
def DV : D → Option V
  | .non => some .non
  | .bl b => some (.bl b)
  | .int i => some (.int i)
  | .str x => some (.str x)
  | .ty n => some (.ty n)
  | _ => none
section
variable {c : Cc} {X : Cx} {W : WX}
theorem op2_int0 {g : Int → Int → D} {gv : Int → Int → V} (h : ∀ i j, DV (g i j) = some (gv i j)) : Op2 c (rI0 gv) (intOp g) := fun ρ S G H d1 d2 v1 v2 Q W sb r h1 h2 q => by
  cases d1 with
  | int i =>
    cases d2 with
    | int j =>
      simp only [Dat] at h1 h2
      refine ⟨i, j, h1, h2, q _ ρ G H r (Go.refl sb) ?_⟩
      have z := h i j
      revert z
      generalize g i j = d
      intro z
      cases d <;> first | (cases z; done) | (simp only [DV, Option.some.injEq] at z; rw [← z]; simp only [Dat])
    | _ => exact q.elim
  | _ => exact q.elim
theorem op2_intC {C : Int → Int → Prop} {g : Int → Int → D} {gv : Int → Int → V} (h : ∀ i j, DV (g i j) = some (gv i j)) : Op2 c (rI C gv) (intOpC C g) := fun ρ S G H d1 d2 v1 v2 Q W sb r h1 h2 q => by
  cases d1 with
  | int i =>
    cases d2 with
    | int j =>
      simp only [Dat] at h1 h2
      simp only [intOpC, wp_chk] at q
      refine ⟨i, j, h1, h2, q.1, q.2 _ ρ G H r (Go.refl sb) ?_⟩
      have z := h i j
      revert z
      generalize g i j = d
      intro z
      cases d <;> first | (cases z; done) | (simp only [DV, Option.some.injEq] at z; rw [← z]; simp only [Dat])
    | _ => exact q.elim
  | _ => exact q.elim
variable {a b : Expr} {fa fb : FE} {pos : Pos}
theorem de_sub (ha : DE c X W a fa) (hb : DE c X W b fb) : DE c X W (.BinOp a .Sub b pos) (e2 subD fa fb) := de_op op_sub (op2_int0 fun _ _ => rfl) ha hb
theorem de_mul (ha : DE c X W a fa) (hb : DE c X W b fb) : DE c X W (.BinOp a .Mult b pos) (e2 mulD fa fb) := de_op op_mulC (op2_intC fun _ _ => rfl) ha hb
theorem de_fdiv (ha : DE c X W a fa) (hb : DE c X W b fb) : DE c X W (.BinOp a .FloorDiv b pos) (e2 fdivD fa fb) := de_op op_fdivC (op2_intC fun _ _ => rfl) ha hb
theorem de_mod (ha : DE c X W a fa) (hb : DE c X W b fb) : DE c X W (.BinOp a .Mod b pos) (e2 modD fa fb) := de_op op_mod (op2_intC fun _ _ => rfl) ha hb
theorem de_pow (ha : DE c X W a fa) (hb : DE c X W b fb) : DE c X W (.BinOp a .Pow b pos) (e2 powD fa fb) := de_op op_pow (op2_intC fun _ _ => rfl) ha hb
def negD : D → Sto → R D
  | .int i, S => .ok (.int (-i)) S
  | _, _ => .bad
theorem DatAll.ne {ρ : List Addr} {H : Hp} {l : List D} {xs : List V} (h : DatAll c ρ H l xs) (e : l ≠ []) : xs ≠ [] := fun z => by
  have := h.length
  rw [z] at this
  exact e (List.eq_nil_of_length_eq_zero this.symm)
theorem Dat.newT {ρ : List Addr} {H : Hp} {p : Addr} {l : List D} {xs : List V} {S : Sto} (r : Rep c ρ S H) (hp : H p = none) (h : DatAll c ρ H l xs) : Dat c ρ (upd H p (.tup xs)) (.tup l) (.ref p) := by
  simp only [Dat]
  exact ⟨p, xs, rfl, .inl ⟨r.fresh hp, upd_same⟩, DatAll.ext (Ext.new hp) l h⟩
theorem Dat.newL {ρ : List Addr} {H : Hp} {p : Addr} {l : List D} {xs : List V} {S : Sto} (r : Rep c ρ S H) (hp : H p = none) (h : DatAll c ρ H l xs) : Dat c ρ (upd H p (.lst xs)) (.lst l) (.ref p) := by
  simp only [Dat]
  exact ⟨p, xs, rfl, r.fresh hp, upd_same, DatAll.ext (Ext.new hp) l h⟩
theorem op2_add (hK : X.K = c.K) : Op2 c (orR (rI0 fun i j => .int (i + j)) (orR (fun x y H Q => ∃ i j, x = .str i ∧ y = .str j ∧ i.length + j.length ≤ sizeLine ∧ Q (.str (i ++ j)) H) (rCatA X.K))) addD := fun ρ S G H d1 d2 v1 v2 Q W sb r h1 h2 q => by
  unfold addD at q
  split at q
  · rename_i i j
    simp only [Dat] at h1 h2
    exact .inl ⟨i, j, h1, h2, q _ ρ G H r (Go.refl sb) (by simp only [Dat])⟩
  · rename_i i j
    simp only [Dat] at h1 h2
    simp only [wp_chk] at q
    exact .inr (.inl ⟨i, j, h1, h2, q.1, q.2 _ ρ G H r (Go.refl sb) (by simp only [Dat])⟩)
  · rename_i l m
    simp only [wp_chk] at q
    simp only [Dat] at h1 h2
    obtain ⟨a, xs, e1, f1, t1⟩ := h1
    obtain ⟨b, ys, e2, f2, t2⟩ := h2
    refine .inr (.inr ⟨a, b, xs, ys, e1, e2, by rw [hK]; exact sb.sqT f1.sq, by rw [hK]; exact sb.sqT f2.sq, by rw [t1.length, t2.length]; exact q.1, fun z => ?_, fun _ z => ?_, fun _ z p hp => ?_⟩)
    · refine q.2 _ ρ G H r (Go.refl sb) ?_
      have hm : l = [] := by
        have := t1.length
        rw [z] at this
        exact List.eq_nil_of_length_eq_zero this.symm
      subst hm
      rw [List.nil_append]
      simp only [Dat]
      exact ⟨b, ys, rfl, f2, t2⟩
    · refine q.2 _ ρ G H r (Go.refl sb) ?_
      have hm : m = [] := by
        have := t2.length
        rw [z] at this
        exact List.eq_nil_of_length_eq_zero this.symm
      subst hm
      rw [List.append_nil]
      simp only [Dat]
      exact ⟨a, xs, rfl, f1, t1⟩
    · exact q.2 _ ρ _ _ (r.new (sb.free hp)) (Go.new sb hp) (Dat.newT r (sb.free hp) (t1.append t2))
  · exact q.elim
theorem de_add (ha : DE c X W a fa) (hb : DE c X W b fb) (hK : X.K = c.K := by rfl) : DE c X W (.BinOp a .Add b pos) (e2 addD fa fb) := de_op (OpR.or op_add (OpR.or op_add_str op_catA)) (op2_add hK) ha hb
end
end DW
namespace DW
open PySem PySem.Spec PyProof.Rows L2
section
variable {X : Cx} {e : Expr} {es : List Expr} {kws : List Keyword} {st : Stmt} {sts : List Stmt}
theorem pa_imp {u v : TA} (h : PA X es u) (m : ∀ σ H Q, v σ H Q → u σ H Q) : PA X es v := ⟨fun pos pins s σ H Q I q => h.run pos pins s σ H Q I (m σ H Q q)⟩
theorem pk_imp {u v : TA} (h : PK X kws u) (m : ∀ σ H Q, v σ H Q → u σ H Q) : PK X kws v := ⟨fun pos pins s σ H Q I q => h.run pos pins s σ H Q I (m σ H Q q)⟩
theorem pt_imp {u v : TT} (h : PT X e u) (m : ∀ σ H Q, v σ H Q → u σ H Q) : PT X e v := ⟨fun pins s σ H Q I q => h.run pins s σ H Q I (m σ H Q q)⟩
theorem pw_imp {u v : TT} (h : PW X e u) (m : ∀ σ H Q, v σ H Q → u σ H Q) : PW X e v := ⟨fun w pins s σ H Q I q => h.run w pins s σ H Q I (m σ H Q q)⟩
theorem ps_imp {u v : TS} (h : PS X st u) (m : ∀ D σ H, v D σ H → u D σ H) : PS X st v := ⟨fun pins s σ H D I q => h.run pins s σ H D I (m D σ H q)⟩
theorem pss_imp {u v : TS} (h : PSs X sts u) (m : ∀ D σ H, v D σ H → u D σ H) : PSs X sts v := ⟨fun pins s σ H D I q => h.run pins s σ H D I (m D σ H q)⟩
end
/-! ### several in a row -/
def aNil : FA := fun _ S => .ok [] S
def aCons (fa : FE) (fr : FA) : FA := fun δ S => (fa δ S).bind fun x S => (fr δ S).bind fun xs S => .ok (x :: xs) S
theorem tDA_cons {c : Cc} {W : WX} {fa : FE} {fr : FA} {σ : L2.St} {H : Hp} {Q : List V → Hp → Prop} (h : tDA c W (aCons fa fr) σ H Q) : tD c W fa σ H (fun x H1 => tDA c W fr σ H1 (fun xs H2 => Q (x :: xs) H2)) := by
  obtain ⟨δ, S, ρ, G, sb, hl, hr, h⟩ := h
  refine ⟨δ, S, ρ, G, sb, hl, hr, ?_⟩
  unfold aCons at h
  rw [wp_bind] at h
  refine wp_mono h (fun d1 S1 h1 v1 ρ1 G1 H1 r1 e1 dv1 => ?_) (fun _ _ z => z)
  refine ⟨δ, S1, ρ1, G1, e1.sub, hl.ext e1.ext, r1, ?_⟩
  rw [wp_bind] at h1
  refine wp_mono h1 (fun d2 S2 h2 v2 ρ2 G2 H2 r2 e2 dv2 => ?_) (fun _ _ z => z.go e1)
  exact h2 _ ρ2 G2 H2 r2 (e1.trans e2) (.cons (Dat.ext e2.ext d1 dv1) dv2)
theorem tDA_nil {c : Cc} {W : WX} {σ : L2.St} {H : Hp} {Q : List V → Hp → Prop} (h : tDA c W aNil σ H Q) : Q [] H := by
  obtain ⟨δ, S, ρ, G, sb, hl, hr, h⟩ := h
  exact h [] ρ G H hr (Go.refl sb) .nil
section
variable {c : Cc} {X : Cx} {W : WX} {e : Expr} {es : List Expr} {fa : FE} {fr : FA} {pos : Pos} {kws : List Keyword}
theorem da_nil : DA c X W [] aNil := pa_imp pa_nil fun σ H Q h => tDA_nil h
theorem da_cons (ha : DE c X W e fa) (hr : DA c X W es fr) (hs : starEach (e :: es) X.env = (false, eval e X.env) :: starEach es X.env := by rfl) : DA c X W (e :: es) (aCons fa fr) := pa_imp (pa_cons ha hr hs) fun σ H Q h => tDA_cons h
theorem dk_nil : DK c X W [] aNil := pk_imp pk_nil fun σ H Q h => tDA_nil h
def eA (g : List D → Sto → R D) (fr : FA) : FE := fun δ S => (fr δ S).bind g
def OpA (c : Cc) (r : List V → Hp → VK → Prop) (g : List D → Sto → R D) : Prop := ∀ ρ S G H ds vs Q W, Sub c G H → Rep c ρ S G → DatAll c ρ G ds vs → wp (g ds S) (kE c ρ G H Q) (kX c ρ G H W) → r vs H Q
theorem tDA_then {σ : L2.St} {H : Hp} {Q : VK} {g : List D → Sto → R D} {r : List V → Hp → VK → Prop} (s : OpA c r g) (h : tD c W (eA g fr) σ H Q) : tDA c W fr σ H (fun xs H1 => r xs H1 Q) := by
  obtain ⟨δ, S, ρ, G, sb, hl, hr, h⟩ := h
  refine ⟨δ, S, ρ, G, sb, hl, hr, ?_⟩
  unfold eA at h
  rw [wp_bind] at h
  refine wp_mono h (fun d1 S1 h1 v1 ρ1 G1 H1 r1 e1 dv1 => ?_) (fun _ _ z => z)
  exact s ρ1 S1 G1 H1 d1 v1 Q _ e1.sub r1 dv1 (wpE_go h1 e1)
noncomputable def tupD (l : List D) (S : Sto) : R D := .chk (l.length ≤ sizeLine) (.ok (.tup l) S)
theorem de_tup {x1} (h : DA c X W es fr) : DE c X W (.Tuple es x1 pos) (eA tupD fr) := pe_imp (pe_tup h) fun σ H Q q => tDA_then (r := fun xs H1 Q => xs.length ≤ sizeLine ∧ ∀ p, H1 p = none → Q (.ref p) (upd H1 p (.tup xs))) (fun ρ S G H ds vs Q W sb r h1 q => by
  unfold tupD at q
  rw [wp_chk] at q
  exact ⟨by rw [h1.length]; exact q.1, fun p hp => q.2 _ ρ _ _ (r.new (sb.free hp)) (Go.new sb hp) (Dat.newT r (sb.free hp) h1)⟩) q
/-! ### new lists -/
def fA (g : List D → Sto → R (List D)) (fr : FA) : FA := fun δ S => (fr δ S).bind g
theorem kF_new {ρ : List Addr} {S : Sto} {G H : Hp} {Q : VK} {l : List D} {xs : List V} {p : Addr} (sb : Sub c G H) (r : Rep c ρ S G) (hp : H p = none) (h : DatAll c ρ G l xs) (q : kF c ρ G H Q l S) : Q (.ref p) (upd H p (.lst xs)) :=
  q p xs ρ G _ r (Go.keep sb (same_new hp)) (fun o e _ _ => by rw [hp] at e; cases e) (sb.free hp) upd_same h
noncomputable def lstF (l : List D) (S : Sto) : R (List D) := .chk (l.length ≤ sizeLine) (.ok l S)
theorem df_lst (h : DA c X W es fr) : DF c X W (.List es pos) (fA lstF fr) := pe_imp (pe_lst h) fun σ H Q q => by
  obtain ⟨δ, S, ρ, G, sb, hl, hr, h⟩ := q
  refine ⟨δ, S, ρ, G, sb, hl, hr, ?_⟩
  unfold fA at h
  rw [wp_bind] at h
  refine wp_mono h (fun d1 S1 h1 v1 ρ1 G1 H1 r1 e1 dv1 => ?_) (fun _ _ z => z)
  unfold lstF at h1
  rw [wp_chk] at h1
  exact ⟨by rw [dv1.length]; exact h1.1, fun p hp => kF_new e1.sub r1 hp dv1 (kF.go h1.2 e1)⟩
def eFrz (f : FA) : FE := fun δ S => (f δ S).bind fun l S => .ok (.lst l) S
def eMut (f : FA) : FE := fun δ S => (f δ S).bind fun l S => .ok (.ref S.length) (S ++ [.lst l])
theorem Go.take' {c : Cc} {ρ ρ1 r : List Addr} {G H G1 H1 : Hp} {a : Addr} {zs : List V} (e1 : Go c ρ G H ρ1 G1 H1) (f : ∀ o, H a = some o → G a = none → (∀ ps, o ≠ .tbl ps) → False) (na : G1 a = none) (ea : H1 a = some (.lst zs)) (x : Ext ρ1 G1 (ρ1 ++ r) (upd G1 a (.lst zs))) : Go c ρ G H (ρ1 ++ r) (upd G1 a (.lst zs)) H1 :=
  ⟨Go.take (ρ := ρ1) e1.sub na ea, fun b ob eb hb nt => by
    obtain ⟨q1, q2⟩ := e1.fr b ob eb hb nt
    have nb : b ≠ a := fun z => by
      rw [z] at eb hb
      exact f ob eb hb nt
    exact ⟨q1, by rw [upd_ne nb]; exact q2⟩, e1.ext.trans x⟩
theorem de_frz (h : DF c X W e fr) : DE c X W e (eFrz fr) := pe_imp h fun σ H Q q => by
  obtain ⟨δ, S, ρ, G, sb, hl, hr, h⟩ := q
  refine ⟨δ, S, ρ, G, sb, hl, hr, ?_⟩
  unfold eFrz at h
  rw [wp_bind] at h
  refine wp_mono h (fun l S1 h1 a xs ρ1 G1 H1 r1 e1 f na ea da => ?_) (fun _ _ z => z)
  have x : Ext ρ1 G1 (ρ1 ++ []) (upd G1 a (.lst xs)) := by
    rw [List.append_nil]
    exact Ext.new na
  have g := Go.take' e1 f na ea x
  rw [List.append_nil] at g
  exact h1 (.ref a) ρ1 _ H1 (r1.new na) g (Dat.newL r1 na da)
theorem de_mut (h : DF c X W e fr) : DE c X W e (eMut fr) := pe_imp h fun σ H Q q => by
  obtain ⟨δ, S, ρ, G, sb, hl, hr, h⟩ := q
  refine ⟨δ, S, ρ, G, sb, hl, hr, ?_⟩
  unfold eMut at h
  rw [wp_bind] at h
  refine wp_mono h (fun l S1 h1 a xs ρ1 G1 H1 r1 e1 f na ea da => ?_) (fun _ _ z => z)
  have x : Ext ρ1 G1 (ρ1 ++ [a]) (upd G1 a (.lst xs)) := Ext.alloc (same_new na) na
  refine h1 (.ref a) (ρ1 ++ [a]) _ H1 (r1.alloc (same_new na) na ⟨xs, upd_same, DatAll.ext x l da⟩) (Go.take' e1 f na ea x) ?_
  simp only [Dat]
  exact ⟨a, rfl, by rw [← r1.len]; simp⟩
noncomputable def catF (fa fb : FE) : FA := fun δ S => (fa δ S).bind fun x S => (fb δ S).bind fun y S => match x.lseq S, y.lseq S with
  | some l, some m => .chk (l.length + m.length ≤ sizeLine) (.ok (l ++ m) S)
  | _, _ => .bad
theorem tF_2 {fa fb : FE} {g : D → D → Sto → R (List D)} {σ : L2.St} {H : Hp} {Q : VK} {r : R2} (s : ∀ ρ S G H d1 d2 v1 v2 Q W, Sub c G H → Rep c ρ S G → Dat c ρ G d1 v1 → Dat c ρ G d2 v2 → wp (g d1 d2 S) (kF c ρ G H Q) (kX c ρ G H W) → r v1 v2 H Q)
    (h : tF c W (fun δ S => (fa δ S).bind fun x S => (fb δ S).bind fun y S => g x y S) σ H Q) : tD c W fa σ H (fun x H1 => tD c W fb σ H1 (fun y H2 => r x y H2 Q)) := by
  obtain ⟨δ, S, ρ, G, sb, hl, hr, h⟩ := h
  refine ⟨δ, S, ρ, G, sb, hl, hr, ?_⟩
  rw [wp_bind] at h
  refine wp_mono h (fun d1 S1 h1 v1 ρ1 G1 H1 r1 e1 dv1 => ?_) (fun _ _ z => z)
  refine ⟨δ, S1, ρ1, G1, e1.sub, hl.ext e1.ext, r1, ?_⟩
  rw [wp_bind] at h1
  refine wp_mono h1 (fun d2 S2 h2 v2 ρ2 G2 H2 r2 e2 dv2 => ?_) (fun _ _ z => z.go e1)
  exact s ρ2 S2 G2 H2 d1 d2 v1 v2 Q _ e2.sub r2 (Dat.ext e2.ext d1 dv1) dv2 (wpF_go (wpF_go h2 e1) e2)
theorem df_cat {a b : Expr} {fa fb : FE} (ha : DE c X W a fa) (hb : DE c X W b fb) : DF c X W (.BinOp a .Add b pos) (catF fa fb) := pe_imp (pe_op op_cat ha hb) fun σ H Q q => tF_2 (fun ρ S G H d1 d2 v1 v2 Q W sb r h1 h2 q => by
  split at q
  · rename_i l m e1 e2
    rw [wp_chk] at q
    obtain ⟨a, xs, z1, z2, z3⟩ := D.lseq_lst r h1 e1
    obtain ⟨b, ys, y1, y2, y3⟩ := D.lseq_lst r h2 e2
    exact ⟨a, b, xs, ys, z1, y1, sb _ _ z2, sb _ _ y2, by rw [z3.length, y3.length]; exact q.1, fun p hp => kF_new sb r hp (z3.append y3) q.2⟩
  · exact q.elim) q
theorem DatAll.rep {ρ : List Addr} {G : Hp} {l : List D} {xs : List V} (h : DatAll c ρ G l xs) : ∀ k : Nat, DatAll c ρ G (List.replicate k l).flatten (List.replicate k xs).flatten
  | 0 => .nil
  | k + 1 => by
    rw [List.replicate_succ, List.replicate_succ, List.flatten_cons, List.flatten_cons]
    exact h.append (DatAll.rep h k)
noncomputable def repF (fa fb : FE) : FA := fun δ S => (fa δ S).bind fun x S => (fb δ S).bind fun y S => match x.lseq S, y with
  | some l, .int k => .chk (-(2 ^ 63) ≤ k ∧ k < 2 ^ 63 ∧ l.length * k.toNat ≤ sizeLine) (.ok (List.replicate k.toNat l).flatten S)
  | _, _ => .bad
end
end DW
namespace DW
open PySem PySem.Spec PyProof.Rows L2
/-! ### items -/
section
variable {c : Cc} {ρ : List Addr} {G H : Hp}
theorem DatAll.atI {l : List D} {xs : List V} {i : Int} {d : D} (h : DatAll c ρ G l xs) (e : atI l i = some d) : ∃ v, L2.atI xs i = some v ∧ Dat c ρ G d v := by
  unfold L2.atI at e ⊢
  rw [h.length]
  cases q : ixN l.length i with
  | none =>
    rw [q] at e
    cases e
  | some j =>
    rw [q] at e
    exact h.get e
end
noncomputable def ixD : D → D → Sto → R D
  | .str z, .int i, S => match atI z.cps.toList i with
    | some k => .chk (z.length ≤ sizeLine) (.ok (.str ⟨#[k]⟩) S)
    | none => .bad
  | d, .int i, S => match d.seq S with
    | some l => match atI l i with
      | some x => .ok x S
      | none => .bad
    | none => .bad
  | _, _, _ => .bad
theorem IxR.or {X : Cx} {r r' : R2} (h : IxR X r) (h' : IxR X r') : IxR X (orR r r') := fun a b pins s σ H x y v u Q I rx ry q => by
  rcases q with q | q
  · exact h a b pins s σ H x y v u Q I rx ry q
  · exact h' a b pins s σ H x y v u Q I rx ry q
section
variable {c : Cc} {X : Cx} {W : WX} {a b : Expr} {fa fb : FE} {pos : Pos}
theorem op2_ix (hK : X.K = c.K) : Op2 c (orR (rIxL X.K) (orR (rIxT X.K) rIxS)) ixD := fun ρ S G H d1 d2 v1 v2 Q W sb r h1 h2 q => by
  unfold ixD at q
  split at q
  · rename_i z i
    simp only [Dat] at h1 h2
    split at q
    · rename_i k e
      rw [wp_chk] at q
      exact .inr (.inr ⟨z, i, k, h1, h2, q.1, e, q.2 _ ρ G H r (Go.refl sb) (by simp only [Dat])⟩)
    · exact q.elim
  · rename_i i hne
    simp only [Dat] at h2
    split at q
    · rename_i l e
      split at q
      · rename_i x e2
        obtain ⟨a, xs, z1, z2, z3⟩ := D.seq_sq r h1 e
        obtain ⟨v, e3, e4⟩ := z3.atI e2
        rcases z2 with z2 | z2
        · exact .inl ⟨a, xs, i, v, z1, h2, by rw [hK]; exact sb.sqL z2, e3, q _ ρ G H r (Go.refl sb) e4⟩
        · exact .inr (.inl ⟨a, xs, i, v, z1, h2, by rw [hK]; exact sb.sqT z2, e3, q _ ρ G H r (Go.refl sb) e4⟩)
      · exact q.elim
    · exact q.elim
  · exact q.elim
theorem de_ix (ha : DE c X W a fa) (hb : DE c X W b fb) (hs : PlainIx b := by intro _ _; rfl) (hK : X.K = c.K := by rfl) : DE c X W (.Subscript a b pos) (e2 ixD fa fb) := de_ix_ (IxR.or ix_list (IxR.or ix_tup ix_str)) (op2_ix hK) ha hb hs
end
/-! ### slices -/
abbrev FO := Dl → Sto → R (Option Int)
def oNone : FO := fun _ S => .ok none S
def oSome (f : FE) : FO := fun δ S => (f δ S).bind fun x S => match x with
  | .int i => .ok (some i) S
  | _ => .bad
def tDO (c : Cc) (W : WX) (f : FO) : TO := fun σ H Q => ∃ δ S ρ G, Sub c G H ∧ Loc c ρ G δ σ ∧ Rep c ρ S G ∧ wp (f δ S) (fun o S' => ∀ ρ' G' H', Rep c ρ' S' G' → Go c ρ G H ρ' G' H' → Q o H') (kX c ρ G H fun cls d H' => W cls d σ H')
abbrev DO (c : Cc) (X : Cx) (W : WX) (e : Option Expr) (f : FO) : Prop := PO X e (tDO c W f)
theorem po_imp {X : Cx} {e : Option Expr} {u v : TO} (h : PO X e u) (m : ∀ σ H Q, v σ H Q → u σ H Q) : PO X e v := ⟨fun pins s σ H Q I q => h.run pins s σ H Q I (m σ H Q q)⟩
def cutL {α : Type} (l : List α) (lo hi : Option Int) : List α := (l.drop (HT.sIx l.length 0 lo)).take (HT.sIx l.length l.length hi - HT.sIx l.length 0 lo)
def D.rseq (S : Sto) : D → Option (List D)
  | .lst l => some l
  | .scr l => some l
  | .ref n => match S[n]? with
    | some (.lst l) => some l
    | _ => none
  | _ => none
theorem D.rseq_sq {c : Cc} {ρ : List Addr} {S : Sto} {H : Hp} {d : D} {v : V} {l : List D} (r : Rep c ρ S H) (h : Dat c ρ H d v) (e : d.rseq S = some l) : ∃ a xs, v = .ref a ∧ SqL c.K H a xs ∧ DatAll c ρ H l xs := by
  cases d with
  | lst m =>
    simp only [Dat] at h
    obtain ⟨a, xs, e1, _, e2, e3⟩ := h
    cases e
    exact ⟨a, xs, e1, .of e2, e3⟩
  | scr m =>
    simp only [Dat] at h
    obtain ⟨a, xs, e1, e2, e3⟩ := h
    cases e
    exact ⟨a, xs, e1, e2.sq, e3⟩
  | ref n =>
    unfold D.rseq at e
    dsimp only at e
    split at e
    · rename_i m q
      cases e
      obtain ⟨a, e1, _, xs, e2, e3⟩ := dat_ref r h q
      exact ⟨a, xs, e1, .of e2, e3⟩
    · cases e
  | _ => cases e
noncomputable def sliceD (d : D) (lo hi : Option Int) (S : Sto) : R D := match d with
  | .str z => .chk (z.length ≤ sizeLine) (.ok (.str (cutS z lo hi)) S)
  | .tup l => .chk (¬ (HT.sIx l.length 0 lo = 0 ∧ HT.sIx l.length l.length hi = l.length)) (.ok (.tup (cutL l lo hi)) S)
  | d => match d.rseq S with
    | some l => .ok (.lst (cutL l lo hi)) S
    | none => .bad
noncomputable def eSlice (fa : FE) (fl fh : FO) : FE := fun δ S => (fa δ S).bind fun x S => (fl δ S).bind fun lo S => (fh δ S).bind fun hi S => sliceD x lo hi S
section
variable {c : Cc} {X : Cx} {W : WX} {a : Expr} {lo hi : Option Expr} {fa : FE} {fl fh : FO} {pos p2 : Pos}
theorem do_none : DO c X W none oNone := po_imp po_none fun σ H Q h => by
  obtain ⟨δ, S, ρ, G, sb, hl, hr, h⟩ := h
  exact h ρ G H hr (Go.refl sb)
theorem do_some (h : DE c X W a fa) : DO c X W (some a) (oSome fa) := po_imp (po_some h) fun σ H Q h => by
  obtain ⟨δ, S, ρ, G, sb, hl, hr, h⟩ := h
  refine ⟨δ, S, ρ, G, sb, hl, hr, ?_⟩
  unfold oSome at h
  rw [wp_bind] at h
  refine wp_mono h (fun d1 S1 h1 v1 ρ1 G1 H1 r1 e1 dv1 => ?_) (fun _ _ z => z)
  split at h1
  · rename_i i
    simp only [Dat] at dv1
    exact ⟨i, dv1, h1 ρ1 G1 H1 r1 e1⟩
  · exact h1.elim
theorem DatAll.cut {ρ : List Addr} {G : Hp} {l : List D} {xs : List V} (h : DatAll c ρ G l xs) (lo hi : Option Int) : DatAll c ρ G (cutL l lo hi) (cutV xs lo hi) := by
  unfold cutL cutV
  rw [h.length]
  exact (h.drop _).take _
theorem slice_ok (hK : X.K = c.K) {ρ : List Addr} {S : Sto} {G H : Hp} {d : D} {v : V} {lo hi : Option Int} {Q : VK} {W : Value → Option Addr → Hp → Prop} (sb : Sub c G H) (r : Rep c ρ S G) (h : Dat c ρ G d v) (q : wp (sliceD d lo hi S) (kE c ρ G H Q) (kX c ρ G H W)) :
    rSlL X.K v lo hi H Q ∨ rSlT X.K v lo hi H Q ∨ rSlS v lo hi H Q := by
  unfold sliceD at q
  split at q
  · rename_i z
    rw [wp_chk] at q
    simp only [Dat] at h
    exact .inr (.inr ⟨z, h, q.1, q.2 _ ρ G H r (Go.refl sb) (by simp only [Dat])⟩)
  · rename_i l
    rw [wp_chk] at q
    simp only [Dat] at h
    obtain ⟨a, xs, z1, z2, z3⟩ := h
    refine .inr (.inl ⟨a, xs, z1, by rw [hK]; exact sb.sqT z2.sq, by rw [z3.length]; exact q.1, fun p hp => ?_⟩)
    exact q.2 _ ρ _ _ (r.new (sb.free hp)) (Go.new sb hp) (Dat.newT r (sb.free hp) (z3.cut lo hi))
  · split at q
    · rename_i l e
      obtain ⟨a, xs, z1, z2, z3⟩ := D.rseq_sq r h e
      refine .inl ⟨a, xs, z1, by rw [hK]; exact sb.sqL z2, fun p hp => ?_⟩
      exact q _ ρ _ _ (r.new (sb.free hp)) (Go.new sb hp) (Dat.newL r (sb.free hp) (z3.cut lo hi))
    · exact q.elim
theorem de_slice (ha : DE c X W a fa) (hl : DO c X W lo fl) (hh : DO c X W hi fh) (hK : X.K = c.K := by rfl) : DE c X W (.Subscript a (.Slice lo hi none p2) pos) (eSlice fa fl fh) :=
  pe_imp (pe_slice (SlR.or sl_list (SlR.or sl_tup sl_str)) ha hl hh) fun σ H Q h => by
  obtain ⟨δ, S, ρ, G, sb, hl, hr, h⟩ := h
  refine ⟨δ, S, ρ, G, sb, hl, hr, ?_⟩
  unfold eSlice at h
  rw [wp_bind] at h
  refine wp_mono h (fun d1 S1 h1 v1 ρ1 G1 H1 r1 e1 dv1 => ?_) (fun _ _ z => z)
  refine ⟨δ, S1, ρ1, G1, e1.sub, hl.ext e1.ext, r1, ?_⟩
  rw [wp_bind] at h1
  refine wp_mono h1 (fun lo S2 h2 ρ2 G2 H2 r2 e2 => ?_) (fun _ _ z => z.go e1)
  have e12 := e1.trans e2
  refine ⟨δ, S2, ρ2, G2, e2.sub, hl.ext e12.ext, r2, ?_⟩
  rw [wp_bind] at h2
  refine wp_mono h2 (fun hi S3 h3 ρ3 G3 H3 r3 e3 => ?_) (fun _ _ z => z.go e12)
  exact slice_ok hK e3.sub r3 (Dat.ext (e2.trans e3).ext _ dv1) (wpE_go h3 (e12.trans e3))
end
/-! ### data compared -/
mutual
def pyD : D → Option PyData
  | .non => some .none
  | .bl b => some (.bool b)
  | .int i => some (.int i)
  | .str x => some (.str x)
  | .tup l => (pyAll l).map .tuple
  | .lst l => (pyAll l).map .list
  | .scr l => (pyAll l).map .list
  | _ => none
def pyAll : List D → Option (List PyData)
  | [] => some []
  | d :: l => match pyD d, pyAll l with
    | some p, some r => some (p :: r)
    | _, _ => none
end
def pyS (S : Sto) : D → Option PyData
  | .ref n => match S[n]? with
    | some (.lst l) => (pyAll l).map .list
    | _ => none
  | d => pyD d
section
variable {c : Cc} {ρ : List Addr} {G : Hp}
mutual
theorem pyD_dp : ∀ (d : D) {v : V} {p : PyData}, Dat c ρ G d v → pyD d = some p → Dp c.K G v p
  | .non, v, p, h, e => by
    simp only [Dat] at h
    simp only [pyD, Option.some.injEq] at e
    rw [h, ← e]
    exact .non
  | .bl b, v, p, h, e => by
    simp only [Dat] at h
    simp only [pyD, Option.some.injEq] at e
    rw [h, ← e]
    exact .bl b
  | .int b, v, p, h, e => by
    simp only [Dat] at h
    simp only [pyD, Option.some.injEq] at e
    rw [h, ← e]
    exact .int b
  | .str b, v, p, h, e => by
    simp only [Dat] at h
    simp only [pyD, Option.some.injEq] at e
    rw [h, ← e]
    exact .str b
  | .tup l, v, p, h, e => by
    simp only [Dat] at h
    simp only [pyD, Option.map_eq_some_iff] at e
    obtain ⟨a, xs, z1, z2, z3⟩ := h
    obtain ⟨ps, e1, e2⟩ := e
    rw [z1, ← e2]
    exact .tup z2.sq (pyAll_dp l z3 e1)
  | .lst l, v, p, h, e => by
    simp only [Dat] at h
    simp only [pyD, Option.map_eq_some_iff] at e
    obtain ⟨a, xs, z1, _, z2, z3⟩ := h
    obtain ⟨ps, e1, e2⟩ := e
    rw [z1, ← e2]
    exact .lst (.of z2) (pyAll_dp l z3 e1)
  | .scr l, v, p, h, e => by
    simp only [Dat] at h
    simp only [pyD, Option.map_eq_some_iff] at e
    obtain ⟨a, xs, z1, z2, z3⟩ := h
    obtain ⟨ps, e1, e2⟩ := e
    rw [z1, ← e2]
    exact .lst z2.sq (pyAll_dp l z3 e1)
  | .ty _, _, _, _, e => by simp [pyD] at e
  | .cls _, _, _, _, e => by simp [pyD] at e
  | .dct _ _, _, _, _, e => by simp [pyD] at e
  | .ins _ _ _, _, _, _, e => by simp [pyD] at e
  | .ref _, _, _, _, e => by simp [pyD] at e
theorem pyAll_dp : ∀ (l : List D) {vs : List V} {ps : List PyData}, DatAll c ρ G l vs → pyAll l = some ps → DpAll c.K G vs ps
  | [], vs, ps, h, e => by
    simp only [DatAll] at h
    simp only [pyAll, Option.some.injEq] at e
    rw [h, ← e]
    exact .nil
  | d :: l, vs, ps, h, e => by
    simp only [DatAll] at h
    obtain ⟨y, r, rfl, h1, h2⟩ := h
    unfold pyAll at e
    split at e
    · rename_i p q e1 e2
      cases e
      exact .cons (pyD_dp d h1 e1) (pyAll_dp l h2 e2)
    · cases e
end
theorem pyS_dp {S : Sto} {d : D} {v : V} {p : PyData} (r : Rep c ρ S G) (h : Dat c ρ G d v) (e : pyS S d = some p) : Dp c.K G v p := by
  cases d with
  | ref n =>
    unfold pyS at e
    dsimp only at e
    split at e
    · rename_i l q
      obtain ⟨a, e1, _, xs, e2, e3⟩ := dat_ref r h q
      simp only [Option.map_eq_some_iff] at e
      obtain ⟨ps, z1, z2⟩ := e
      rw [e1, ← z2]
      exact .lst (.of e2) (pyAll_dp l e3 z1)
    · cases e
  | _ => exact pyD_dp _ h e
mutual
theorem Dp.up {K : PySem.W.Frag} {G H : Hp} (s : Sub c G H) : ∀ (p : PyData) {v : V}, Dp K G v p → Dp K H v p
  | .none, _, h => by cases h; exact .non
  | .bool b, _, h => by cases h; exact .bl b
  | .int i, _, h => by cases h; exact .int i
  | .str x, _, h => by cases h; exact .str x
  | .list ds, _, h => by
    cases h with
    | lst hs ha => exact .lst (s.sqL hs) (DpAll.up s ds ha)
  | .tuple ds, _, h => by
    cases h with
    | tup hs ha => exact .tup (s.sqT hs) (DpAll.up s ds ha)
  | .dict _, _, h => by cases h
theorem DpAll.up {K : PySem.W.Frag} {G H : Hp} (s : Sub c G H) : ∀ (ps : List PyData) {vs : List V}, DpAll K G vs ps → DpAll K H vs ps
  | [], _, h => by cases h; exact .nil
  | d :: ds, _, h => by
    cases h with
    | cons h1 h2 => exact .cons (Dp.up s d h1) (DpAll.up s ds h2)
end
end
noncomputable def eqD : D → D → Sto → R D
  | .int i, .int j, S => .ok (.bl (decide (i = j))) S
  | .str i, .str j, S => .ok (.bl (decide (i = j))) S
  | .bl i, .bl j, S => .ok (.bl (decide (i = j))) S
  | .non, .str _, S => .ok (.bl false) S
  | .str _, .non, S => .ok (.bl false) S
  | .non, .non, S => .ok (.bl true) S
  | d, e, S => match pyS S d, pyS S e with
    | some p, some q => .chk (SeqAt.shaped p = true ∧ SeqAt.shaped q = true) (.ok (.bl (PyData.eqv p q)) S)
    | _, _ => .bad
def notR : D → Sto → R D
  | .bl b, S => .ok (.bl (!b)) S
  | _, _ => .bad
noncomputable def neD (d e : D) (S : Sto) : R D := (eqD d e S).bind notR
section
variable {c : Cc} {X : Cx} {W : WX} {a b : Expr} {fa fb : FE} {pos : Pos}
theorem eq_ok (hK : X.K = c.K) {ρ : List Addr} {S : Sto} {G H : Hp} {d1 d2 : D} {v1 v2 : V} {T : D → Sto → Prop} {E : Xc → Sto → Prop} (sb : Sub c G H) (r : Rep c ρ S G) (h1 : Dat c ρ G d1 v1) (h2 : Dat c ρ G d2 v2) (q : wp (eqD d1 d2 S) T E) :
    ∃ k, T (.bl k) S ∧ ((scal v1 v2 = true ∧ decide (v1 = v2) = k) ∨ ∃ d e, Dp X.K H v1 d ∧ Dp X.K H v2 e ∧ SeqAt.shaped d = true ∧ SeqAt.shaped e = true ∧ PyData.eqv d e = k) := by
  unfold eqD at q
  split at q
  · simp only [Dat] at h1 h2
    exact ⟨_, q, .inl (by rw [h1, h2]; exact ⟨rfl, by simp⟩)⟩
  · simp only [Dat] at h1 h2
    exact ⟨_, q, .inl (by rw [h1, h2]; exact ⟨rfl, by simp⟩)⟩
  · simp only [Dat] at h1 h2
    exact ⟨_, q, .inl (by rw [h1, h2]; exact ⟨rfl, by simp⟩)⟩
  · simp only [Dat] at h1 h2
    exact ⟨_, q, .inl (by rw [h1, h2]; exact ⟨rfl, by simp⟩)⟩
  · simp only [Dat] at h1 h2
    exact ⟨_, q, .inl (by rw [h1, h2]; exact ⟨rfl, by simp⟩)⟩
  · simp only [Dat] at h1 h2
    exact ⟨_, q, .inl (by rw [h1, h2]; exact ⟨rfl, by simp⟩)⟩
  · split at q
    · rename_i p1 p2 z1 z2
      rw [wp_chk] at q
      exact ⟨_, q.2, .inr ⟨p1, p2, by rw [hK]; exact Dp.up sb _ (pyS_dp r h1 z1), by rw [hK]; exact Dp.up sb _ (pyS_dp r h2 z2), q.1.1, q.1.2, rfl⟩⟩
    · exact q.elim
def isND : D → Sto → R D
  | .non, S => .ok (.bl true) S
  | _, S => .ok (.bl false) S
theorem non_iff {ρ : List Addr} {G : Hp} {d : D} {v : V} {S : Sto} (h : Dat c ρ G d v) : isND d S = .ok (.bl (decide (v = .non))) S := by
  cases d <;> simp only [Dat] at h <;> first | (rw [h]; rfl) | (obtain ⟨_, _, e, _⟩ := h; rw [e]; rfl) | (obtain ⟨_, _, e⟩ := h; rw [e]; rfl) | (obtain ⟨_, e, _⟩ := h; rw [e]; rfl) | (obtain ⟨_, _, _, _, e, _⟩ := h; rw [e]; rfl)
def isBD : D → D → Sto → R D
  | .bl a, .bl b, S => .ok (.bl (decide (a = b))) S
  | _, _, _ => .bad
def notBD : D → D → Sto → R D
  | .bl a, .bl b, S => .ok (.bl (!decide (a = b))) S
  | _, _, _ => .bad
end
end DW
namespace DW
open PySem PySem.Spec PyProof.Rows L2
/-! ### comparisons, as values and as tests -/
def Cmp (c : Cc) (X : Cx) (op : CmpOp) (g : D → D → Sto → R D) : Prop := ∃ r, OpR X (compareOp op) r ∧ Op2 c r g
def asB (d : D) (S : Sto) : R Bool := match d with
  | .bl b => .ok b S
  | _ => .bad
def tst (f : FE) : FT := fun δ S => (f δ S).bind asB
def isNV : D → D → Sto → R D
  | d, .non, S => isND d S
  | _, _, _ => .bad
def notNV : D → D → Sto → R D
  | d, .non, S => (isND d S).bind notR
  | _, _, _ => .bad
def allDV : List D → Option (List V)
  | [] => some []
  | d :: l => match DV d, allDV l with
    | some v, some r => some (v :: r)
    | _, _ => none
noncomputable def in1D : D → D → Sto → R D
  | .str x, .str y, S => match x.cps.toList with
    | [k] => .ok (.bl (decide (k ∈ y.cps.toList))) S
    | _ => .bad
  | d, e, S => match DV d, e.seq S with
    | some v, some l => match allDV l with
      | some xs => .chk (flatV v = true ∧ xs.all flatV = true) (.ok (.bl (inV v xs)) S)
      | none => .bad
    | _, _ => match pyS S d, pyS S e with
      | some p, some (.list ds) => .chk (SeqAt.shaped p = true ∧ SeqAt.shaped (.list ds) = true) (.ok (.bl (ds.any fun z => PyData.eqv z p)) S)
      | _, _ => .bad
noncomputable def notInD (d e : D) (S : Sto) : R D := (in1D d e S).bind notR
noncomputable def inD (d e : D) (S : Sto) : R D := match d, e with
  | .str x, .str y => match x.cps.toList with
    | [k] => .ok (.bl (decide (k ∈ y.cps.toList))) S
    | _ => .ok (.bl (!(Builtin.Str.occurrences y x 0 y.length 1).isEmpty)) S
  | d, e => in1D d e S
section
variable {c : Cc} {X : Cx} {W : WX} {a b e : Expr} {fa fb fe : FE} {pos : Pos} {g g' : D → D → Sto → R D} {op op' : CmpOp}
theorem dv_eq {ρ : List Addr} {G : Hp} {d : D} {v w : V} (h : Dat c ρ G d v) (e : DV d = some w) : v = w := by
  cases d <;> simp only [Dat] at h <;> first | (cases e; done) | (simp only [DV, Option.some.injEq] at e; rw [h, e])
theorem allDV_eq {ρ : List Addr} {G : Hp} : ∀ {l : List D} {vs ws : List V}, DatAll c ρ G l vs → allDV l = some ws → vs = ws
  | [], vs, ws, h, e => by
    simp only [DatAll] at h
    simp only [allDV, Option.some.injEq] at e
    rw [h, e]
  | d :: l, vs, ws, h, e => by
    simp only [DatAll] at h
    obtain ⟨y, r, rfl, h1, h2⟩ := h
    unfold allDV at e
    split at e
    · rename_i v r' e1 e2
      cases e
      rw [dv_eq h1 e1, allDV_eq h2 e2]
    · cases e
theorem cmp_lt : Cmp c X .Lt ltD := ⟨_, op_lt, op2_int0 fun _ _ => rfl⟩
theorem cmp_le : Cmp c X .LtE leD := ⟨_, op_le, op2_int0 fun _ _ => rfl⟩
theorem cmp_gt : Cmp c X .Gt gtD := ⟨_, op_gt, op2_int0 fun _ _ => rfl⟩
theorem cmp_ge : Cmp c X .GtE geD := ⟨_, op_ge, op2_int0 fun _ _ => rfl⟩
theorem cmp_eq (hu : X.A.units + 64 < cLine) (hK : X.K = c.K := by rfl) : Cmp c X .Eq eqD := ⟨_, OpR.or op_eq (op_eqD hu), fun ρ S G H d1 d2 v1 v2 Q W sb r h1 h2 q => by
  obtain ⟨k, t, z⟩ := eq_ok hK sb r h1 h2 q
  have f := t (.bl k) ρ G H r (Go.refl sb) (by simp only [Dat])
  rcases z with ⟨z1, z2⟩ | ⟨d, e, z1, z2, z3, z4, z5⟩
  · exact .inl ⟨z1, by rw [z2]; exact f⟩
  · exact .inr ⟨d, e, z1, z2, z3, z4, by rw [z5]; exact f⟩⟩
theorem cmp_ne (hu : X.A.units + 64 < cLine) (hK : X.K = c.K := by rfl) : Cmp c X .NotEq neD := ⟨_, OpR.or op_ne (op_neD hu), fun ρ S G H d1 d2 v1 v2 Q W sb r h1 h2 q => by
  unfold neD at q
  rw [wp_bind] at q
  obtain ⟨k, t, z⟩ := eq_ok hK sb r h1 h2 q
  have f := t (.bl (!k)) ρ G H r (Go.refl sb) (by simp only [Dat])
  rcases z with ⟨z1, z2⟩ | ⟨d, e, z1, z2, z3, z4, z5⟩
  · exact .inl ⟨z1, by rw [z2]; exact f⟩
  · exact .inr ⟨d, e, z1, z2, z3, z4, by rw [z5]; exact f⟩⟩
theorem cmp_isN : Cmp c X .Is isNV := ⟨_, op_isN, fun ρ S G H d1 d2 v1 v2 Q W sb r h1 h2 q => by
  unfold isNV at q
  split at q
  · rw [non_iff h1] at q
    simp only [Dat] at h2
    exact ⟨h2, q _ ρ G H r (Go.refl sb) (by simp only [Dat])⟩
  · exact q.elim⟩
theorem in_ok (hK : X.K = c.K) {ρ : List Addr} {S : Sto} {G H : Hp} {d1 d2 : D} {v1 v2 : V} {T : D → Sto → Prop} {E : Xc → Sto → Prop} (sb : Sub c G H) (r : Rep c ρ S G) (h1 : Dat c ρ G d1 v1) (h2 : Dat c ρ G d2 v2) (q : wp (in1D d1 d2 S) T E) :
    ∃ k, T (.bl k) S ∧ ((∃ (z : Nat) (y : Str), v1 = .str ⟨#[z]⟩ ∧ v2 = .str y ∧ decide (z ∈ y.cps.toList) = k) ∨
      (∃ p xs, v2 = .ref p ∧ (SqL X.K H p xs ∨ SqT X.K H p xs) ∧ flatV v1 = true ∧ xs.all flatV = true ∧ inV v1 xs = k) ∨
      ∃ d ds, Dp X.K H v1 d ∧ Dp X.K H v2 (.list ds) ∧ SeqAt.shaped d = true ∧ SeqAt.shaped (.list ds) = true ∧ (ds.any fun z => PyData.eqv z d) = k) := by
  unfold in1D at q
  split at q
  · rename_i x y
    simp only [Dat] at h1 h2
    split at q
    · rename_i z e
      refine ⟨_, q, .inl ⟨z, y, ?_, h2, rfl⟩⟩
      rw [h1]
      congr 1
      cases x
      rename_i cps
      have : cps = #[z] := by rw [← Array.toList_inj]; exact e
      rw [this]
    · exact q.elim
  · split at q
    · rename_i v l e1 e2
      split at q
      · rename_i xs e3
        rw [wp_chk] at q
        obtain ⟨p, ys, z1, z2, z3⟩ := D.seq_sq r h2 e2
        have := allDV_eq z3 e3
        subst this
        have := dv_eq h1 e1
        subst this
        refine ⟨_, q.2, .inr (.inl ⟨p, _, z1, ?_, q.1.1, q.1.2, rfl⟩)⟩
        rw [hK]
        rcases z2 with z2 | z2
        · exact .inl (sb.sqL z2)
        · exact .inr (sb.sqT z2)
      · exact q.elim
    · split at q
      · rename_i p ds z1 z2
        rw [wp_chk] at q
        exact ⟨_, q.2, .inr (.inr ⟨p, ds, by rw [hK]; exact Dp.up sb _ (pyS_dp r h1 z1), by rw [hK]; exact Dp.up sb _ (pyS_dp r h2 z2), q.1.1, q.1.2, rfl⟩)⟩
      · exact q.elim
theorem cmp_in (hu : X.A.units + 65 < cLine) (hK : X.K = c.K := by rfl) : Cmp c X .In inD := ⟨_, OpR.or op_in_sign (OpR.or op_in_str (OpR.or op_in_seq (op_inD hu))), fun ρ S G H d1 d2 v1 v2 Q W sb r h1 h2 q => by
  unfold inD at q
  split at q
  · rename_i x y
    simp only [Dat] at h1 h2
    split at q
    · rename_i z e
      refine .inl ⟨z, y, ?_, h2, q _ ρ G H r (Go.refl sb) (by simp only [Dat])⟩
      rw [h1]
      congr 1
      cases x
      rename_i cps
      have : cps = #[z] := by rw [← Array.toList_inj]; exact e
      rw [this]
    · exact .inr (.inl ⟨x, y, h1, h2, q _ ρ G H r (Go.refl sb) (by simp only [Dat])⟩)
  · obtain ⟨k, t, z⟩ := in_ok hK sb r h1 h2 q
    have f := t (.bl k) ρ G H r (Go.refl sb) (by simp only [Dat])
    rcases z with ⟨z, y, e1, e2, e3⟩ | ⟨p, xs, e1, e2, e3, e4, e5⟩ | ⟨d, ds, e1, e2, e3, e4, e5⟩
    · exact .inl ⟨z, y, e1, e2, by rw [e3]; exact f⟩
    · exact .inr (.inr (.inl ⟨p, xs, e1, e2, e3, e4, by rw [e5]; exact f⟩))
    · exact .inr (.inr (.inr ⟨d, ds, e1, e2, e3, e4, by rw [e5]; exact f⟩))⟩
theorem cmp_notIn (hu : X.A.units + 65 < cLine) (hK : X.K = c.K := by rfl) : Cmp c X .NotIn notInD := ⟨_, OpR.or op_notIn_sign (OpR.or op_notIn_seq (op_notInD hu)), fun ρ S G H d1 d2 v1 v2 Q W sb r h1 h2 q => by
  unfold notInD at q
  rw [wp_bind] at q
  obtain ⟨k, t, z⟩ := in_ok hK sb r h1 h2 q
  have f := t (.bl (!k)) ρ G H r (Go.refl sb) (by simp only [Dat])
  rcases z with ⟨z, y, e1, e2, e3⟩ | ⟨p, xs, e1, e2, e3, e4, e5⟩ | ⟨d, ds, e1, e2, e3, e4, e5⟩
  · exact .inl ⟨z, y, e1, e2, by rw [e3]; exact f⟩
  · exact .inr (.inl ⟨p, xs, e1, e2, e3, e4, by rw [if_pos rfl, e5]; exact f⟩)
  · exact .inr (.inr ⟨d, ds, e1, e2, e3, e4, by rw [e5]; exact f⟩)⟩
theorem de_cm (h : Cmp c X op g) (ha : DE c X W a fa) (hb : DE c X W b fb) (hm : behindInMarks op b = false := by first | exact nomark _ | rfl) : DE c X W (.Compare a [op] [b] pos) (e2 g fa fb) := by
  obtain ⟨r, ho, s⟩ := h
  exact de_cmp ho s ha hb hm
theorem dt_cm (h : Cmp c X op g) (ha : DE c X W a fa) (hb : DE c X W b fb) (hm : behindInMarks op b = false := by first | exact nomark _ | rfl) : DT c X W (.Compare a [op] [b] pos) (tst (e2 g fa fb)) := by
  obtain ⟨r, ho, s⟩ := h
  refine pt_imp (pt_cmpR ho ha hb hm) fun σ H Q q => ?_
  have q' : tD c W (e2 (fun x y S => g x y S) fa fb) σ H (fun x H' => ∃ k, x = .bl k ∧ Q k H') := by
    obtain ⟨δ, S, ρ, G, sb, hl, hr, q⟩ := q
    refine ⟨δ, S, ρ, G, sb, hl, hr, ?_⟩
    unfold tst at q
    rw [wp_bind] at q
    refine wp_mono q (fun d S1 h1 v ρ1 G1 H1 r1 e1 dv => ?_) (fun _ _ z => z)
    unfold asB at h1
    split at h1
    · simp only [Dat] at dv
      exact ⟨_, dv, h1 ρ1 G1 H1 r1 e1⟩
    · exact h1.elim
  exact tD_2 s q'
def eChain (g g' : D → D → Sto → R D) (fa fb fe : FE) : FE := fun δ S => (fa δ S).bind fun x S => (fb δ S).bind fun y S => (g x y S).bind fun z S => match z with
  | .bl true => (fe δ S).bind fun w S => g' y w S
  | .bl false => .ok (.bl false) S
  | _ => .bad
theorem tD_chain {r r' : R2} {σ : L2.St} {H : Hp} {Q : VK} (s : Op2 c r g) (s' : Op2 c r' g') (q : tD c W (eChain g g' fa fb fe) σ H Q) : tChain r r' (tD c W fa) (tD c W fb) (tD c W fe) σ H Q := by
  obtain ⟨δ, S, ρ, G, sb, hl, hr, h⟩ := q
  refine ⟨δ, S, ρ, G, sb, hl, hr, ?_⟩
  unfold eChain at h
  rw [wp_bind] at h
  refine wp_mono h (fun d1 S1 h1 v1 ρ1 G1 H1 r1 e1 dv1 => ?_) (fun _ _ z => z)
  refine ⟨δ, S1, ρ1, G1, e1.sub, hl.ext e1.ext, r1, ?_⟩
  rw [wp_bind] at h1
  refine wp_mono h1 (fun d2 S2 h2 v2 ρ2 G2 H2 r2 e2 dv2 => ?_) (fun _ _ z => z.go e1)
  rw [wp_bind] at h2
  have e12 := e1.trans e2
  refine s ρ2 S2 G2 H2 d1 d2 v1 v2 _ (fun cls d H' => W cls d σ H') e2.sub r2 (Dat.ext e2.ext d1 dv1) dv2 (wp_mono h2 (fun d3 S3 h3 v3 ρ3 G3 H3 r3 e3 dv3 => ?_) fun _ _ z => z.go e12)
  have e13 := e12.trans e3
  split at h3
  · simp only [Dat] at dv3
    refine ⟨true, dv3, ?_⟩
    rw [if_pos rfl]
    refine ⟨δ, S3, ρ3, G3, e3.sub, hl.ext e13.ext, r3, ?_⟩
    rw [wp_bind] at h3
    refine wp_mono h3 (fun d4 S4 h4 v4 ρ4 G4 H4 r4 e4 dv4 => ?_) (fun _ _ z => z.go e13)
    exact s' ρ4 S4 G4 H4 d2 d4 v2 v4 Q _ e4.sub r4 (Dat.ext (e3.trans e4).ext d2 dv2) dv4 (wpE_go h4 (e13.trans e4))
  · simp only [Dat] at dv3
    refine ⟨false, dv3, ?_⟩
    rw [if_neg (by decide)]
    exact h3 _ ρ3 G3 H3 r3 e13 (by simp only [Dat])
  · exact h3.elim
theorem de_chain (h : Cmp c X op g) (h' : Cmp c X op' g') (ha : DE c X W a fa) (hb : DE c X W b fb) (he : DE c X W e fe) (hm : lastMarks [op, op'] [b, e] = false := by with_unfolding_all rfl) : DE c X W (.Compare a [op, op'] [b, e] pos) (eChain g g' fa fb fe) := by
  obtain ⟨r, ho, s⟩ := h
  obtain ⟨r', ho', s'⟩ := h'
  exact pe_imp (pe_chain ho ho' ha hb he hm) fun σ H Q q => tD_chain s s' q
theorem tst_tD {f : FE} {σ : L2.St} {H : Hp} {Q : Bool → Hp → Prop} (q : tDT c W (tst f) σ H Q) : tD c W f σ H (fun x H' => ∃ k, x = .bl k ∧ Q k H') := by
  obtain ⟨δ, S, ρ, G, sb, hl, hr, q⟩ := q
  refine ⟨δ, S, ρ, G, sb, hl, hr, ?_⟩
  unfold tst at q
  rw [wp_bind] at q
  refine wp_mono q (fun d S1 h1 v ρ1 G1 H1 r1 e1 dv => ?_) (fun _ _ z => z)
  unfold asB at h1
  split at h1
  · simp only [Dat] at dv
    exact ⟨_, dv, h1 ρ1 G1 H1 r1 e1⟩
  · exact h1.elim
theorem dt_chain (h : Cmp c X op g) (h' : Cmp c X op' g') (ha : DE c X W a fa) (hb : DE c X W b fb) (he : DE c X W e fe) (hm : lastMarks [op, op'] [b, e] = false := by with_unfolding_all rfl) : DT c X W (.Compare a [op, op'] [b, e] pos) (tst (eChain g g' fa fb fe)) := by
  obtain ⟨r, ho, s⟩ := h
  obtain ⟨r', ho', s'⟩ := h'
  exact pt_imp (pt_chain ho ho' ha hb he hm) fun σ H Q q => tD_chain s s' (tst_tD q)
theorem dt_val (h : DE c X W e fe) (he : ∀ whole, isTrue e X.env whole = (do let v ← whole; standAt e.pos; holding [v] (truthy v)) := by intro _; rfl) : DT c X W e (tst fe) := pt_imp (pt_val h he) fun σ H Q q => tst_tD q
/-! ### and, or, not -/
def eAnd (fa fb : FE) : FE := fun δ S => (fa δ S).bind fun x S => match x with
  | .bl true => fb δ S
  | .bl false => .ok (.bl false) S
  | _ => .bad
def eOr (fa fb : FE) : FE := fun δ S => (fa δ S).bind fun x S => match x with
  | .bl true => .ok (.bl true) S
  | .bl false => fb δ S
  | _ => .bad
variable {rest : List Expr}
theorem de_one {op} (h : DE c X W a fa) : DE c X W (.BoolOp op [a] pos) fa := pe_one h
theorem de_and (ha : DE c X W a fa) (hb : DE c X W (.BoolOp .And (b :: rest) pos) fb) : DE c X W (.BoolOp .And (a :: b :: rest) pos) (eAnd fa fb) := pe_imp (pe_and ha hb) fun σ H Q q => by
  obtain ⟨δ, S, ρ, G, sb, hl, hr, h⟩ := q
  refine ⟨δ, S, ρ, G, sb, hl, hr, ?_⟩
  unfold eAnd at h
  rw [wp_bind] at h
  refine wp_mono h (fun d1 S1 h1 v1 ρ1 G1 H1 r1 e1 dv1 => ?_) (fun _ _ z => z)
  split at h1
  · simp only [Dat] at dv1
    exact ⟨true, dv1, by rw [if_pos rfl]; exact ⟨δ, S1, ρ1, G1, e1.sub, hl.ext e1.ext, r1, wpE_go h1 e1⟩⟩
  · simp only [Dat] at dv1
    exact ⟨false, dv1, by rw [if_neg (by decide)]; exact h1 _ ρ1 G1 H1 r1 e1 (by simp only [Dat])⟩
  · exact h1.elim
theorem de_not (ha : DE c X W a fa) : DE c X W (.UnaryOp .Not a pos) (e1 notR fa) := pe_imp (pe_not ha) fun σ H Q q => tD_1 (r := fun x H1 Q => ∃ k, x = .bl k ∧ Q (.bl (!k)) H1) (fun ρ S G H d v Q W sb r h q => by
  unfold notR at q
  split at q
  · simp only [Dat] at h
    exact ⟨_, h, q _ ρ G H r (Go.refl sb) (by simp only [Dat])⟩
  · exact q.elim) q
def tAndD (fa fb : FT) : FT := fun δ S => (fa δ S).bind fun x S => if x = true then fb δ S else .ok false S
def tOrD (fa fb : FT) : FT := fun δ S => (fa δ S).bind fun x S => if x = true then .ok true S else fb δ S
def tNotD (fa : FT) : FT := fun δ S => (fa δ S).bind fun x S => .ok (!x) S
variable {ga gb : FT}
theorem dw_and1 (h : DT c X W a ga) : DW_ c X W (.BoolOp .And [a] pos) ga := pw_and1 h
theorem dw_or1 (h : DT c X W a ga) : DW_ c X W (.BoolOp .Or [a] pos) ga := pw_or1 h
theorem dw_and (ha : DT c X W a ga) (hb : DW_ c X W (.BoolOp .And (b :: rest) pos) gb) : DW_ c X W (.BoolOp .And (a :: b :: rest) pos) (tAndD ga gb) := pw_imp (pw_and ha hb) fun σ H Q q => by
  obtain ⟨δ, S, ρ, G, sb, hl, hr, h⟩ := q
  refine ⟨δ, S, ρ, G, sb, hl, hr, ?_⟩
  unfold tAndD at h
  rw [wp_bind] at h
  refine wp_mono h (fun b S1 h1 ρ1 G1 H1 r1 e1 => ?_) (fun _ _ z => z)
  cases b with
  | true =>
    rw [if_pos rfl] at h1 ⊢
    exact ⟨δ, S1, ρ1, G1, e1.sub, hl.ext e1.ext, r1, wpT_go h1 e1⟩
  | false =>
    rw [if_neg (by decide)] at h1 ⊢
    exact h1 ρ1 G1 H1 r1 e1
theorem dw_or (ha : DT c X W a ga) (hb : DW_ c X W (.BoolOp .Or (b :: rest) pos) gb) : DW_ c X W (.BoolOp .Or (a :: b :: rest) pos) (tOrD ga gb) := pw_imp (pw_or ha hb) fun σ H Q q => by
  obtain ⟨δ, S, ρ, G, sb, hl, hr, h⟩ := q
  refine ⟨δ, S, ρ, G, sb, hl, hr, ?_⟩
  unfold tOrD at h
  rw [wp_bind] at h
  refine wp_mono h (fun b S1 h1 ρ1 G1 H1 r1 e1 => ?_) (fun _ _ z => z)
  cases b with
  | true =>
    rw [if_pos rfl] at h1 ⊢
    exact h1 ρ1 G1 H1 r1 e1
  | false =>
    rw [if_neg (by decide)] at h1 ⊢
    exact ⟨δ, S1, ρ1, G1, e1.sub, hl.ext e1.ext, r1, wpT_go h1 e1⟩
theorem dt_w (h : DW_ c X W e ga) : DT c X W e ga := h.pt
theorem dt_not (ha : DT c X W a ga) : DT c X W (.UnaryOp .Not a pos) (tNotD ga) := pt_imp (pt_not ha) fun σ H Q q => by
  obtain ⟨δ, S, ρ, G, sb, hl, hr, h⟩ := q
  refine ⟨δ, S, ρ, G, sb, hl, hr, ?_⟩
  unfold tNotD at h
  rw [wp_bind] at h
  exact wp_mono h (fun b S1 h1 ρ1 G1 H1 r1 e1 => h1 ρ1 G1 H1 r1 e1) (fun _ _ z => z)
def eIf (ft : FT) (fa fb : FE) : FE := fun δ S => (ft δ S).bind fun x S => if x = true then fa δ S else fb δ S
theorem de_if {t : Expr} {ft : FT} (ht : DT c X W t ft) (ha : DE c X W a fa) (hb : DE c X W b fb) : DE c X W (.IfExp t a b pos) (eIf ft fa fb) := pe_imp (pe_ifExp ht ha hb) fun σ H Q q => by
  obtain ⟨δ, S, ρ, G, sb, hl, hr, h⟩ := q
  refine ⟨δ, S, ρ, G, sb, hl, hr, ?_⟩
  unfold eIf at h
  rw [wp_bind] at h
  refine wp_mono h (fun b S1 h1 ρ1 G1 H1 r1 e1 => ?_) (fun _ _ z => z)
  cases b with
  | true =>
    rw [if_pos rfl] at h1 ⊢
    exact ⟨δ, S1, ρ1, G1, e1.sub, hl.ext e1.ext, r1, wpE_go h1 e1⟩
  | false =>
    rw [if_neg (by decide)] at h1 ⊢
    exact ⟨δ, S1, ρ1, G1, e1.sub, hl.ext e1.ext, r1, wpE_go h1 e1⟩
end
end DW
namespace DW
open PySem PySem.Spec PyProof.Rows L2
/-! ### statements -/
def sNext : FS := fun δ S => .nx δ S
def sSeq (f g : FS) : FS := fun δ S => (f δ S).seq g
def sExpr (fa : FE) : FS := fun δ S => (fa δ S).go δ fun _ S => .nx δ S
def sRet (fa : FE) : FS := fun δ S => (fa δ S).go δ fun d S => .rt d S
def sRetN : FS := fun _ S => .rt .non S
def sBad : FS := fun _ _ => .bad
def sIf (ft : FT) (f g : FS) : FS := fun δ S => (ft δ S).go δ fun b S => if b = true then f δ S else g δ S
def sSet (i : Nat) (fa : FE) : FS := fun δ S => (fa δ S).go δ fun d S => .nx (δ.set i (some d)) S
def sPar (i j : Nat) (fr : FA) : FS := fun δ S => (fr δ S).go δ fun l S => match l with
  | [x, y] => .nx ((δ.set i (some x)).set j (some y)) S
  | _ => .bad
def sPar3 (i j k : Nat) (fr : FA) : FS := fun δ S => (fr δ S).go δ fun l S => match l with
  | [x, y, z] => .nx (((δ.set i (some x)).set j (some y)).set k (some z)) S
  | _ => .bad
def sAug (i : Nat) (fa : FE) (g : D → D → Sto → R D) : FS := fun δ S => match δ[i]? with
  | some (some x) => (fa δ S).go δ fun y S => (g x y S).go δ fun z S => .nx (δ.set i (some z)) S
  | _ => .bad
section
variable {c : Cc} {X : Cx} {W : WX} {e : Expr} {fa : FE} {fr : FA} {f g : FS} {pos : Pos} {st : Stmt} {sts : List Stmt}
theorem dss_nil : DSs c X W [] sNext := pss_imp pss_nil fun D σ H h => by
  obtain ⟨δ, S, ρ, G, sb, hl, hr, h⟩ := h
  exact h σ ρ G H hr (Go.refl sb) hl
theorem dss_one (h : DS c X W st f) : DSs c X W [st] f := pss_one h
theorem dss_cons (h1 : DS c X W st f) (h2 : DSs c X W sts g) : DSs c X W (st :: sts) (sSeq f g) := pss_imp (pss_cons h1 h2) fun D σ H h => by
  obtain ⟨δ, S, ρ, G, sb, hl, hr, h⟩ := h
  refine ⟨δ, S, ρ, G, sb, hl, hr, ?_⟩
  unfold sSeq at h
  rw [wpS_seq] at h
  refine wpS_mono h (fun δ1 S1 h1 σ1 ρ1 G1 H1 r1 e1 l1 => ?_) (fun _ _ z => z) fun _ _ _ z => z
  exact ⟨δ1, S1, ρ1, G1, e1.sub, l1, r1, wpS_goE h1 e1⟩
theorem wpS_goX {α : Type} {r : R α} {δ : Dl} {f : α → Sto → RS} {ρ : List Addr} {G H : Hp} {σ : L2.St} {N : Dl → Sto → Prop} {T : D → Sto → Prop} (hl : Loc c ρ G δ σ) (h : wpS (r.go δ f) N T (kXS c ρ G H W)) : wp r (fun a s => wpS (f a s) N T (kXS c ρ G H W)) (kX c ρ G H fun cls d H' => W cls d σ H') := by
  rw [wpS_go] at h
  exact wp_mono h (fun _ _ z => z) fun e s z ρ1 G1 H1 cls d r1 e1 dx => z σ ρ1 G1 H1 cls d r1 e1 (hl.ext e1.ext) dx
theorem ds_expr (h : DE c X W e fa) (hs : swapsWith e none pos.line X.env = pure false := by rfl) : DS c X W (.Expr e pos) (sExpr fa) := ps_imp (ps_expr h hs) fun D σ H h => by
  obtain ⟨δ, S, ρ, G, sb, hl, hr, h⟩ := h
  refine ⟨δ, S, ρ, G, sb, hl, hr, ?_⟩
  exact wp_mono (wpS_goX hl h) (fun d S1 h1 v ρ1 G1 H1 r1 e1 dv => h1 σ ρ1 G1 H1 r1 e1 (hl.ext e1.ext)) fun _ _ z => z
theorem ds_ret (h : DE c X W e fa) : DS c X W (.Return (some e) pos) (sRet fa) := ps_imp (ps_ret h) fun D σ H h => by
  obtain ⟨δ, S, ρ, G, sb, hl, hr, h⟩ := h
  refine ⟨δ, S, ρ, G, sb, hl, hr, ?_⟩
  exact wp_mono (wpS_goX hl h) (fun d S1 h1 v ρ1 G1 H1 r1 e1 dv => h1 v ρ1 G1 H1 r1 e1 dv) fun _ _ z => z
theorem ds_if {t : Expr} {a b : List Stmt} {ft : FT} (ht : DT c X W t ft) (ha : DSs c X W a f) (hb : DSs c X W b g) : DS c X W (.If t a b pos) (sIf ft f g) := ps_imp (ps_if ht ha hb) fun D σ H h => by
  obtain ⟨δ, S, ρ, G, sb, hl, hr, h⟩ := h
  refine ⟨δ, S, ρ, G, sb, hl, hr, ?_⟩
  refine wp_mono (wpS_goX hl h) (fun b S1 h1 ρ1 G1 H1 r1 e1 => ?_) fun _ _ z => z
  cases b with
  | true =>
    rw [if_pos rfl] at h1 ⊢
    exact ⟨δ, S1, ρ1, G1, e1.sub, hl.ext e1.ext, r1, wpS_goE h1 e1⟩
  | false =>
    rw [if_neg (by decide)] at h1 ⊢
    exact ⟨δ, S1, ρ1, G1, e1.sub, hl.ext e1.ext, r1, wpS_goE h1 e1⟩
theorem ds_set {i : Nat} {x : Str} {pos' : Pos} (hN : X.N.Nodup) (hi : X.N[i]? = some x) (hx : L2.Loc X.env.scope x) (h : DE c X W e fa) (hs : swapsWith e (some (.Name x pos')) pos.line X.env = pure false := by rfl) (hf : X.fn x = true ∨ X.env.scope.names.lookup x = some .local := by first | exact .inl rfl | exact .inr rfl | assumption) :
    DS c X W (.Assign [.Name x pos'] e pos) (sSet i fa) := ps_imp (ps_set hN hi hx h hs hf) fun D σ H h => by
  obtain ⟨δ, S, ρ, G, sb, hl, hr, h⟩ := h
  refine ⟨δ, S, ρ, G, sb, hl, hr, ?_⟩
  exact wp_mono (wpS_goX hl h) (fun d S1 h1 v ρ1 G1 H1 r1 e1 dv => h1 _ ρ1 G1 H1 r1 e1 ((hl.ext e1.ext).set i dv)) fun _ _ z => z
theorem DatAll.two {ρ : List Addr} {G : Hp} {x y : D} {vs : List V} (h : DatAll c ρ G [x, y] vs) : ∃ v w, vs = [v, w] ∧ Dat c ρ G x v ∧ Dat c ρ G y w := by
  simp only [DatAll] at h
  obtain ⟨v, r, rfl, h1, w, r2, rfl, h2, rfl⟩ := h
  exact ⟨v, w, rfl, h1, h2⟩
theorem DatAll.three {ρ : List Addr} {G : Hp} {x y z : D} {vs : List V} (h : DatAll c ρ G [x, y, z] vs) : ∃ v w u, vs = [v, w, u] ∧ Dat c ρ G x v ∧ Dat c ρ G y w ∧ Dat c ρ G z u := by
  simp only [DatAll] at h
  obtain ⟨v, r, rfl, h1, w, r2, rfl, h2, u, r3, rfl, h3, rfl⟩ := h
  exact ⟨v, w, u, rfl, h1, h2, h3⟩
theorem ds_par {i j : Nat} {x y : Str} {a b : Expr} {px py pt : Pos} {kt k2 pt2} (hc : X.calm = true) (hN : X.N.Nodup) (hi : X.N[i]? = some x) (hj : X.N[j]? = some y) (hij : i ≠ j)
    (hx : X.env.scope.names.lookup x = some .local) (hy : X.env.scope.names.lookup y = some .local) (ha : DA c X W [a, b] fr)
    (hw : swappedStores [.Tuple [.Name x px, .Name y py] kt pt] (.Tuple [a, b] k2 pt2) X.env = pure (some [x, y]) := by rfl)
    (hs : swapsWithSole [.Tuple [.Name x px, .Name y py] kt pt] (.Tuple [a, b] k2 pt2) pos.line X.env = pure false := by rfl) :
    DS c X W (.Assign [.Tuple [.Name x px, .Name y py] kt pt] (.Tuple [a, b] k2 pt2) pos) (sPar i j fr) := ps_imp (ps_par hc hN hi hj hij hx hy ha hw hs) fun D σ H h => by
  obtain ⟨δ, S, ρ, G, sb, hl, hr, h⟩ := h
  refine ⟨δ, S, ρ, G, sb, hl, hr, ?_⟩
  refine wp_mono (wpS_goX hl h) (fun l S1 h1 vs ρ1 G1 H1 r1 e1 dv => ?_) fun _ _ z => z
  split at h1
  · obtain ⟨v, w, rfl, d1, d2⟩ := dv.two
    exact ⟨v, w, rfl, h1 _ ρ1 G1 H1 r1 e1 (((hl.ext e1.ext).set i d1).set j d2)⟩
  · exact h1.elim
noncomputable def iaddD : D → D → Sto → R D
  | .int i, .int j, S => .ok (.int (i + j)) S
  | .str x, .str y, S => .chk (x.length + y.length ≤ sizeLine) (.ok (.str (x ++ y)) S)
  | _, _, _ => .bad
end
/-! ### while -/
def whileN (ft : FT) (fb : FS) : Nat → FS
  | 0 => fun _ _ => .bad
  | n + 1 => fun δ S => (ft δ S).go δ fun b S => if b = true then (fb δ S).seq (whileN ft fb n) else .nx δ S
@[irreducible] def fuel : Nat := 2 ^ 62
theorem fuel_eq : fuel = 2 ^ 62 := by unfold fuel; rfl
def sWhile (ft : FT) (fb : FS) : FS := whileN ft fb fuel
section
variable {c : Cc} {X : Cx} {W : WX} {t : Expr} {ft : FT} {fb : FS} {pos : Pos} {body : List Stmt}
theorem ds_while (hp : PassesOwn (model X.prog X.w) X.A X.env X.xe) (ht : DT c X W t ft) (hb : DSs c X W body fb) : DS c X W (.While t body [] pos) (sWhile ft fb) := ps_imp (ps_while hp ht hb) fun D σ H h => by
  refine ⟨fun m σ H => tDS c W (whileN ft fb m) D σ H, ⟨fuel, h⟩, fun m σ H h => ?_⟩
  obtain ⟨δ, S, ρ, G, sb, hl, hr, h⟩ := h
  cases m with
  | zero => exact h.elim
  | succ n =>
    refine ⟨δ, S, ρ, G, sb, hl, hr, ?_⟩
    refine wp_mono (wpS_goX hl h) (fun b S1 h1 ρ1 G1 H1 r1 e1 => ?_) fun _ _ z => z
    cases b with
    | false =>
      rw [if_neg (by decide)] at h1 ⊢
      exact h1 _ ρ1 G1 H1 r1 e1 (hl.ext e1.ext)
    | true =>
      rw [if_pos rfl] at h1 ⊢
      refine ⟨fun σ' H' => tDS c W (whileN ft fb n) D σ' H', fun σ' H' z => ⟨n, Nat.lt_succ_self n, z⟩, δ, S1, ρ1, G1, e1.sub, hl.ext e1.ext, r1, ?_⟩
      rw [wpS_seq] at h1
      refine wpS_mono h1 (fun δ2 S2 h2 σ2 ρ2 G2 H2 r2 e2 l2 => ?_) (fun _ _ z => z.go e1) fun _ _ _ z => z.go e1
      exact ⟨δ2, S2, ρ2, G2, e2.sub, l2, r2, wpS_goE (wpS_goE h2 e1) e2⟩
end
/-! ### targets -/
abbrev FG := D → Dl → Sto → R Dl
abbrev FGs := List D → Dl → Sto → R Dl
def kG (c : Cc) (ρ : List Addr) (G H : Hp) (Q : L2.St → Hp → Prop) : Dl → Sto → Prop := fun δ' S' => ∀ σ' ρ' G' H', Rep c ρ' S' G' → Go c ρ G H ρ' G' H' → DW.Loc c ρ' G' δ' σ' → Q σ' H'
def tDG (c : Cc) (g : FG) : TG := fun v σ H Q => ∃ d δ S ρ G, Sub c G H ∧ Dat c ρ G d v ∧ DW.Loc c ρ G δ σ ∧ Rep c ρ S G ∧ wp (g d δ S) (kG c ρ G H Q) (fun _ _ => False)
def tDGs (c : Cc) (g : FGs) : TGs := fun vs σ H Q => ∃ ds δ S ρ G, Sub c G H ∧ DatAll c ρ G ds vs ∧ DW.Loc c ρ G δ σ ∧ Rep c ρ S G ∧ wp (g ds δ S) (kG c ρ G H Q) (fun _ _ => False)
theorem pg_imp {X : Cx} {e : Expr} {u v : TG} (h : PG X e u) (m : ∀ x σ H Q, v x σ H Q → u x σ H Q) : PG X e v := ⟨fun pins s σ H x y Q I r q => h.run pins s σ H x y Q I r (m x σ H Q q)⟩
theorem pgs_imp {X : Cx} {e : List Expr} {u v : TGs} (h : PGs X e u) (m : ∀ x σ H Q, v x σ H Q → u x σ H Q) : PGs X e v := ⟨fun pins s σ H x y Q I r q => h.run pins s σ H x y Q I r (m x σ H Q q)⟩
abbrev DG (c : Cc) (X : Cx) (e : Expr) (g : FG) : Prop := PG X e (tDG c g)
abbrev DGs (c : Cc) (X : Cx) (e : List Expr) (g : FGs) : Prop := PGs X e (tDGs c g)
def gNm (i : Nat) : FG := fun d δ S => .ok (δ.set i (some d)) S
def gsNil : FGs := fun l δ S => match l with
  | [] => .ok δ S
  | _ => .bad
def gsCons (g : FG) (gs : FGs) : FGs := fun l δ S => match l with
  | d :: r => (g d δ S).bind fun δ S => gs r δ S
  | [] => .bad
section
variable {c : Cc} {X : Cx} {W : WX} {e : Expr} {es : List Expr} {g : FG} {gs : FGs} {pos : Pos} {fa : FE}
theorem dg_nm {i : Nat} {x : Str} (hN : X.N.Nodup) (hi : X.N[i]? = some x) (hx : L2.Loc X.env.scope x) (hf : X.fn x = true ∨ X.env.scope.names.lookup x = some .local := by first | exact .inl rfl | exact .inr rfl | assumption) : DG c X (.Name x pos) (gNm i) := pg_imp (pg_name hN hi hx hf) fun v σ H Q h => by
  obtain ⟨d, δ, S, ρ, G, sb, dv, hl, hr, h⟩ := h
  exact h _ ρ G H hr (Go.refl sb) (hl.set i dv)
theorem dgs_nil : DGs c X [] gsNil := pgs_imp pgs_nil fun vs σ H Q h => by
  obtain ⟨ds, δ, S, ρ, G, sb, dv, hl, hr, h⟩ := h
  unfold gsNil at h
  split at h
  · simp only [DatAll] at dv
    exact ⟨dv, h _ ρ G H hr (Go.refl sb) hl⟩
  · exact h.elim
theorem dgs_cons (h1 : DG c X e g) (h2 : DGs c X es gs) (hs : (assignEach (e :: es) X.env).map (·.2) = assign e X.env :: (assignEach es X.env).map (·.2) := by rfl) : DGs c X (e :: es) (gsCons g gs) := pgs_imp (pgs_cons h1 h2 hs) fun vs σ H Q h => by
  obtain ⟨ds, δ, S, ρ, G, sb, dv, hl, hr, h⟩ := h
  unfold gsCons at h
  split at h
  · simp only [DatAll] at dv
    obtain ⟨v, r, rfl, d1, d2⟩ := dv
    rw [wp_bind] at h
    refine ⟨v, r, rfl, _, δ, S, ρ, G, sb, d1, hl, hr, wp_mono h (fun δ1 S1 h1 σ1 ρ1 G1 H1 r1 e1 l1 => ?_) fun _ _ z => z⟩
    exact ⟨_, δ1, S1, ρ1, G1, e1.sub, DatAll.ext e1.ext _ d2, l1, r1, wp_mono h1 (fun _ _ z σ2 ρ2 G2 H2 r2 e2 l2 => z σ2 ρ2 G2 H2 r2 (e1.trans e2) l2) fun _ _ z => z⟩
  · exact h.elim
def gTupD (n : Nat) (gs : FGs) : FG := fun d δ S => match d with
  | .tup l => if l.length = n then gs l δ S else .bad
  | _ => .bad
theorem dg_tup {k n : Nat} (hc : X.calm = true) (h : DGs c X es gs) (hn : (assignEach es X.env).length = n := by rfl) (hst : (assignEach es X.env).findIdx? (·.1) = none := by rfl)
    (hK : X.K = c.K := by rfl) : DG c X (.Tuple es k pos) (gTupD n gs) := pg_imp (pg_tup hc h hn hst) fun v σ H Q h => by
  obtain ⟨d, δ, S, ρ, G, sb, dv, hl, hr, h⟩ := h
  unfold gTupD at h
  split at h
  · simp only [Dat] at dv
    obtain ⟨a, xs, rfl, f, q⟩ := dv
    split at h
    · rename_i z
      exact ⟨a, xs, rfl, by rw [hK]; exact sb.sqT f.sq, by rw [q.length]; exact z, _, δ, S, ρ, G, sb, q, hl, hr, h⟩
    · exact h.elim
  · exact h.elim
def sAsg (fa : FE) (g : FG) : FS := fun δ S => (fa δ S).go δ fun d S => match g d δ S with
  | .ok δ' S' => .nx δ' S'
  | _ => .bad
theorem ds_asg {tg : Expr} (he : DE c X W e fa) (hg : DG c X tg g) (hs : swapsWithSole [tg] e pos.line X.env = pure false := by rfl) (hw : swappedStores [tg] e X.env = pure none := by rfl)
    (h1 : (assignEach [tg] X.env).map (·.2) = [assign tg X.env] := by rfl) : DS c X W (.Assign [tg] e pos) (sAsg fa g) := ps_imp (ps_asg he hg hs hw h1) fun D σ H h => by
  obtain ⟨δ, S, ρ, G, sb, hl, hr, h⟩ := h
  refine ⟨δ, S, ρ, G, sb, hl, hr, ?_⟩
  refine wp_mono (wpS_goX hl h) (fun d S1 h1 v ρ1 G1 H1 r1 e1 dv => ?_) fun _ _ z => z
  refine ⟨d, δ, S1, ρ1, G1, e1.sub, dv, hl.ext e1.ext, r1, ?_⟩
  split at h1
  · rename_i e2
    rw [e2]
    exact fun σ2 ρ2 G2 H2 r2 x2 l2 => h1 σ2 ρ2 G2 H2 r2 (e1.trans x2) l2
  · exact h1.elim
def sAsg2 (fa : FE) (g1 g2 : FG) : FS := fun δ S => (fa δ S).go δ fun d S => match g1 d δ S with
  | .ok δ' S' => match g2 d δ' S' with
    | .ok δ2 S2 => .nx δ2 S2
    | _ => .bad
  | _ => .bad
end
end DW
namespace DW
open PySem PySem.Spec PyProof.Rows L2
/-! ### what is walked -/
structure Itm where
  src : Sto → Prop
  items : List D
structure ItOk (c : Cc) (J : It) (ρ0 : List Addr) (G0 H0 : Hp) (it : Itm) : Prop where
  stop : ∀ ρ S G H i, Go c ρ0 G0 H0 ρ G H → Rep c ρ S G → it.src S → it.items.length ≤ i → J.stop i H
  go : ∀ ρ S G H i, Go c ρ0 G0 H0 ρ G H → Rep c ρ S G → it.src S → i < it.items.length → J.go i H
  yld : ∀ ρ S G H i x H' d, Go c ρ0 G0 H0 ρ G H → Rep c ρ S G → it.src S → it.items[i]? = some d → J.yld i H x H' → ∃ G', Go c ρ G H ρ G' H' ∧ Rep c ρ S G' ∧ Dat c ρ G' d x
abbrev FI := Dl → Sto → R Itm
def tDI (c : Cc) (W : WX) (f : FI) : TI := fun σ H Rr => ∃ δ S ρ G, Sub c G H ∧ Loc c ρ G δ σ ∧ Rep c ρ S G ∧ wp (f δ S) (fun it S' => ∀ J ρ' G' H', Rep c ρ' S' G' → Go c ρ G H ρ' G' H' → ItOk c J ρ' G' H' it → Rr J H') (kX c ρ G H fun cls d H' => W cls d σ H')
abbrev DI (c : Cc) (X : Cx) (W : WX) (tg e : Expr) (f : FI) : Prop := PI X tg e (tDI c W f)
theorem pi_imp {X : Cx} {tg e : Expr} {u v : TI} (h : PI X tg e u) (m : ∀ σ H Q, v σ H Q → u σ H Q) : PI X tg e v := ⟨fun pins s σ H Q I q => h.run pins s σ H Q I (m σ H Q q)⟩
theorem pi_or {X : Cx} {tg e : Expr} {u v : TI} (h : PI X tg e u) (h' : PI X tg e v) : PI X tg e (fun σ H Q => u σ H Q ∨ v σ H Q) := ⟨fun pins s σ H Q I q => by
  rcases q with q | q
  · exact h.run pins s σ H Q I q
  · exact h'.run pins s σ H Q I q⟩
noncomputable def iSeq (fa : FE) : FI := fun δ S => (fa δ S).bind fun d S => match d with
  | .str z => .ok ⟨fun _ => True, z.cps.toList.map fun k => .str ⟨#[k]⟩⟩ S
  | d => match d.seq S with
    | some l => .ok ⟨fun S => d.seq S = some l, l⟩ S
    | none => .bad
section
variable {c : Cc} {X : Cx} {W : WX} {tg a : Expr} {fa : FE} {pos : Pos}
theorem seq_later {ρ ρ0 : List Addr} {S : Sto} {G0 G H0 H : Hp} {d : D} {l : List D} {b : Addr} (g : Go c ρ0 G0 H0 ρ G H) (r : Rep c ρ S G) (h : Dat c ρ0 G0 d (.ref b)) (e : d.seq S = some l) (nt : ∀ m, d ≠ .tup m) : ∃ xs, SqL c.K H b xs ∧ DatAll c ρ G l xs := by
  have h1 := Dat.ext g.ext d h
  have e' : d.rseq S = some l := by
    cases d <;> first | exact e | (cases e; done) | exact absurd rfl (nt _)
  obtain ⟨a, xs, z1, z2, z3⟩ := D.rseq_sq r h1 e'
  cases z1
  exact ⟨xs, g.sub.sqL z2, z3⟩
theorem itok_list {ρ0 : List Addr} {G0 H0 : Hp} {d : D} {l : List D} {b : Addr} (hK : X.K = c.K) (h : Dat c ρ0 G0 d (.ref b)) (nt : ∀ m, d ≠ .tup m) : ItOk c (Itl X.K b) ρ0 G0 H0 ⟨fun S => d.seq S = some l, l⟩ where
  stop := fun ρ S G H i g r s hi => by
    obtain ⟨xs, z1, z2⟩ := seq_later g r h s nt
    exact ⟨xs, by rw [hK]; exact z1, by rw [z2.length]; exact hi⟩
  go := fun ρ S G H i g r s hi => by
    obtain ⟨xs, z1, z2⟩ := seq_later g r h s nt
    obtain ⟨v, e1, _⟩ := z2.get (List.getElem?_eq_getElem hi)
    exact ⟨xs, v, by rw [hK]; exact z1, e1⟩
  yld := fun ρ S G H i x H' d' g r s hd hy => by
    obtain ⟨xs, z1, z2⟩ := seq_later g r h s nt
    obtain ⟨v, e1, e2⟩ := z2.get hd
    obtain ⟨rfl, hx⟩ := hy
    have := hx xs (by rw [hK]; exact z1)
    rw [e1] at this
    cases this
    exact ⟨G, Go.refl g.sub, r, e2⟩
theorem itok_tup {ρ0 : List Addr} {G0 H0 : Hp} {l : List D} {b : Addr} (hK : X.K = c.K) (h : Dat c ρ0 G0 (.tup l) (.ref b)) : ItOk c (Itt X.K b) ρ0 G0 H0 ⟨fun S => (D.tup l).seq S = some l, l⟩ := by
  have key : ∀ ρ S G H, Go c ρ0 G0 H0 ρ G H → Rep c ρ S G → ∃ xs, SqT X.K H b xs ∧ DatAll c ρ G l xs := fun ρ S G H g r => by
    have h1 := Dat.ext g.ext _ h
    simp only [Dat] at h1
    obtain ⟨a, xs, z1, z2, z3⟩ := h1
    cases z1
    exact ⟨xs, by rw [hK]; exact g.sub.sqT z2.sq, z3⟩
  refine ⟨fun ρ S G H i g r s hi => ?_, fun ρ S G H i g r s hi => ?_, fun ρ S G H i x H' d' g r s hd hy => ?_⟩
  · obtain ⟨xs, z1, z2⟩ := key ρ S G H g r
    exact ⟨xs, z1, by rw [z2.length]; exact hi⟩
  · obtain ⟨xs, z1, z2⟩ := key ρ S G H g r
    obtain ⟨v, e1, _⟩ := z2.get (List.getElem?_eq_getElem hi)
    exact ⟨xs, v, z1, e1⟩
  · obtain ⟨xs, z1, z2⟩ := key ρ S G H g r
    obtain ⟨v, e1, e2⟩ := z2.get hd
    obtain ⟨rfl, hx⟩ := hy
    have := hx xs z1
    rw [e1] at this
    cases this
    exact ⟨G, Go.refl g.sub, r, e2⟩
theorem itok_str {ρ0 : List Addr} {G0 H0 : Hp} {z : Str} : ItOk c (Its z) ρ0 G0 H0 ⟨fun _ => True, z.cps.toList.map fun k => .str ⟨#[k]⟩⟩ where
  stop := fun ρ S G H i g r s hi => by
    show z.cps.size ≤ i
    simpa using hi
  go := fun ρ S G H i g r s hi => by
    show i < z.cps.size
    simpa using hi
  yld := fun ρ S G H i x H' d' g r s hd hy => by
    obtain ⟨rfl, k, e1, rfl⟩ := hy
    simp only [List.getElem?_map] at hd
    rw [Array.getElem?_toList, e1] at hd
    cases hd
    exact ⟨G, Go.refl g.sub, r, by simp only [Dat]⟩
theorem di_seq (ha : DE c X W a fa) (hK : X.K = c.K := by rfl) : DI c X W tg a (iSeq fa) := pi_imp (pi_or (pi_list ha) (pi_or (pi_tup ha) (pi_str ha))) fun σ H Q h => by
  obtain ⟨δ, S, ρ, G, sb, hl, hr, h⟩ := h
  unfold iSeq at h
  rw [wp_bind] at h
  generalize hr0 : fa δ S = r0 at h
  cases r0 with
  | bad => exact h.elim
  | ex e s => exact .inl ⟨δ, S, ρ, G, sb, hl, hr, by rw [hr0]; exact h⟩
  | ok d S1 =>
    rw [wp_ok] at h
    by_cases hs : ∃ z, d = .str z
    · obtain ⟨z, rfl⟩ := hs
      refine .inr (.inr ⟨δ, S, ρ, G, sb, hl, hr, ?_⟩)
      rw [hr0]
      intro v ρ1 G1 H1 r1 e1 dv
      simp only [Dat] at dv
      exact ⟨z, dv, h _ ρ1 G1 H1 r1 e1 itok_str⟩
    · by_cases ht : ∃ m, d = .tup m
      · obtain ⟨m, rfl⟩ := ht
        refine .inr (.inl ⟨δ, S, ρ, G, sb, hl, hr, ?_⟩)
        rw [hr0]
        intro v ρ1 G1 H1 r1 e1 dv
        have dv' := dv
        simp only [Dat] at dv'
        obtain ⟨b, xs, rfl, z2, z3⟩ := dv'
        exact ⟨b, rfl, ⟨xs, by rw [hK]; exact e1.sub.sqT z2.sq⟩, h _ ρ1 G1 H1 r1 e1 (itok_tup hK dv)⟩
      · refine .inl ⟨δ, S, ρ, G, sb, hl, hr, ?_⟩
        rw [hr0]
        intro v ρ1 G1 H1 r1 e1 dv
        split at h
        · exact absurd ⟨_, rfl⟩ hs
        · split at h
          · rename_i l e2
            have e3 : d.rseq S1 = some l := by
              cases d <;> first | exact e2 | (cases e2; done) | exact absurd ⟨_, rfl⟩ ht
            obtain ⟨b, xs, rfl, z2, z3⟩ := D.rseq_sq r1 dv e3
            exact ⟨b, rfl, ⟨xs, by rw [hK]; exact e1.sub.sqL z2⟩, h _ ρ1 G1 H1 r1 e1 (itok_list hK dv fun m z => ht ⟨m, z⟩)⟩
          · exact h.elim
/-! ### range -/
noncomputable def iRange1 (fr : FA) : FI := fun δ S => (fr δ S).bind fun l S => match l with
  | [.int j] => .chk (-(2 ^ 62) ≤ j ∧ j < 2 ^ 62) (.ok ⟨fun _ => True, (List.range j.toNat).map fun (k : Nat) => .int (k : Int)⟩ S)
  | _ => .bad
noncomputable def iRange2 (fr : FA) : FI := fun δ S => (fr δ S).bind fun l S => match l with
  | [.int i, .int j] => .chk (-(2 ^ 62) ≤ i ∧ i < 2 ^ 62 ∧ -(2 ^ 62) ≤ j ∧ j < 2 ^ 62) (.ok ⟨fun _ => True, (List.range (j - i).toNat).map fun (k : Nat) => .int (i + k)⟩ S)
  | _ => .bad
theorem itok_range {ρ0 : List Addr} {G0 H0 : Hp} {lo : Int} {n : Nat} {g : Nat → Int} (hg : ∀ k : Nat, g k = lo + k) : ItOk c (Itr lo n) ρ0 G0 H0 ⟨fun _ => True, (List.range n).map fun (k : Nat) => .int (g k)⟩ where
  stop := fun ρ S G H i g r s hi => by
    show n ≤ i
    simpa using hi
  go := fun ρ S G H i g r s hi => by
    show i < n
    simpa using hi
  yld := fun ρ S G H i x H' d' g' r s hd hy => by
    obtain ⟨rfl, rfl⟩ := hy
    simp only [List.getElem?_map] at hd
    by_cases hi : i < n
    · rw [List.getElem?_range hi] at hd
      cases hd
      exact ⟨G, Go.refl g'.sub, r, by simp only [Dat]; rw [hg]⟩
    · rw [List.getElem?_eq_none (by simpa using hi)] at hd
      cases hd
variable {b : Expr} {fr : FA}
theorem di_range1 {p : Pos} (hg : Gl X "range") (hm : X.mg "range" = none) (ha : DA c X W [a] fr) (hs : starEach [a] X.env = [(false, eval a X.env)] := by rfl) : DI c X W tg (.Call (.Name "range" p) [a] [] pos) (iRange1 fr) := pi_imp (pi_range1 hg hm ha hs) fun σ H Q h => by
  obtain ⟨δ, S, ρ, G, sb, hl, hr, h⟩ := h
  refine ⟨δ, S, ρ, G, sb, hl, hr, ?_⟩
  unfold iRange1 at h
  rw [wp_bind] at h
  refine wp_mono h (fun l S1 h1 vs ρ1 G1 H1 r1 e1 dv => ?_) fun _ _ z => z
  split at h1
  · rename_i j
    rw [wp_chk] at h1
    simp only [DatAll] at dv
    obtain ⟨v, r, rfl, d1, rfl⟩ := dv
    simp only [Dat] at d1
    subst d1
    exact ⟨j, rfl, h1.1.1, h1.1.2, h1.2 _ ρ1 G1 H1 r1 e1 (itok_range fun k => by omega)⟩
  · exact h1.elim
theorem di_range2 {p : Pos} (hg : Gl X "range") (hm : X.mg "range" = none) (ha : DA c X W [a, b] fr) (hs : starEach [a, b] X.env = [(false, eval a X.env), (false, eval b X.env)] := by rfl) (hs2 : starEach [b] X.env = [(false, eval b X.env)] := by rfl) : DI c X W tg (.Call (.Name "range" p) [a, b] [] pos) (iRange2 fr) := pi_imp (pi_range2 hg hm ha hs hs2) fun σ H Q h => by
  obtain ⟨δ, S, ρ, G, sb, hl, hr, h⟩ := h
  refine ⟨δ, S, ρ, G, sb, hl, hr, ?_⟩
  unfold iRange2 at h
  rw [wp_bind] at h
  refine wp_mono h (fun l S1 h1 vs ρ1 G1 H1 r1 e1 dv => ?_) fun _ _ z => z
  split at h1
  · rename_i i j
    rw [wp_chk] at h1
    obtain ⟨v, w, rfl, d1, d2⟩ := dv.two
    simp only [Dat] at d1 d2
    subst d1
    subst d2
    exact ⟨i, j, rfl, h1.1, h1.2 _ ρ1 G1 H1 r1 e1 (itok_range fun k => rfl)⟩
  · exact h1.elim
/-! ### enumerate, zip -/
def numbered : Nat → List D → List D
  | _, [] => []
  | n, d :: l => .tup [.int (n : Int), d] :: numbered (n + 1) l
theorem numbered_len : ∀ (l : List D) (n : Nat), (numbered n l).length = l.length
  | [], _ => rfl
  | _ :: l, n => by simp [numbered, numbered_len l]
theorem numbered_get : ∀ (l : List D) (n i : Nat), (numbered n l)[i]? = (l[i]?).map fun d => D.tup [.int ((n + i : Nat) : Int), d]
  | [], _, _ => by simp [numbered]
  | d :: l, n, 0 => by simp [numbered]
  | d :: l, n, i + 1 => by
    simp only [numbered, List.getElem?_cons_succ]
    rw [numbered_get l (n + 1) i]
    congr 2
    funext d
    congr 4
    omega
def iEnumD (fr : FA) : FI := fun δ S => (fr δ S).bind fun l S => match l with
  | [d] => match d.rseq S with
    | some l => .ok ⟨fun S => d.rseq S = some l, numbered 0 l⟩ S
    | none => .bad
  | _ => .bad
theorem rseq_later {ρ ρ0 : List Addr} {S : Sto} {G0 G H0 H : Hp} {d : D} {l : List D} {b : Addr} (g : Go c ρ0 G0 H0 ρ G H) (r : Rep c ρ S G) (h : Dat c ρ0 G0 d (.ref b)) (e : d.rseq S = some l) : ∃ xs, SqL c.K H b xs ∧ DatAll c ρ G l xs := by
  obtain ⟨a, xs, z1, z2, z3⟩ := D.rseq_sq r (Dat.ext g.ext d h) e
  cases z1
  exact ⟨xs, g.sub.sqL z2, z3⟩
theorem itok_enum {ρ0 : List Addr} {G0 H0 : Hp} {d : D} {l : List D} {b : Addr} (hK : X.K = c.K) (h : Dat c ρ0 G0 d (.ref b)) : ItOk c (Ite X.K b) ρ0 G0 H0 ⟨fun S => d.rseq S = some l, numbered 0 l⟩ where
  stop := fun ρ S G H i g r s hi => by
    obtain ⟨xs, z1, z2⟩ := rseq_later g r h s
    exact ⟨xs, by rw [hK]; exact z1, by rw [z2.length]; simpa [numbered_len] using hi⟩
  go := fun ρ S G H i g r s hi => by
    obtain ⟨xs, z1, z2⟩ := rseq_later g r h s
    obtain ⟨v, e1, _⟩ := z2.get (List.getElem?_eq_getElem (by simpa [numbered_len] using hi))
    exact ⟨xs, v, by rw [hK]; exact z1, e1⟩
  yld := fun ρ S G H i x H' d' g r s hd hy => by
    obtain ⟨xs, z1, z2⟩ := rseq_later g r h s
    have hd : (numbered 0 l)[i]? = some d' := hd
    rw [numbered_get] at hd
    cases q : l[i]? with
    | none =>
      rw [q] at hd
      cases hd
    | some d1 =>
      rw [q] at hd
      cases hd
      obtain ⟨v, e1, e2⟩ := z2.get q
      obtain ⟨T, x1, rfl, hT, rfl, hx⟩ := hy
      have := hx xs (by rw [hK]; exact z1)
      rw [e1] at this
      cases this
      refine ⟨_, Go.new g.sub hT, r.new (g.sub.free hT), Dat.newT r (g.sub.free hT) (.cons ?_ (.cons e2 .nil))⟩
      simp only [Dat, Nat.zero_add]
theorem di_enum {p tpos : Pos} {elts : List Expr} {kk : Nat} (hg : Gl X "enumerate") (hm : X.mg "enumerate" = none) (ha : DA c X W [a] fr) (hs : starEach [a] X.env = [(false, eval a X.env)] := by rfl) (hK : X.K = c.K := by rfl) :
    DI c X W (.Tuple elts kk tpos) (.Call (.Name "enumerate" p) [a] [] pos) (iEnumD fr) := pi_imp (pi_enum hg hm ha hs) fun σ H Q h => by
  obtain ⟨δ, S, ρ, G, sb, hl, hr, h⟩ := h
  refine ⟨δ, S, ρ, G, sb, hl, hr, ?_⟩
  unfold iEnumD at h
  rw [wp_bind] at h
  refine wp_mono h (fun l S1 h1 vs ρ1 G1 H1 r1 e1 dv => ?_) fun _ _ z => z
  split at h1
  · simp only [DatAll] at dv
    obtain ⟨v, r, rfl, d1, rfl⟩ := dv
    split at h1
    · rename_i l e2
      obtain ⟨b, xs, rfl, z2, z3⟩ := D.rseq_sq r1 d1 e2
      exact ⟨b, xs, rfl, by rw [hK]; exact e1.sub.sqL z2, h1 _ ρ1 G1 H1 r1 e1 (itok_enum hK d1)⟩
    · exact h1.elim
  · exact h1.elim
end
/-! ### for -/
open Classical in
noncomputable def chkS (p : Prop) (r : RS) : RS := if p then r else .bad
theorem wpS_chk {p : Prop} {r : RS} {N : Dl → Sto → Prop} {T : D → Sto → Prop} {E : Xc → Dl → Sto → Prop} : wpS (chkS p r) N T E = (p ∧ wpS r N T E) := by
  unfold chkS
  by_cases h : p
  · simp [h]
  · simp [h, wpS]
def R.goT (r : R Dl) (f : Dl → Sto → RS) : RS := match r with
  | .ok δ S => f δ S
  | _ => .bad
theorem wpS_goT {r : R Dl} {f : Dl → Sto → RS} {N : Dl → Sto → Prop} {T : D → Sto → Prop} {E : Xc → Dl → Sto → Prop} : wpS (r.goT f) N T E = wp r (fun δ S => wpS (f δ S) N T E) fun _ _ => False := by cases r <;> rfl
noncomputable def forL (src : Sto → Prop) (g : FG) (fb : FS) : List D → FS
  | [] => fun δ S => chkS (src S) (.nx δ S)
  | d :: r => fun δ S => chkS (src S) ((g d δ S).goT fun δ S => (fb δ S).seq (forL src g fb r))
noncomputable def sFor (fi : FI) (g : FG) (fb : FS) : FS := fun δ S => (fi δ S).go δ fun it S => forL it.src g fb it.items δ S
section
variable {c : Cc} {X : Cx} {W : WX} {tg iter : Expr} {fi : FI} {g : FG} {fb : FS} {pos : Pos} {body : List Stmt}
theorem ds_for (hp : PassesOwn (model X.prog X.w) X.A X.env X.xe) (hc : X.calm = true) (hi : DI c X W tg iter fi) (hg : DG c X tg g) (hb : DSs c X W body fb) (hs : ∀ x, foldedSetIterable iter X.env x = pure x := by intro _; rfl) : DS c X W (.For tg iter body [] pos) (sFor fi g fb) := ps_imp (ps_for hp hc hi hg hb hs) fun D σ H h => by
  obtain ⟨δ, S, ρ, G, sb, hl, hr, h⟩ := h
  refine ⟨δ, S, ρ, G, sb, hl, hr, ?_⟩
  refine wp_mono (wpS_goX hl h) (fun it S1 h1 J ρ1 G1 H1 r1 e1 ok => ?_) fun _ _ z => z
  refine ⟨fun i m σ H => m = it.items.length - i ∧ i ≤ it.items.length ∧ ∃ δ S ρ G, Go c ρ1 G1 H1 ρ G H ∧ Loc c ρ G δ σ ∧ Rep c ρ S G ∧ wpS (forL it.src g fb (it.items.drop i) δ S) (kN c ρ G H D.nx) (kE c ρ G H D.rt) (kXS c ρ G H W),
    ⟨it.items.length, by simp, Nat.zero_le _, δ, S1, ρ1, G1, Go.refl e1.sub, hl.ext e1.ext, r1, by rw [List.drop_zero]; exact wpS_goE h1 e1⟩, ?_⟩
  rintro i m σ H ⟨rfl, hi, δ, S, ρ, G, gg, hl, hr, h⟩
  by_cases hlt : i < it.items.length
  · have e2 := List.drop_eq_getElem_cons hlt
    rw [e2] at h
    unfold forL at h
    rw [wpS_chk] at h
    obtain ⟨hsrc, h⟩ := h
    refine .inr ⟨ok.go ρ S G H i gg hr hsrc hlt, fun σ' H' => i + 1 ≤ it.items.length ∧ ∃ δ S ρ G, Go c ρ1 G1 H1 ρ G H' ∧ Loc c ρ G δ σ' ∧ Rep c ρ S G ∧ wpS (forL it.src g fb (it.items.drop (i + 1)) δ S) (kN c ρ G H' D.nx) (kE c ρ G H' D.rt) (kXS c ρ G H' W),
      fun σ' H' z => ⟨it.items.length - (i + 1), by omega, rfl, z⟩, fun x H' y => ?_⟩
    obtain ⟨G', g1, r', dx⟩ := ok.yld ρ S G H i x H' _ gg hr hsrc (List.getElem?_eq_getElem hlt) y
    refine ⟨_, δ, S, ρ, G', g1.sub, dx, hl.ext g1.ext, r', ?_⟩
    rw [wpS_goT] at h
    refine wp_mono h (fun δ2 S2 h2 σ2 ρ2 G2 H2 r2 e2 l2 => ?_) fun _ _ z => z
    rw [wpS_seq] at h2
    have g12 := g1.trans e2
    refine ⟨δ2, S2, ρ2, G2, e2.sub, l2, r2, wpS_mono h2 (fun δ3 S3 h3 σ3 ρ3 G3 H3 r3 e3 l3 => ?_) (fun _ _ z => z.go g12) fun _ _ _ z => z.go g12⟩
    have g13 := g12.trans e3
    exact ⟨hlt, δ3, S3, ρ3, G3, gg.trans g13, l3, r3, wpS_goE h3 g13⟩
  · have e : i = it.items.length := by omega
    subst e
    rw [List.drop_length] at h
    unfold forL at h
    rw [wpS_chk] at h
    exact .inl ⟨ok.stop ρ S G H _ gg hr h.1 (Nat.le_refl _), h.2 σ ρ G H hr (Go.refl gg.sub) hl⟩
end
end DW
namespace DW
open PySem PySem.Spec PyProof.Rows L2
/-! ### comprehensions -/
inductive Pt where
  | nm (i : Nat) | tp (is : List Nat)
def ptNames : List Nat → TGs
  | [] => gNil
  | i :: r => gCons (gName i) (ptNames r)
def Pt.g (K : PySem.W.Frag) : Pt → TG
  | .nm i => gName i
  | .tp is => gTup K is.length (ptNames is)
def setAll : List Nat → List D → Dl → Dl
  | i :: is, d :: l, δ => setAll is l (δ.set i (some d))
  | _, _, δ => δ
def Pt.d : Pt → D → Dl → Option Dl
  | .nm i, d, δ => some (δ.set i (some d))
  | .tp is, .tup l, δ => if l.length = is.length then some (setAll is l δ) else none
  | _, _, _ => none
def Pt.slots : Pt → List Nat
  | .nm i => [i]
  | .tp is => is
def wipeD (δ : Dl) : List Nat → Dl
  | [] => δ
  | v :: vs => (wipeD δ vs).set v none
theorem Loc.unset {c : Cc} {ρ : List Addr} {G : Hp} {δ : Dl} {σ : L2.St} (h : Loc c ρ G δ σ) (i : Nat) : Loc c ρ G (δ.set i none) (σ.set i none) := by
  refine ⟨by rw [List.length_set, List.length_set]; exact h.len, fun j d e => ?_⟩
  rw [List.getElem?_set] at e ⊢
  by_cases hij : i = j
  · subst hij
    simp at e
  · rw [if_neg hij] at e ⊢
    exact h.at_ j d e
theorem Loc.wipe {c : Cc} {ρ : List Addr} {G : Hp} {δ : Dl} {σ : L2.St} (h : Loc c ρ G δ σ) : ∀ vs : List Nat, Loc c ρ G (wipeD δ vs) (L2.wipe σ vs)
  | [] => h
  | v :: vs => (h.wipe vs).unset v
theorem wipe_set {σ : L2.St} {i : Nat} {x : Option V} : ∀ {vs : List Nat}, i ∈ vs → wipe (σ.set i x) vs = wipe σ vs
  | v :: vs, h => by
    unfold wipe
    by_cases hm : i ∈ vs
    · rw [wipe_set hm]
    · have e : i = v := by
        rcases List.mem_cons.mp h with z | z
        · exact z
        · exact absurd z hm
      subst e
      have out : ∀ (ws : List Nat) (σ : L2.St), i ∉ ws → wipe (σ.set i x) ws = (wipe σ ws).set i x := fun ws => by
        induction ws with
        | nil => intro σ _; rfl
        | cons w ws ih =>
          intro σ hn
          have h1 : i ≠ w := fun z => hn (by rw [z]; exact List.mem_cons_self ..)
          have h2 : i ∉ ws := fun z => hn (List.mem_cons_of_mem _ z)
          unfold wipe
          rw [ih σ h2, List.set_comm _ _ h1]
      rw [out vs σ hm, List.set_set]
section
variable {c : Cc} {K : PySem.W.Frag} {ρ : List Addr} {G H : Hp}
theorem names_ok {vs : List Nat} {Q : L2.St → Hp → Prop} : ∀ (is : List Nat) {l : List D} {xs : List V} {δ : Dl} {σ : L2.St}, (∀ i ∈ is, i ∈ vs) → DatAll c ρ G l xs → l.length = is.length → Loc c ρ G δ σ → (∀ σ', Loc c ρ G (setAll is l δ) σ' → wipe σ' vs = wipe σ vs → Q σ' H) → ptNames is xs σ H Q
  | [], l, xs, δ, σ, _, h, hl, hL, q => by
    have : l = [] := List.eq_nil_of_length_eq_zero hl
    subst this
    simp only [DatAll] at h
    exact ⟨h, q σ hL rfl⟩
  | i :: is, l, xs, δ, σ, hi, h, hl, hL, q => by
    cases l with
    | nil => cases hl
    | cons d l =>
      simp only [DatAll] at h
      obtain ⟨y, r, rfl, h1, h2⟩ := h
      refine ⟨y, r, rfl, ?_⟩
      refine names_ok is (fun j hj => hi j (List.mem_cons_of_mem _ hj)) h2 (by simpa using hl) (hL.set i h1) fun σ' l' w' => q σ' l' ?_
      rw [w', wipe_set (hi i (List.mem_cons_self ..))]
theorem Pt.ok {vs : List Nat} {Q : L2.St → Hp → Prop} {p : Pt} {d : D} {v : V} {δ δ' : Dl} {σ : L2.St} (hK : K = c.K) (sb : Sub c G H) (hv : ∀ i ∈ p.slots, i ∈ vs) (h : Dat c ρ G d v) (hL : Loc c ρ G δ σ) (e : p.d d δ = some δ')
    (q : ∀ σ', Loc c ρ G δ' σ' → wipe σ' vs = wipe σ vs → Q σ' H) : p.g K v σ H Q := by
  cases p with
  | nm i =>
    cases e
    exact q _ (hL.set i h) (wipe_set (hv i (List.mem_cons_self ..)))
  | tp is =>
    cases d with
    | tup l =>
      unfold Pt.d at e
      dsimp only at e
      split at e
      · rename_i hl
        cases e
        simp only [Dat] at h
        obtain ⟨a, xs, rfl, f, hx⟩ := h
        exact ⟨a, xs, rfl, by rw [hK]; exact sb.sqT f.sq, by rw [hx.length]; exact hl, names_ok is hv hx hl hL q⟩
      · cases e
    | _ => cases e
end
def R.noX {α : Type} (r : R α) : R α := match r with
  | .ex _ _ => .bad
  | r => r
theorem wp_noX {α : Type} {r : R α} {Q : α → Sto → Prop} {E : Xc → Sto → Prop} : wp r.noX Q E = wp r Q fun _ _ => False := by cases r <;> rfl
def tYesD : FT := fun _ S => .ok true S
noncomputable def compL (src : Sto → Prop) (p : Pt) (vs : List Nat) (tt : FT) (fe : FE) (δ : Dl) : List D → List D → Sto → R (List D)
  | [], acc, S => .chk (src S) (.ok acc S)
  | d :: r, acc, S => .chk (src S) (match p.d d (wipeD δ vs) with
    | some δ' => (tt δ' S).noX.bind fun b S => if b = true then (fe δ' S).noX.bind fun y S => .chk (acc.length < sizeLine) (compL src p vs tt fe δ r (acc ++ [y]) S) else compL src p vs tt fe δ r acc S
    | none => .bad)
noncomputable def fComp (fi : FI) (p : Pt) (vs : List Nat) (tt : FT) (fe : FE) : FA := fun δ S => (fi δ S).bind fun it S => compL it.src p vs tt fe δ it.items [] S
def WN : WX := fun _ _ _ _ => False
section
variable {c : Cc} {X : Cx} {W : WX}
abbrev DTs (c : Cc) (X : Cx) (W : WX) (ifs : List Expr) (f : FT) : Prop := PTs X ifs (tDT c W f)
theorem dts_nil : DTs c X W [] tYesD := ⟨fun pins s σ H Q I q => pts_nil.run pins s σ H Q I (by
  obtain ⟨δ, S, ρ, G, sb, hl, hr, h⟩ := q
  exact h ρ G H hr (Go.refl sb))⟩
theorem dts_one {e : Expr} {f : FT} (h : DT c X W e f) : DTs c X W [e] f := pts_one h
theorem comp_ok (hK : X.K = c.K) {fi : FI} {p : Pt} {vs : List Nat} {tt : FT} {fe : FE} {σ : L2.St} {H : Hp} {Q : VK} (hv : ∀ i ∈ p.slots, i ∈ vs) (h : tF c W (fComp fi p vs tt fe) σ H Q) : tLc (tDI c W fi) (p.g X.K) (tDT c WN tt) (tD c WN fe) vs σ H Q := by
  obtain ⟨δ, S, ρ, G, sb, hl, hr, h⟩ := h
  refine ⟨δ, S, ρ, G, sb, hl, hr, ?_⟩
  unfold fComp at h
  rw [wp_bind] at h
  refine wp_mono h (fun it S1 h1 J ρ1 G1 H1 r1 e1 ok => ?_) fun _ _ z => z
  intro L hL
  refine ⟨fun i m H => m = it.items.length - i ∧ i ≤ it.items.length ∧ ∃ S ρ G acc xs, Go c ρ1 G1 H1 ρ G H ∧ Rep c ρ S G ∧ G L = none ∧ H L = some (.lst xs) ∧ DatAll c ρ G acc xs ∧ wp (compL it.src p vs tt fe δ (it.items.drop i) acc S) (kF c ρ1 G1 H1 Q) (fun _ _ => False),
    ⟨it.items.length, by simp, Nat.zero_le _, S1, ρ1, G1, [], [], Go.keep e1.sub (same_new hL), r1, e1.sub.free hL, upd_same, .nil, ?_⟩, ?_⟩
  · rw [List.drop_zero]
    have h1 := wpF_go h1 e1
    -- no exception comes out of the walk
    have key : ∀ (l acc : List D) (S : Sto) {Q : List D → Sto → Prop} {E : Xc → Sto → Prop}, wp (compL it.src p vs tt fe δ l acc S) Q E → wp (compL it.src p vs tt fe δ l acc S) Q fun _ _ => False := by
      intro l
      induction l with
      | nil =>
        intro acc S Q E h
        unfold compL at h ⊢
        rw [wp_chk] at h ⊢
        exact h
      | cons d r ih =>
        intro acc S Q E h
        unfold compL at h ⊢
        rw [wp_chk] at h ⊢
        refine ⟨h.1, ?_⟩
        have h := h.2
        split at h
        · rw [wp_bind, wp_noX] at h ⊢
          refine wp_mono h (fun b S2 h2 => ?_) fun _ _ z => z
          split at h2
          · rename_i hb
            rw [if_pos hb, wp_bind, wp_noX]
            rw [wp_bind, wp_noX] at h2
            refine wp_mono h2 (fun y S3 h3 => ?_) fun _ _ z => z
            rw [wp_chk] at h3 ⊢
            exact ⟨h3.1, ih _ _ h3.2⟩
          · rename_i hb
            rw [if_neg hb]
            exact ih _ _ h2
        · exact h.elim
    exact key _ _ _ h1
  · rintro i m H ⟨rfl, hi, S, ρ, G, acc, xs, gg, hr, gL, eL, da, h⟩
    by_cases hlt : i < it.items.length
    · have e2 := List.drop_eq_getElem_cons hlt
      rw [e2] at h
      unfold compL at h
      rw [wp_chk] at h
      obtain ⟨hsrc, h⟩ := h
      refine .inr ⟨ok.go ρ S G H i gg hr hsrc hlt, fun H' => i + 1 ≤ it.items.length ∧ ∃ S ρ G acc xs, Go c ρ1 G1 H1 ρ G H' ∧ Rep c ρ S G ∧ G L = none ∧ H' L = some (.lst xs) ∧ DatAll c ρ G acc xs ∧ wp (compL it.src p vs tt fe δ (it.items.drop (i + 1)) acc S) (kF c ρ1 G1 H1 Q) (fun _ _ => False),
        fun H' z => ⟨it.items.length - (i + 1), by omega, rfl, z⟩, fun x H' y => ?_⟩
      obtain ⟨G', g1, r', dx⟩ := ok.yld ρ S G H i x H' _ gg hr hsrc (List.getElem?_eq_getElem hlt) y
      obtain ⟨eL', gL'⟩ := g1.stay eL gL (fun _ z => by cases z)
      have hlw := ((hl.ext e1.ext).ext (gg.trans g1).ext).wipe vs
      split at h
      · rename_i δ' hp
        refine Pt.ok hK g1.sub hv dx hlw hp fun σ2 l2 w2 => ⟨?_, ?_⟩
        · rw [w2]
          have id : ∀ (ws : List Nat) (σ : L2.St), (∀ w ∈ vs, w ∈ vs) → wipe (wipe σ vs) vs = wipe σ vs := fun _ σ _ => by
            have aux : ∀ (us : List Nat) (τ : L2.St), (∀ u ∈ us, u ∈ vs) → wipe (wipe τ us) vs = wipe τ vs := fun us => by
              induction us with
              | nil => intro τ _; rfl
              | cons u us ih =>
                intro τ hu
                show wipe ((wipe τ us).set u none) vs = _
                rw [wipe_set (hu u (List.mem_cons_self ..)), ih τ fun w hw => hu w (List.mem_cons_of_mem _ hw)]
            exact aux vs σ fun _ h => h
          exact id vs σ fun _ h => h
        · refine ⟨δ', S, ρ, G', g1.sub, l2, r', ?_⟩
          rw [wp_bind, wp_noX] at h
          refine wp_mono h (fun b S2 h2 ρ2 G2 H2 r2 e2 => ?_) fun _ _ z => z.elim
          have g12 := g1.trans e2
          obtain ⟨eL2, gL2⟩ := g12.stay eL gL (fun _ z => by cases z)
          cases b with
          | false =>
            rw [if_neg (by decide)] at h2
            dsimp only
            rw [if_neg (by decide)]
            exact ⟨hlt, S2, ρ2, G2, acc, xs, gg.trans g12, r2, gL2, eL2, DatAll.ext g12.ext _ da, h2⟩
          | true =>
            rw [if_pos rfl] at h2
            dsimp only
            rw [if_pos rfl]
            refine ⟨δ', S2, ρ2, G2, e2.sub, l2.ext e2.ext, r2, ?_⟩
            rw [wp_bind, wp_noX] at h2
            refine wp_mono h2 (fun z S3 h3 v3 ρ3 G3 H3 r3 e3 d3 => ?_) fun _ _ z => z.elim
            have g13 := g12.trans e3
            obtain ⟨eL3, gL3⟩ := g13.stay eL gL (fun _ z => by cases z)
            rw [wp_chk] at h3
            have da3 := DatAll.ext g13.ext _ da
            refine ⟨xs, eL3, by rw [da3.length]; exact h3.1, hlt, S3, ρ3, G3, acc ++ [z], xs ++ [v3], ?_, r3, gL3, upd_same, da3.append (.cons d3 .nil), h3.2⟩
            have t := gg.trans g13
            exact t.poke hL gL3 eL3
      · exact h.elim
    · have e : i = it.items.length := by omega
      subst e
      rw [List.drop_length] at h
      unfold compL at h
      rw [wp_chk] at h
      exact .inl ⟨ok.stop ρ S G H _ gg hr h.1 (Nat.le_refl _), h.2 L xs ρ G H hr gg (fun o e _ => by rw [hL] at e; cases e) gL eL da⟩
end
end DW
namespace DW
open PySem PySem.Spec PyProof.Rows L2
/-! ### comprehensions as values and stored -/
section
variable {c : Cc} {X : Cx} {W : WX} {f : FA} {fa : FE} {σ : L2.St} {H : Hp} {Q : VK}
theorem tF_mut (q : tD c W (eMut f) σ H Q) : tF c W f σ H Q := by
  obtain ⟨δ, S, ρ, G, sb, hl, hr, h⟩ := q
  refine ⟨δ, S, ρ, G, sb, hl, hr, ?_⟩
  unfold eMut at h
  rw [wp_bind] at h
  refine wp_mono h (fun l S1 h1 a xs ρ1 G1 H1 r1 e1 f na ea da => ?_) (fun _ _ z => z)
  have x : Ext ρ1 G1 (ρ1 ++ [a]) (upd G1 a (.lst xs)) := Ext.alloc (same_new na) na
  refine h1 (.ref a) (ρ1 ++ [a]) _ H1 (r1.alloc (same_new na) na ⟨xs, upd_same, DatAll.ext x l da⟩) (Go.take' e1 f na ea x) ?_
  simp only [Dat]
  exact ⟨a, rfl, by rw [← r1.len]; simp⟩
theorem tDS_set {i : Nat} {D : Ends} (h : tDS c W (sSet i fa) D σ H) : tD c W fa σ H (fun x H1 => D.nx (σ.set i (some x)) H1) := by
  obtain ⟨δ, S, ρ, G, sb, hl, hr, h⟩ := h
  refine ⟨δ, S, ρ, G, sb, hl, hr, ?_⟩
  exact wp_mono (wpS_goX hl h) (fun d S1 h1 v ρ1 G1 H1 r1 e1 dv => h1 _ ρ1 G1 H1 r1 e1 ((hl.ext e1.ext).set i dv)) fun _ _ z => z
variable {elt tg iter : Expr} {ifs : List Expr} {scope : Scope} {own : List (Str × Nat)} {pos : Pos} {fi : FI} {p : Pt} {tt : FT} {fe : FE}
theorem df_comp (hc : X.calm = true) (hN : X.N.Nodup) (hi : DI c X W tg iter fi) (ok : BlkOk X.N X.env.scope scope own)
    (hg : ∀ (s : Shared) (H : Hp) (C : Addr) (cl : List (Str × Addr)) (fp : List Addr), PG (X.blk s H scope (compEnvC scope cl C X.env) fp) tg (p.g X.K))
    (ht : ∀ (s : Shared) (H : Hp) (C : Addr) (cl : List (Str × Addr)) (fp : List Addr), DTs c (X.blk s H scope (compEnvC scope cl C X.env) fp) WN ifs tt)
    (he : ∀ (s : Shared) (H : Hp) (C : Addr) (cl : List (Str × Addr)) (fp : List Addr), DE c (X.blk s H scope (compEnvC scope cl C X.env) fp) WN elt fe) (hv : ∀ i ∈ p.slots, i ∈ own.map (·.2) := by decide)
    (hs : ∀ x, foldedSetIterable iter X.env x = pure x := by intro _; rfl) (hK : X.K = c.K := by rfl) : DF c X W (.ListComp elt [⟨tg, iter, ifs, 0⟩] scope pos) (fComp fi p (own.map (·.2)) tt fe) :=
  pe_imp (pe_lc hc hN hi ok hg ht he hs) fun σ H Q q => comp_ok hK hv q
theorem ds_compM {i : Nat} {y : Str} {py spos : Pos} (hc : X.calm = true) (hN : X.N.Nodup) (hy : X.N[i]? = some y) (hyl : X.env.scope.names.lookup y = some .local)
    (hsw : swapsWith (.ListComp elt [⟨tg, iter, ifs, 0⟩] scope pos) (some (.Name y py)) spos.line X.env = pure true) (hi : DI c X W tg iter fi) (ok : BlkOk X.N X.env.scope scope own)
    (hg : ∀ (s : Shared) (H : Hp) (C : Addr) (cl : List (Str × Addr)) (fp : List Addr), PG (X.blk s H scope (compEnvC scope cl C X.env) fp) tg (p.g X.K))
    (ht : ∀ (s : Shared) (H : Hp) (C : Addr) (cl : List (Str × Addr)) (fp : List Addr), DTs c (X.blk s H scope (compEnvC scope cl C X.env) fp) WN ifs tt)
    (he : ∀ (s : Shared) (H : Hp) (C : Addr) (cl : List (Str × Addr)) (fp : List Addr), DE c (X.blk s H scope (compEnvC scope cl C X.env) fp) WN elt fe) (hv : ∀ i ∈ p.slots, i ∈ own.map (·.2) := by decide)
    (hs : ∀ x, foldedSetIterable iter X.env x = pure x := by intro _; rfl) (hK : X.K = c.K := by rfl) : DS c X W (.Assign [.Name y py] (.ListComp elt [⟨tg, iter, ifs, 0⟩] scope pos) spos) (sSet i (eMut (fComp fi p (own.map (·.2)) tt fe))) :=
  ps_imp (ps_setLc hc hN hy hyl hsw hi ok hg ht he hs) fun D σ H q => comp_ok hK hv (tF_mut (tDS_set q))
theorem pt_nm {i : Nat} {x : Str} (hN : X.N.Nodup) (hi : X.N[i]? = some x) (hx : L2.Loc X.env.scope x) (hf : X.fn x = true ∨ X.env.scope.names.lookup x = some .local := by first | exact .inl rfl | exact .inr rfl | assumption) : PG X (.Name x pos) ((Pt.nm i).g X.K) := pg_name hN hi hx hf
end
/-! ### pairs of names and data -/
section
variable {κ : Type} [DecidableEq κ]
def kget : List κ → List D → κ → Option D
  | k' :: ks, d :: l, k => if k' = k then some d else kget ks l k
  | _, _, _ => none
def kputL : List κ → List D → κ → D → List D
  | k' :: ks, d' :: l, k, d => if k' = k then d :: l else d' :: kputL ks l k d
  | _, _, _, d => [d]
def kputK (ks : List κ) (k : κ) : List κ := if k ∈ ks then ks else ks ++ [k]
end
section
variable {c : Cc} {ρ : List Addr} {G : Hp} {κ : Type} [DecidableEq κ]
theorem kget_val : ∀ {ks : List κ} {l : List D} {xs : List V} {k : κ} {d : D}, DatAll c ρ G l xs → kget ks l k = some d → ∃ v, valV (ks.zip xs) k = some v ∧ Dat c ρ G d v
  | [], _, _, _, _, _, e => by simp [kget] at e
  | _ :: _, [], _, _, _, _, e => by simp [kget] at e
  | k' :: ks, d' :: l, xs, k, d, h, e => by
    simp only [DatAll] at h
    obtain ⟨y, r, rfl, h1, h2⟩ := h
    unfold kget at e
    by_cases hk : k' = k
    · rw [if_pos hk] at e
      cases e
      exact ⟨y, by simp [valV, hk], h1⟩
    · rw [if_neg hk] at e
      obtain ⟨v, q1, q2⟩ := kget_val h2 e
      refine ⟨v, ?_, q2⟩
      unfold valV at q1 ⊢
      rw [List.zip_cons_cons, List.find?_cons_of_neg (by simpa using hk)]
      exact q1
theorem any_zip : ∀ {ks : List κ} {xs : List V} {k : κ}, ks.length = xs.length → ((ks.zip xs).any fun kv => decide (kv.1 = k)) = decide (k ∈ ks)
  | [], _, _, _ => by simp
  | _ :: _, [], _, h => by simp at h
  | k' :: ks, x :: xs, k, h => by
    rw [List.zip_cons_cons, List.any_cons, any_zip (by simpa using h)]
    by_cases e : k' = k
    · simp [e]
    · simp [e, Ne.symm e]
theorem map_noop : ∀ {ks : List κ} {xs : List V} {k : κ} {v : V}, k ∉ ks → (ks.zip xs).map (fun kv => if kv.1 = k then (kv.1, v) else kv) = ks.zip xs
  | [], _, _, _, _ => by simp
  | _ :: _, [], _, _, _ => by simp
  | k' :: ks, x :: xs, k, v, h => by
    have h1 : k' ≠ k := fun z => h (by rw [z]; exact List.mem_cons_self ..)
    rw [List.zip_cons_cons, List.map_cons, map_noop fun z => h (List.mem_cons_of_mem _ z), if_neg h1]
theorem kput_val (ks : List κ) (hn : ks.Nodup) {l : List D} {xs : List V} {k : κ} {d : D} {v : V} (h : DatAll c ρ G l xs) (hl : ks.length = l.length) (q : Dat c ρ G d v) :
    ∃ ys, putK (ks.zip xs) k v = (kputK ks k).zip ys ∧ DatAll c ρ G (kputL ks l k d) ys ∧ (kputK ks k).length = (kputL ks l k d).length := by
  have hx : ks.length = xs.length := by rw [hl, h.length]
  unfold putK kputK
  rw [any_zip hx]
  by_cases hk : k ∈ ks
  · rw [if_pos (by simpa using hk), if_pos hk]
    clear hx
    revert l xs
    induction ks with
    | nil => cases hk
    | cons k' ks ih =>
      intro l xs h hl
      cases l with
      | nil => cases hl
      | cons d' l =>
        simp only [DatAll] at h
        obtain ⟨y, r, rfl, h1, h2⟩ := h
        obtain ⟨n1, n2⟩ := List.nodup_cons.mp hn
        by_cases e : k' = k
        · subst e
          refine ⟨v :: r, ?_, ?_, ?_⟩
          · rw [List.zip_cons_cons, List.map_cons, if_pos rfl, map_noop n1, List.zip_cons_cons]
          · unfold kputL
            rw [if_pos rfl]
            exact .cons q h2
          · unfold kputL
            rw [if_pos rfl]
            simpa using hl
        · have hk' : k ∈ ks := by
            rcases List.mem_cons.mp hk with z | z
            · exact absurd z.symm e
            · exact z
          obtain ⟨ys, q1, q2, q3⟩ := ih n2 hk' h2 (by simpa using hl)
          refine ⟨y :: ys, ?_, ?_, ?_⟩
          · rw [List.zip_cons_cons, List.map_cons, if_neg e, q1, List.zip_cons_cons]
          · unfold kputL
            rw [if_neg e]
            exact .cons h1 q2
          · unfold kputL
            rw [if_neg e]
            simpa using q3
  · rw [if_neg (by simpa using hk), if_neg hk]
    refine ⟨xs ++ [v], ?_, ?_, ?_⟩
    · rw [List.zip_append hx]
      rfl
    · clear hx
      revert l xs
      induction ks with
      | nil =>
        intro l xs h hl
        have : l = [] := List.eq_nil_of_length_eq_zero hl.symm
        subst this
        simp only [DatAll] at h
        subst h
        exact .cons q .nil
      | cons k' ks ih =>
        intro l xs h hl
        cases l with
        | nil => cases hl
        | cons d' l =>
          simp only [DatAll] at h
          obtain ⟨y, r, rfl, h1, h2⟩ := h
          have e : k' ≠ k := fun z => hk (by rw [z]; exact List.mem_cons_self ..)
          unfold kputL
          rw [if_neg e]
          exact .cons h1 (ih (List.nodup_cons.mp hn).2 (fun z => hk (List.mem_cons_of_mem _ z)) h2 (by simpa using hl))
    · clear hx
      revert l xs
      induction ks with
      | nil =>
        intro l xs h hl
        have : l = [] := List.eq_nil_of_length_eq_zero hl.symm
        subst this
        rfl
      | cons k' ks ih =>
        intro l xs h hl
        cases l with
        | nil => cases hl
        | cons d' l =>
          simp only [DatAll] at h
          obtain ⟨y, r, rfl, h1, h2⟩ := h
          have e : k' ≠ k := fun z => hk (by rw [z]; exact List.mem_cons_self ..)
          unfold kputL
          rw [if_neg e]
          have := ih (List.nodup_cons.mp hn).2 (fun z => hk (List.mem_cons_of_mem _ z)) h2 (by simpa using hl)
          simp only [List.length_append, List.length_cons, List.length_nil] at this ⊢
          omega
end
end DW
namespace DW
open PySem PySem.Spec PyProof.Rows L2
theorem kputK_nd {κ : Type} [DecidableEq κ] {ks : List κ} {k : κ} (h : ks.Nodup) : (kputK ks k).Nodup := by
  unfold kputK
  by_cases hk : k ∈ ks
  · rw [if_pos hk]
    exact h
  · rw [if_neg hk, List.nodup_append]
    exact ⟨h, by simp, fun a ha b hb z => hk (by
      have : b = k := by simpa using hb
      rw [← this, ← z]
      exact ha)⟩
/-! ### dicts -/
def D.keyOf : D → Option Key
  | .int i => some (.inl i)
  | .str x => some (.inr x)
  | _ => none
def D.dict (S : Sto) : D → Option (List Key × List D)
  | .dct ks l => some (ks, l)
  | .ref n => match S[n]? with
    | some (.dct ks l) => some (ks, l)
    | _ => none
  | _ => none
section
variable {c : Cc} {X : Cx} {W : WX} {ρ : List Addr} {S : Sto} {G H : Hp}
theorem keyOf_eq {d : D} {v : V} {k : Key} (h : Dat c ρ G d v) (e : d.keyOf = some k) : v = kV k := by
  cases d <;> simp only [Dat] at h <;> first | (cases e; done) | (simp only [D.keyOf, Option.some.injEq] at e; rw [h, ← e]; rfl)
theorem dict_at {d : D} {v : V} {ks : List Key} {l : List D} (r : Rep c ρ S G) (h : Dat c ρ G d v) (e : d.dict S = some (ks, l)) : ∃ a xs, v = .ref a ∧ G a = some (.dK (ks.zip xs)) ∧ ks.length = l.length ∧ DatAll c ρ G l xs := by
  cases d with
  | dct ks' l' =>
    simp only [Dat] at h
    obtain ⟨a, xs, e1, _, e2, e3, e4⟩ := h
    cases e
    exact ⟨a, xs, e1, e2, e3, e4⟩
  | ref n =>
    unfold D.dict at e
    dsimp only at e
    split at e
    · rename_i ks' l' q
      cases e
      obtain ⟨a, e1, _, xs, e2, ⟨e3, _⟩, e4⟩ := dat_ref r h q
      exact ⟨a, xs, e1, e2, e3, e4⟩
    · cases e
  | _ => cases e
def dixD (d k : D) (S : Sto) : R D := match d.dict S, k.keyOf with
  | some (ks, l), some k => match kget ks l k with
    | some x => .ok x S
    | none => .bad
  | _, _ => .bad
variable {a b e : Expr} {fa fb fe : FE} {pos : Pos}
theorem de_dix (hu : X.A.units + 1 < cLine) (ha : DE c X W a fa) (hb : DE c X W b fb) (hs : NoSl b := by intro _ _; rfl) : DE c X W (.Subscript a b pos) (e2 dixD fa fb) := pe_imp (pe_dget hu ha hb hs) fun σ H Q q => tD_2 (r := fun x y H2 Q => ∃ a v, x = .ref a ∧ DGet H2 a y (some v) ∧ Q v H2) (fun ρ S G H d1 d2 v1 v2 Q W sb r h1 h2 q => by
  unfold dixD at q
  split at q
  · rename_i ks l k e1 e2
    split at q
    · rename_i x e3
      obtain ⟨a, xs, z1, z2, z3, z4⟩ := dict_at r h1 e1
      obtain ⟨v, y1, y2⟩ := kget_val z4 e3
      refine ⟨a, v, z1, ?_, q v ρ G H r (Go.refl sb) y2⟩
      rw [keyOf_eq h2 e2, ← y1]
      exact DGet.k (sb _ _ z2)
    · exact q.elim
  · exact q.elim) q
noncomputable def dputD (d k v : D) (S : Sto) : R Unit := match d, k.keyOf with
  | .ref n, some k => match S[n]? with
    | some (.dct ks l) => .chk (ks.length < sizeLine) (.ok () (S.set n (.dct (kputK ks k) (kputL ks l k v))))
    | _ => .bad
  | _, _ => .bad
noncomputable def lputD (d k v : D) (S : Sto) : R Unit := match d, k with
  | .ref n, .int i => match S[n]? with
    | some (.lst l) => match ixN l.length i with
      | some j => .ok () (S.set n (.lst (l.set j v)))
      | none => .bad
    | _ => .bad
  | _, _ => .bad
noncomputable def sPut (g : D → D → D → Sto → R Unit) (fd fk fv : FE) : FS := fun δ S => (fv δ S).go δ fun v S => (fd δ S).go δ fun d S => (fk δ S).go δ fun k S => (g d k v S).go δ fun _ S => .nx δ S
theorem put3 {fd fk fv : FE} {g : D → D → D → Sto → R Unit} {r : V → V → V → Hp → (Hp → Prop) → Prop} {σ : L2.St} {H : Hp} {D : Ends}
    (s : ∀ ρ S G H d k v vd vk vv R, Sub c G H → Rep c ρ S G → Dat c ρ G d vd → Dat c ρ G k vk → Dat c ρ G v vv → wp (g d k v S) (fun _ S' => ∀ G' H', Rep c ρ S' G' → Go c ρ G H ρ G' H' → R H') (fun _ _ => False) → r vd vk vv H R)
    (gx : ∀ d k v S, (∃ S', g d k v S = .ok () S') ∨ g d k v S = .bad)
    (h : tDS c W (sPut g fd fk fv) D σ H) : tD c W fv σ H fun v H1 => tD c W fd σ H1 fun x H2 => tD c W fk σ H2 fun y H3 => r x y v H3 (D.nx σ) := by
  obtain ⟨δ, S, ρ, G, sb, hl, hr, h⟩ := h
  refine ⟨δ, S, ρ, G, sb, hl, hr, ?_⟩
  refine wp_mono (wpS_goX hl h) (fun dv S1 h1 vv ρ1 G1 H1 r1 e1 dvv => ?_) fun _ _ z => z
  have l1 := hl.ext e1.ext
  refine ⟨δ, S1, ρ1, G1, e1.sub, l1, r1, ?_⟩
  refine wp_mono (wpS_goX l1 (wpS_goE h1 e1)) (fun dd S2 h2 vd ρ2 G2 H2 r2 e2 ddv => ?_) fun _ _ z => z
  have l2 := l1.ext e2.ext
  refine ⟨δ, S2, ρ2, G2, e2.sub, l2, r2, ?_⟩
  refine wp_mono (wpS_goX l2 (wpS_goE h2 e2)) (fun dk S3 h3 vk ρ3 G3 H3 r3 e3 dkv => ?_) fun _ _ z => z
  have l3 := l2.ext e3.ext
  have h3 := wpS_goE h3 e3
  refine s ρ3 S3 G3 H3 dd dk dv vd vk vv _ e3.sub r3 (Dat.ext e3.ext _ ddv) dkv (Dat.ext (e2.trans e3).ext _ dvv) ?_
  rcases gx dd dk dv S3 with ⟨S', e⟩ | e
  · rw [e] at h3 ⊢
    exact fun G' H' r' g' => h3 σ ρ3 G' H' r' g' (l3.ext g'.ext)
  · rw [e] at h3
    exact h3.elim
theorem ds_dput {pos' : Pos} (hu : X.A.units + 1 < cLine) (ha : DE c X W a fa) (hb : DE c X W b fb) (he : DE c X W e fe) (hs : swapsWith e (some (.Subscript a b pos')) pos.line X.env = pure false := by rfl) : DS c X W (.Assign [.Subscript a b pos'] e pos) (sPut dputD fa fb fe) :=
  ps_imp (ps_dput hu ha hb he hs) fun D σ H h => put3 (r := fun x y v H3 R => ∃ a H4, x = .ref a ∧ DPut H3 a y v H4 ∧ R H4) (fun ρ S G H d k v vd vk vv R sb r h1 h2 h3 q => by
    unfold dputD at q
    split at q
    · rename_i n k e1
      split at q
      · rename_i ks l e2
        rw [wp_chk] at q
        obtain ⟨p, z1, z2, xs, z3, ⟨z4, z5⟩, z6⟩ := dat_ref r h1 e2
        obtain ⟨ys, y1, y2, y3⟩ := kput_val ks z5 z6 z4 h3 (k := k)
        have go : Go c ρ G H ρ (upd G p (.dK (putK (ks.zip xs) k vv))) (upd H p (.dK (putK (ks.zip xs) k vv))) := Go.write sb z2 z3
        refine ⟨p, _, z1, ?_, q.2 _ _ (r.write z2 ⟨ys, by rw [upd_same, y1], ⟨y3, kputK_nd z5⟩, DatAll.ext go.ext _ y2⟩) go⟩
        rw [keyOf_eq h2 e1]
        refine DPut.k (sb _ _ z3) ?_
        rw [List.length_zip, z6.length, z4, Nat.min_self, ← z4]
        exact q.1
      · exact q.elim
    · exact q.elim) (fun d k v S => by
      unfold dputD
      split
      · split
        · unfold R.chk
          split
          · exact .inl ⟨_, rfl⟩
          · exact .inr rfl
        · exact .inr rfl
      · exact .inr rfl) h
theorem ds_lput {pos' : Pos} (ha : DE c X W a fa) (hb : DE c X W b fb) (he : DE c X W e fe) (hs : swapsWithSole [.Subscript a b pos'] e pos.line X.env = pure false := by rfl) (hw : swappedStores [.Subscript a b pos'] e X.env = pure none := by rfl)
    (h1 : (assignEach [.Subscript a b pos'] X.env).map (·.2) = [assign (.Subscript a b pos') X.env] := by rfl)
    (h2 : ∀ v, assign (.Subscript a b pos') X.env v = (do
      let ov ← holding [v] (eval a X.env)
      let iv ← holding [v, ov] (eval b X.env)
      standAt pos'
      holding [v, ov, iv] (setItem ov iv v)
      release [v, ov, iv] []) := by intro _; rfl) : DS c X W (.Assign [.Subscript a b pos'] e pos) (sPut lputD fa fb fe) :=
  ps_imp (ps_asg he (pg_sub ha hb set_list h2) hs hw h1) fun D σ H h => put3 (r := fun x y v H3 R => rSetL x y v H3 R) (fun ρ S G H d k v vd vk vv R sb r h1 h2 h3 q => by
    unfold lputD at q
    split at q
    · rename_i n i
      split at q
      · rename_i l e2
        split at q
        · rename_i j e3
          simp only [Dat] at h2
          obtain ⟨p, z1, z2, xs, z3, z4⟩ := dat_ref r h1 e2
          have go : Go c ρ G H ρ (upd G p (.lst (xs.set j vv))) (upd H p (.lst (xs.set j vv))) := Go.write sb z2 z3
          exact ⟨p, xs, i, j, z1, h2, sb _ _ z3, by rw [z4.length]; exact e3, q _ _ (r.write z2 ⟨_, upd_same, DatAll.ext go.ext _ (z4.set j h3)⟩) go⟩
        · exact q.elim
      · exact q.elim
    · exact q.elim) (fun d k v S => by
      unfold lputD
      split
      · split
        · split
          · exact .inl ⟨_, rfl⟩
          · exact .inr rfl
        · exact .inr rfl
      · exact .inr rfl) h
end
end DW
namespace DW
open PySem PySem.Spec PyProof.Rows L2
/-! ### fields -/
def D.fields (S : Sto) (n : Str) : D → Option (List Str × List D)
  | .ins m ns l => if m = n then some (ns, l) else none
  | .ref k => match S[k]? with
    | some (.ins m ns l) => if m = n then some (ns, l) else none
    | _ => none
  | _ => none
theorem lookup_val {fs : List (Str × V)} {f : Str} : fs.lookup f = valV fs f := by
  induction fs with
  | nil => rfl
  | cons p fs ih =>
    obtain ⟨k, v⟩ := p
    unfold valV at ih ⊢
    by_cases e : k = f
    · subst e
      simp
    · rw [List.lookup_cons, show (f == k) = false by simpa using Ne.symm e, List.find?_cons_of_neg (by simpa using e)]
      exact ih
section
variable {c : Cc} {X : Cx} {W : WX} {ρ : List Addr} {S : Sto} {G H : Hp} {C : Addr} {n f : Str}
theorem fields_at {d : D} {v : V} {ns : List Str} {l : List D} (r : Rep c ρ S G) (hC : c.cl n = some C) (h : Dat c ρ G d v) (e : d.fields S n = some (ns, l)) : ∃ a xs dx, v = .ref a ∧ G a = some (.ins C dx (ns.zip xs)) ∧ ns.length = l.length ∧ DatAll c ρ G l xs := by
  cases d with
  | ins m ns' l' =>
    simp only [Dat] at h
    obtain ⟨a, xs, C', dx, e1, _, e2, e3, e4, e5⟩ := h
    unfold D.fields at e
    dsimp only at e
    split at e
    · rename_i hm
      subst hm
      cases e
      rw [hC] at e2
      cases e2
      exact ⟨a, xs, dx, e1, e3, e4, e5⟩
    · cases e
  | ref k =>
    unfold D.fields at e
    dsimp only at e
    split at e
    · rename_i m ns' l' q
      split at e
      · rename_i hm
        subst hm
        cases e
        obtain ⟨a, e1, _, xs, C', dx, e2, e3, ⟨e4, _⟩, e5⟩ := dat_ref r h q
        rw [hC] at e2
        cases e2
        exact ⟨a, xs, dx, e1, e3, e4, e5⟩
      · cases e
    · cases e
  | _ => cases e
def fldD (n f : Str) (d : D) (S : Sto) : R D := match d.fields S n with
  | some (ns, l) => match kget ns l f with
    | some x => .ok x S
    | none => .bad
  | none => .bad
variable {a b e : Expr} {fa fb fe : FE} {pos : Pos}
theorem de_fld (hC : c.cl n = some C) (hc : Cls X.K C) (hn : NoAttr X.K C f) (ha : DE c X W a fa) (hb : attributeBase a f X.env (eval a X.env) = eval a X.env := by rfl) : DE c X W (.Attribute a f pos) (e1 (fldD n f) fa) := pe_imp (pe_fld ha hb) fun σ H Q q => tD_1 (r := fun x H1 Q => FldQ X.K f x H1 Q) (fun ρ S G H d v Q W sb r h q => by
  unfold fldD at q
  split at q
  · rename_i ns l e1
    split at q
    · rename_i x e2
      obtain ⟨p, xs, dx, z1, z2, z3, z4⟩ := fields_at r hC h e1
      obtain ⟨w, y1, y2⟩ := kget_val z4 e2
      exact ⟨p, C, dx, _, w, z1, sb _ _ z2, hc, hn, by rw [lookup_val]; exact y1, q w ρ G H r (Go.refl sb) y2⟩
    · exact q.elim
  · exact q.elim) q
noncomputable def fputD (n f : Str) (d v : D) (S : Sto) : R Unit := match d with
  | .ref k => match S[k]? with
    | some (.ins m ns l) => .chk (m = n ∧ ns.length < 1000) (.ok () (S.set k (.ins m (kputK ns f) (kputL ns l f v))))
    | _ => .bad
  | _ => .bad
noncomputable def sFput (n f : Str) (fd fv : FE) : FS := fun δ S => (fv δ S).go δ fun v S => (fd δ S).go δ fun d S => (fputD n f d v S).go δ fun _ S => .nx δ S
theorem putF_val {fs : List (Str × V)} {v : V} (hn : (fs.map (·.1)).Nodup) : putF f v fs = putK fs f v := by
  induction fs with
  | nil => rfl
  | cons p fs ih =>
    obtain ⟨k, w⟩ := p
    obtain ⟨n1, n2⟩ := List.nodup_cons.mp hn
    unfold putF
    by_cases e : k = f
    · subst e
      unfold putK
      rw [List.any_cons]
      simp only [decide_true, Bool.true_or, if_true, List.map_cons]
      congr 1
      have : ∀ q ∈ fs, (if q.1 = k then (q.1, v) else q) = q := fun q hq => if_neg fun z => n1 (by
        show k ∈ _
        rw [← z]
        exact List.mem_map.mpr ⟨q, hq, rfl⟩)
      conv => lhs; rw [← List.map_id fs]
      exact (List.map_congr_left fun q hq => (this q hq).symm)
    · have ih := ih n2
      unfold putK at ih ⊢
      rw [List.any_cons, show (decide ((k, w).1 = f)) = false by simpa using e, Bool.false_or]
      split
      · rename_i z
        exact absurd z e
      · rw [ih]
        split
        · rw [List.map_cons, if_neg e]
        · rfl
theorem map_fst_zip : ∀ {ns : List Str} {xs : List V}, ns.length = xs.length → (ns.zip xs).map (·.1) = ns
  | [], _, _ => by simp
  | _ :: _, [], h => by simp at h
  | x :: ns, y :: xs, h => by
    rw [List.zip_cons_cons, List.map_cons, map_fst_zip (by simpa using h)]
theorem ds_fput {pos' : Pos} (hC : c.cl n = some C) (hc : Cls X.K C) (hn : NoAttr X.K C f) (ha : DE c X W a fa) (he : DE c X W e fe) (hs : swapsWith e (some (.Attribute a f pos')) pos.line X.env = pure false := by rfl) : DS c X W (.Assign [.Attribute a f pos'] e pos) (sFput n f fa fe) := ps_imp (ps_fld ha he hs) fun D σ H h => by
  obtain ⟨δ, S, ρ, G, sb, hl, hr, h⟩ := h
  refine ⟨δ, S, ρ, G, sb, hl, hr, ?_⟩
  refine wp_mono (wpS_goX hl h) (fun dv S1 h1 vv ρ1 G1 H1 r1 e1 dvv => ?_) fun _ _ z => z
  have l1 := hl.ext e1.ext
  refine ⟨δ, S1, ρ1, G1, e1.sub, l1, r1, ?_⟩
  refine wp_mono (wpS_goX l1 (wpS_goE h1 e1)) (fun dd S2 h2 vd ρ2 G2 H2 r2 e2 ddv => ?_) fun _ _ z => z
  have l2 := l1.ext e2.ext
  have h2 := wpS_goE h2 e2
  rw [wpS_go] at h2
  unfold fputD at h2
  split at h2
  · rename_i k
    split at h2
    · rename_i m ns l q
      rw [wp_chk] at h2
      obtain ⟨⟨hm, hlen⟩, h2⟩ := h2
      subst hm
      obtain ⟨p, z1, z2, xs, C', dx, z3, z4, ⟨z5, z6⟩, z7⟩ := dat_ref r2 ddv q
      rw [hC] at z3
      cases z3
      obtain ⟨ys, y1, y2, y3⟩ := kput_val ns z6 z7 z5 (Dat.ext e2.ext _ dvv) (k := f)
      have lz : ns.length = xs.length := by rw [z5, z7.length]
      have e3 : putF f vv (ns.zip xs) = (kputK ns f).zip ys := by rw [putF_val (by rw [map_fst_zip lz]; exact z6), y1]
      have go : Go c ρ2 G2 H2 ρ2 (upd G2 p (.ins C dx (putF f vv (ns.zip xs)))) (upd H2 p (.ins C dx (putF f vv (ns.zip xs)))) := Go.write e2.sub z2 z4
      refine ⟨p, C, dx, _, z1, e2.sub _ _ z4, hc, hn, by rw [List.length_zip]; omega, ?_⟩
      exact h2 σ ρ2 _ _ (r2.write z2 ⟨ys, C, dx, hC, by rw [upd_same, e3], ⟨y3, kputK_nd z6⟩, DatAll.ext go.ext _ y2⟩) go (l2.ext go.ext)
    · exact h2.elim
  · exact h2.elim
end
/-! ### built-in functions -/
section
variable {c : Cc} {X : Cx} {W : WX} {x : Str} {p pos : Pos} {e : Expr} {es : List Expr} {fr : FA} {g : List D → Sto → R D} {r r' : List V → Hp → VK → Prop} {nid T : String}
def Cal (c : Cc) (X : Cx) (v : Value) (g : List D → Sto → R D) : Prop := ∃ r, CallR X v r ∧ OpA c r g
theorem CallR.or {v : Value} (h : CallR X v r) (h' : CallR X v r') : CallR X v (fun xs H Q => r xs H Q ∨ r' xs H Q) := fun pins s σ H xs us Q I rv q => by
  rcases q with q | q
  · exact h pins s σ H xs us Q I rv q
  · exact h' pins s σ H xs us Q I rv q
theorem de_callB (hc : Cal c X (.builtin nid) g) (hg : Gl X x) (hm : X.mg x = none) (hv : bootBuiltins x = some (.builtin nid)) (ha : DA c X W (e :: es) fr) (hn : x ≠ "__name__" := by decide) (hdb : (x == ("__debug__" : Str)) = false := by decide)
    (he : starEach (e :: es) X.env = (false, eval e X.env) :: starEach es X.env := by rfl) (hpl : (backTo pos (starEach es X.env)).any (·.1) = false := by rfl) : DE c X W (.Call (.Name x p) (e :: es) [] pos) (eA g fr) := by
  obtain ⟨r, hr, s⟩ := hc
  exact pe_imp (pe_callB hr hg hm hv ha hn hdb he hpl) fun σ H Q q => tDA_then s q
theorem DatAll.one {ρ : List Addr} {G : Hp} {x : D} {vs : List V} (h : DatAll c ρ G [x] vs) : ∃ v, vs = [v] ∧ Dat c ρ G x v := by
  simp only [DatAll] at h
  obtain ⟨v, r, rfl, h1, rfl⟩ := h
  exact ⟨v, rfl, h1⟩
noncomputable def lenD : List D → Sto → R D
  | [.str z], S => .chk (z.length ≤ sizeLine) (.ok (.int z.length) S)
  | [d], S => match d.seq S with
    | some l => .ok (.int l.length) S
    | none => match d.dict S with
      | some (ks, _) => .ok (.int ks.length) S
      | none => .bad
  | _, _ => .bad
theorem cal_len (hK : X.K = c.K := by rfl) : Cal c X (.builtin "len") lenD := ⟨_, CallR.or call_len_seq (CallR.or call_len_str call_lenD), fun ρ S G H ds vs Q W sb r h q => by
  unfold lenD at q
  split at q
  · rename_i z
    rw [wp_chk] at q
    obtain ⟨v, rfl, h1⟩ := h.one
    simp only [Dat] at h1
    exact .inr (.inl ⟨z, by rw [h1], q.1, q.2 _ ρ G H r (Go.refl sb) (by simp only [Dat])⟩)
  · rename_i d hne
    obtain ⟨v, rfl, h1⟩ := h.one
    split at q
    · rename_i l e1
      obtain ⟨a, xs, z1, z2, z3⟩ := D.seq_sq r h1 e1
      subst z1
      refine .inl ⟨a, xs, rfl, ?_, q _ ρ G H r (Go.refl sb) (by simp only [Dat]; rw [z3.length])⟩
      rw [hK]
      rcases z2 with z2 | z2
      · exact .inl (sb.sqL z2)
      · exact .inr (sb.sqT z2)
    · split at q
      · rename_i ks l e1
        obtain ⟨a, xs, z1, z2, z3, z4⟩ := dict_at r h1 e1
        subst z1
        refine .inr (.inr ⟨a, _, rfl, sb _ _ z2, q _ ρ G H r (Go.refl sb) ?_⟩)
        simp only [Dat]
        rw [List.length_zip, z4.length, z3, Nat.min_self]
      · exact q.elim
  · exact q.elim⟩
def absD : List D → Sto → R D
  | [.int i], S => .ok (.int (if i < 0 then -i else i)) S
  | _, _ => .bad
def maxD : List D → Sto → R D
  | [.int i, .int j], S => .ok (.int (if j > i then j else i)) S
  | _, _ => .bad
def minD : List D → Sto → R D
  | [.int i, .int j], S => .ok (.int (if j < i then j else i)) S
  | _, _ => .bad
theorem cal_min (hc : X.calm = true := by rfl) : Cal c X (.builtin "min") minD := ⟨_, call_min2 hc, fun ρ S G H ds vs Q W sb r h q => by
  unfold minD at q
  split at q
  · obtain ⟨v, w, rfl, h1, h2⟩ := h.two
    simp only [Dat] at h1 h2
    exact ⟨_, _, by rw [h1, h2], q _ ρ G H r (Go.refl sb) (by simp only [Dat])⟩
  · exact q.elim⟩
noncomputable def divmodD : List D → Sto → R D
  | [.int i, .int j], S => .chk (CDivC i j) (.ok (.tup [.int (i / j), .int (i % j)]) S)
  | _, _ => .bad
noncomputable def intD : List D → Sto → R D
  | [.int i], S => .ok (.int i) S
  | [.bl b], S => .ok (.int (if b then 1 else 0)) S
  | [.str z], S => match PySem.intText? z with
    | some n => .chk (z.length ≤ 640) (.ok (.int n) S)
    | none => .bad
  | _, _ => .bad
def allB : List D → Option (List Bool)
  | [] => some []
  | .bl b :: l => (allB l).map (b :: ·)
  | _ => none
def allD : List D → Sto → R D
  | [d], S => match d.rseq S with
    | some l => match allB l with
      | some bs => .ok (.bl (bs.all id)) S
      | none => .bad
    | none => .bad
  | _, _ => .bad
def listF : List D → Sto → R (List D)
  | [d], S => match d.seq S with
    | some l => .ok l S
    | none => .bad
  | _, _ => .bad
end
end DW
namespace DW
open PySem PySem.Spec PyProof.Rows L2
/-! ### defs and their mirrors -/
structure Rm (k : Nat) (A : Around) : Prop extends Room k A where
  gd : 8 < k → A.guards = some []
theorem Rm.mono {j k : Nat} {A : Around} (r : Rm k A) (h : j ≤ k) : Rm j A := ⟨r.toRoom.mono h, fun q => r.gd (Nat.lt_of_lt_of_le q h)⟩
theorem Rm.deeper {k : Nat} {A : Around} (r : Rm (k + 1) A) (env : Env) : Rm k (A.deeper env) := ⟨r.toRoom.deeper env, fun q => r.gd (Nat.lt_succ_of_lt q)⟩
theorem Rm.in1 {k : Nat} {A : Around} (r : Rm (k + 1) A) : Rm k A.in1 := ⟨r.toRoom.in1, fun q => r.gd (Nat.lt_succ_of_lt q)⟩
theorem Rm.make {k : Nat} {A : Around} (r : Rm (k + 1) A) (C : Addr) (us : List Value) (kw : List (Str × Value)) : Rm k (A.under (.builtin "type.__call__" ⟨.ref C :: us, kw⟩)) := ⟨r.toRoom.make C us kw, fun q => by
  show pushGuards (Code.guards (.builtin "type.__call__" ⟨.ref C :: us, kw⟩)) A.guards = some []
  rw [r.gd (Nat.lt_succ_of_lt q)]
  rfl⟩
theorem Rm.u1 {k : Nat} {A : Around} (r : Rm k A) : A.units + 1 < cLine := by
  have := r.un
  omega
theorem Rm.u64 {k : Nat} {A : Around} (r : Rm k A) : A.units + 64 < cLine := by
  have := r.un
  omega
theorem Rm.u65 {k : Nat} {A : Around} (r : Rm k A) : A.units + 65 < cLine := by
  have := r.un
  omega
abbrev FM := List D → Sto → R D
def spD (c : Cc) (n : Nat) (m : FM) : Sp := fun vs H Q E => vs.length = n ∧ ∃ ds S ρ G, Sub c G H ∧ DatAll c ρ G ds vs ∧ Rep c ρ S G ∧ wp (m ds S) (kE c ρ G H Q) (kX c ρ G H E)
structure FnG (P : Program) (w : World) (K : PySem.W.Frag) (mg : Str → Option Value) (base : Heap) (k : Nat) (f : Addr) (fd : FuncData) (ps : List Str) (sp : Sp) : Prop where
  len : ∀ vs H Q E, sp vs H Q E → vs.length = ps.length
  run : ∀ (A : Around) (outer : List Env) (s : Shared) (H : Hp) (args : Args) (us : List Value) (vs : List V) (Q : VK) (E : XK), Rm k A → Env0 P w K mg base A outer s H → BindsTo s fd args (ps.zip us) → Vals vs us → sp vs H Q E →
    codeAny (model P w) A (.call (.ref f) args) (CR (CX P w) outer P w H s Q E) s
def RS.fin : RS → R D
  | .nx _ S => .ok .non S
  | .rt d S => .ok d S
  | .ex e _ S => .ex e S
  | .bad => .bad
def fnD (n : Nat) (fb : FS) : FM := fun ds S => (fb (ds.map some ++ List.replicate (n - ds.length) none) S).fin
theorem wp_fin {r : RS} {Q : D → Sto → Prop} {E : Xc → Sto → Prop} : wp r.fin Q E = wpS r (fun _ S => Q .non S) Q (fun e _ S => E e S) := by cases r <;> rfl
section
variable {P : Program} {w : World} {c : Cc} {mg : Str → Option Value} {base : Heap} {k : Nat} {f : Addr} {fd : FuncData} {x qual : Str} {params : Arguments} {body : List Stmt} {scope : Scope} {dvs : List V} {kws : List (Str × V)} {N ps : List Str} {fb : FS}
theorem fnG_of (F : FunD c.K x qual params body scope dvs kws f fd) (S : FnScope N ps scope)
    (hb : ∀ (cdv : Value) (A : Around) (outer : List Env) (s : Shared) (H : Hp) (E : XK), Rm k (A.deeper (envOfC qual scope s.heap.objs.size f cdv)) → DSs c (cxOf (CX P w) P w c.K mg base N qual scope f cdv A outer s H E) (fun cls d _ H => E cls d H) body fb) :
    FnG P w c.K mg base (k + 1) f fd ps (spD c ps.length (fnD N.length fb)) := by
  obtain ⟨oc, od, dV, kV, doc, pm, an, cdv, ct, osl, rfl, lk, hcd, _, _⟩ := F.ex
  refine ⟨fun vs H Q E h => h.1, fun A outer s H args us vs Q E hr e0 hbd r hsp => ?_⟩
  obtain ⟨hl, ds, S0, ρ, G, sb, hda, hre, hwp⟩ := hsp
  have KX : c.K.In s.heap := e0.mod.kin.keeps fun b o e => (e0.bs b o e).1
  have kinds : ∀ y ∈ ps.zip us, scope.names.lookup y.1 = some .local ∨ (scope.names.lookup y.1 = some .cell ∧ ((cellsFrom (s.heap.objs.size + 1) scope.names []).lookup y.1).isSome = true) := fun ⟨n, v⟩ hy => by
    rcases S.par n (List.of_mem_zip hy).1 with q | q
    · exact .inl q
    · exact .inr ⟨q, PySem.W.cellsFrom_some _ _ _ (.inl q)⟩
  refine codeAny_call_function hr.depth (KX _ _ lk) rfl S.co S.gen rfl (PySem.W.codeRec_of KX hcd) (hbd _ _ _ _ ?_)
  refine wpAny_newFunctionEnv_cells S.kind kinds fun env he s1 z => ?_
  subst he
  refine ⟨(e0.mod.nolimit.keeps fun b o e => (e0.bs b o e).1).keeps z.toInCall.keep, codeAny_func ?_⟩
  have I : Inv (cxOf (CX P w) P w c.K mg base N qual scope f cdv A outer s H E) [] (L2.start N vs) H s1 := inv_start S hr.hd e0 hl r z
  have dl : vs.length = ds.length := hda.length
  have fin : ∀ {σ' : L2.St} {H' : Hp} {v : V} {u : Value} {s' : Shared}, Inv (cxOf (CX P w) P w c.K mg base N qual scope f cdv A outer s H E) [] σ' H' s' → RelV v u → Q v H' → CE outer P w H s Q u s' :=
    fun {σ' H' v u s'} J rv q => ⟨v, H', J.os, J.bare, J.base, J.hok, rv, q⟩
  refine wpAny_mono ((hb cdv A outer s H E (hr.deeper _)).run [] s1 (L2.start N vs) H { nx := fun _ H' => Q .non H', rt := Q } I ?_) (fun fl s' hs => ?_) fun e s' hs => hs
  · refine ⟨ds.map some ++ List.replicate (N.length - ds.length) none, S0, ρ, G, sb, ?_, hre, ?_⟩
    · unfold L2.start
      rw [dl]
      exact Loc.start _ hda
    · unfold fnD at hwp
      rw [wp_fin] at hwp
      refine wpS_mono hwp (fun δ' S' q σ' ρ' G' H' r' g' _ => q .non ρ' G' H' r' g' (by simp only [Dat])) (fun _ _ q => q) fun e δ' S' q σ' ρ' G' H' cls d r' g' _ dx => q ρ' G' H' cls d r' g' dx
  · cases fl with
    | ret u =>
      obtain ⟨v, σ', H', J, rv, q⟩ := hs
      exact fin J rv q
    | next =>
      obtain ⟨σ', H', J, q⟩ := hs
      exact fin (v := V.non) (u := Value.none) J rfl q
    | brk =>
      obtain ⟨_, _, _, q⟩ := hs
      exact q.elim
    | cont =>
      obtain ⟨_, _, _, q⟩ := hs
      exact q.elim
end
def DefG (P : Program) (w : World) (c : Cc) (mg : Str → Option Value) (base : Heap) (k : Nat) (x : Str) (st : Stmt) (dvs : List V) (kws : List (Str × V)) (ps : List Str) (m : FM) : Prop :=
  ∃ f fd, FD c.K x x st dvs kws f fd ∧ mg x = some (.ref f) ∧ FnG P w c.K mg base k f fd ps (spD c ps.length m)
def MethG (P : Program) (w : World) (c : Cc) (mg : Str → Option Value) (base : Heap) (k : Nat) (C : Addr) (m qual : Str) (st : Stmt) (dvs : List V) (kws : List (Str × V)) (ps : List Str) (mm : FM) : Prop :=
  ∃ f fd, FD c.K m qual st dvs kws f fd ∧ Meth c.K C m f ∧ FnG P w c.K mg base k f fd ps (spD c ps.length mm)
def InitG (P : Program) (w : World) (c : Cc) (mg : Str → Option Value) (base : Heap) (k : Nat) (C : Addr) (qual : Str) (st : Stmt) (dvs : List V) (kws : List (Str × V)) (ps : List Str) (mm : FM) : Prop :=
  ∃ f fd, FD c.K "__init__" qual st dvs kws f fd ∧ Mk c.K C f ∧ FnG P w c.K mg base k f fd ps (spD c ps.length mm)
section
variable {P : Program} {w : World} {c : Cc} {mg : Str → Option Value} {base : Heap} {k : Nat} {x m qual : Str} {st : Stmt} {dvs : List V} {kws : List (Str × V)} {ps : List Str} {mm : FM} {C : Addr}
theorem DefAt.okG (h : DefAt c.K mg x st dvs kws) (g : ∀ f fd, FD c.K x x st dvs kws f fd → FnG P w c.K mg base k f fd ps (spD c ps.length mm)) : DefG P w c mg base k x st dvs kws ps mm := by
  obtain ⟨f, fd, F, z⟩ := h
  exact ⟨f, fd, F, z, g f fd F⟩
theorem MethAt.okG (h : MethAt c.K C m qual st dvs kws) (g : ∀ f fd, FD c.K m qual st dvs kws f fd → FnG P w c.K mg base k f fd ps (spD c ps.length mm)) : MethG P w c mg base k C m qual st dvs kws ps mm := by
  obtain ⟨f, fd, F, z⟩ := h
  exact ⟨f, fd, F, z, g f fd F⟩
theorem InitAt.okG (h : InitAt c.K C qual st dvs kws) (g : ∀ f fd, FD c.K "__init__" qual st dvs kws f fd → FnG P w c.K mg base k f fd ps (spD c ps.length mm)) : InitG P w c mg base k C qual st dvs kws ps mm := by
  obtain ⟨f, fd, F, z⟩ := h
  exact ⟨f, fd, F, z, g f fd F⟩
end
/-! ### how a call binds: each parameter is a place's, a keyword's, or a default -/
inductive Src where
  | p (i : Nat) | k (j : Nat) | d (v : V) (x : D)
def srcV (vs zs : List V) : List Src → List V
  | [] => []
  | .p i :: r => vs.getD i .non :: srcV vs zs r
  | .k j :: r => zs.getD j .non :: srcV vs zs r
  | .d v _ :: r => v :: srcV vs zs r
inductive SrcD where
  | p (i : Nat) | k (j : Nat) | d (x : D)
def Src.toD : Src → SrcD
  | .p i => .p i
  | .k j => .k j
  | .d _ x => .d x
def toDs : List Src → List SrcD
  | [] => []
  | s :: r => s.toD :: toDs r
def srcD (vs zs : List D) : List SrcD → List D
  | [] => []
  | .p i :: r => vs.getD i .non :: srcD vs zs r
  | .k j :: r => zs.getD j .non :: srcD vs zs r
  | .d x :: r => x :: srcD vs zs r
def srcOk (c : Cc) (n m : Nat) : List Src → Prop
  | [] => True
  | .p i :: r => i < n ∧ srcOk c n m r
  | .k j :: r => j < m ∧ srcOk c n m r
  | .d v x :: r => (∀ ρ G, Dat c ρ G x v) ∧ srcOk c n m r
theorem srcD_ok {c : Cc} {ρ : List Addr} {G : Hp} {vs zs : List V} {ds es : List D} (h1 : DatAll c ρ G ds vs) (h2 : DatAll c ρ G es zs) : ∀ {l : List Src}, srcOk c ds.length es.length l → DatAll c ρ G (srcD ds es (toDs l)) (srcV vs zs l)
  | [], _ => .nil
  | .p i :: r, h => by
    obtain ⟨v, e1, e2⟩ := h1.get (List.getElem?_eq_getElem h.1)
    unfold toDs Src.toD srcD srcV
    rw [List.getD_eq_getElem?_getD, List.getD_eq_getElem?_getD, e1, List.getElem?_eq_getElem h.1]
    exact .cons e2 (srcD_ok h1 h2 h.2)
  | .k j :: r, h => by
    obtain ⟨v, e1, e2⟩ := h2.get (List.getElem?_eq_getElem h.1)
    unfold toDs Src.toD srcD srcV
    rw [List.getD_eq_getElem?_getD, List.getD_eq_getElem?_getD, e1, List.getElem?_eq_getElem h.1]
    exact .cons e2 (srcD_ok h1 h2 h.2)
  | .d v x :: r, h => .cons (h.1 _ _) (srcD_ok h1 h2 h.2)
theorem srcV_len (vs zs : List V) : ∀ l : List Src, (srcV vs zs l).length = l.length
  | [] => rfl
  | .p _ :: r => by simp [srcV, srcV_len vs zs r]
  | .k _ :: r => by simp [srcV, srcV_len vs zs r]
  | .d _ _ :: r => by simp [srcV, srcV_len vs zs r]
noncomputable def eCall (m : FM) (n k : Nat) (src : List SrcD) (fr fk : FA) : FE := fun δ S => (fr δ S).bind fun vs S => (fk δ S).bind fun zs S => .chk (vs.length = n ∧ zs.length = k) (m (srcD vs zs src) S)
section
variable {c : Cc} {X : Cx} {W : WX} {k n : Nat} {ps ks : List Str} {x : Str} {st : Stmt} {dvs : List V} {kvs : List (Str × V)} {p pos : Pos} {e : Expr} {es : List Expr} {kws : List Keyword} {fr fk : FA} {m : FM} {src : List Src}
theorem run_G {f : Addr} {fd : FuncData} {pins : List (Addr × Obj)} {σ : L2.St} {H : Hp} {s : Shared} {Q : VK} {us ws : List Value} {vs zs : List V} (F : FnG X.prog X.w c.K X.mg X.base k f fd ps (spD c ps.length m)) (hr : Rm k X.A) (hb : KB c.K fd ps n ks (fun vs zs => srcV vs zs src)) (tk : Takes X W) (hK : X.K = c.K)
    (I : Inv X pins σ H s) (r : Vals vs us) (rz : Vals zs ws) (l1 : vs.length = n) (l2 : zs.length = ks.length) (h : spD c ps.length m (srcV vs zs src) H Q (fun cls d H' => W cls d σ H')) : wpAny (model X.prog X.w) X.A (call (.ref f) us (ks.zip ws)) (EP X pins σ Q) X.xe s := by
  have kin : c.K.In s.heap := by rw [← hK]; exact I.kIn
  obtain ⟨rs, b, r2⟩ := hb s us ws vs zs kin r rz l1 l2
  have e0 : Env0 X.prog X.w c.K X.mg X.base X.A X.stack s H := by rw [← hK]; exact I.env0
  refine wpAny_call (codeAny_mono (F.run X.A X.stack s H ⟨us, ks.zip ws⟩ rs (srcV vs zs src) Q _ hr e0 b r2 h) fun r s' hq => ?_)
  cases r with
  | error e => exact tk e s' (XE.of_call I (fun cls d H' h => h) hq)
  | ok fl =>
    cases fl with
    | ret u => exact I.after hq
    | next => exact hq.elim
    | brk => exact hq.elim
    | cont => exact hq.elim
theorem args_then {σ : L2.St} {H : Hp} {R1 : List V → List V → Hp → Prop} {g : List D → List D → Sto → R D} {Q : VK} (h : tD c W (fun δ S => (fr δ S).bind fun vs S => (fk δ S).bind fun zs S => g vs zs S) σ H Q)
    (s : ∀ ρ S G H vs zs ds es, Sub c G H → Rep c ρ S G → DatAll c ρ G ds vs → DatAll c ρ G es zs → wp (g ds es S) (kE c ρ G H Q) (kX c ρ G H fun cls d H' => W cls d σ H') → R1 vs zs H) : tDA c W fr σ H fun vs H1 => tDA c W fk σ H1 fun zs H2 => R1 vs zs H2 := by
  obtain ⟨δ, S, ρ, G, sb, hl, hr, h⟩ := h
  refine ⟨δ, S, ρ, G, sb, hl, hr, ?_⟩
  rw [wp_bind] at h
  refine wp_mono h (fun ds S1 h1 vs ρ1 G1 H1 r1 e1 dv => ?_) (fun _ _ z => z)
  refine ⟨δ, S1, ρ1, G1, e1.sub, hl.ext e1.ext, r1, ?_⟩
  rw [wp_bind] at h1
  refine wp_mono h1 (fun es S2 h2 zs ρ2 G2 H2 r2 e2 dz => ?_) (fun _ _ z => z.go e1)
  exact s ρ2 S2 G2 H2 vs zs ds es e2.sub r2 (DatAll.ext e2.ext _ dv) dz (wpE_go (wpE_go h2 e1) e2)
theorem sp_of {ρ : List Addr} {S : Sto} {G H : Hp} {vs zs : List V} {ds es : List D} {Q : VK} {E : XK} (hs : srcOk c n ks.length src) (hl : src.length = ps.length) (sb : Sub c G H) (r : Rep c ρ S G) (h1 : DatAll c ρ G ds vs) (h2 : DatAll c ρ G es zs) (q : wp (R.chk (ds.length = n ∧ es.length = ks.length) (m (srcD ds es (toDs src)) S)) (kE c ρ G H Q) (kX c ρ G H E)) :
    vs.length = n ∧ zs.length = ks.length ∧ spD c ps.length m (srcV vs zs src) H Q E := by
  rw [wp_chk] at q
  obtain ⟨⟨q1, q2⟩, q⟩ := q
  exact ⟨by rw [h1.length]; exact q1, by rw [h2.length]; exact q2, by rw [srcV_len]; exact hl, _, S, ρ, G, sb, srcD_ok h1 h2 (by rw [q1, q2]; exact hs), r, q⟩
theorem de_call (G : DefG X.prog X.w c X.mg X.base k x st dvs kvs ps m) (hr : Rm k X.A) (hg : Gl X x) (hb : ∀ f fd, FD c.K x x st dvs kvs f fd → KB c.K fd ps n ks (fun vs zs => srcV vs zs src)) (hs : srcOk c n ks.length src) (hl : src.length = ps.length) (tk : Takes X W)
    (ha : DA c X W (e :: es) fr) (hkw : DK c X W kws fk) (hall : (backToKw pos (keywordEach kws X.env)).all (·.1.isSome) = true := by rfl) (hks : (backToKw pos (keywordEach kws X.env)).filterMap (·.1) = ks := by rfl)
    (hdb : (x == ("__debug__" : Str)) = false := by decide) (he : starEach (e :: es) X.env = (false, eval e X.env) :: starEach es X.env := by rfl)
    (hpl : ((backTo pos (starEach (e :: es) X.env)).any (·.1) || (backToKw pos (keywordEach kws X.env)).any (·.1.isNone)) = false := by rfl) (hK : X.K = c.K := by rfl) :
    DE c X W (.Call (.Name x p) (e :: es) kws pos) (eCall m n ks.length (toDs src) fr fk) := by
  obtain ⟨f, fd, F, hm, g⟩ := G
  refine ⟨fun pins s σ H Q I h => ?_⟩
  have h := args_then (R1 := fun vs zs H => vs.length = n ∧ zs.length = ks.length ∧ spD c ps.length m (srcV vs zs src) H Q (fun cls d H' => W cls d σ H')) h fun ρ S G H vs zs ds es sb r h1 h2 q => sp_of hs hl sb r h1 h2 q
  refine wpAny_Call_Name_kw (ld_glob I hg hm ?_ hdb)
  refine PySem.W.callWith_KW (h₀ := X.base) I.ok.mod.kin (by rw [hK]; exact F.kp) hall (thn (ha.run pos pins s σ H _ I h) fun us s1 ⟨vs, H1, I1, r, q⟩ => ?_) hpl he
  refine thn (hkw.run pos pins s1 σ H1 _ I1 q) fun ws s2 ⟨zs, H2, I2, rz, l1, l2, q2⟩ => ⟨I2.kIn, ?_⟩
  rw [hks]
  exact run_G g hr (hb f fd F) tk hK I2 r rz l1 l2 q2
theorem de_call0 (G : DefG X.prog X.w c X.mg X.base k x st dvs kvs ps m) (hr : Rm k X.A) (hg : Gl X x) (hb : ∀ f fd, FD c.K x x st dvs kvs f fd → KB c.K fd ps 0 ks (fun vs zs => srcV vs zs src)) (hs : srcOk c 0 ks.length src) (hl : src.length = ps.length) (tk : Takes X W)
    (hkw : DK c X W kws fk) (hall : (backToKw pos (keywordEach kws X.env)).all (·.1.isSome) = true := by rfl) (hks : (backToKw pos (keywordEach kws X.env)).filterMap (·.1) = ks := by rfl)
    (hdb : (x == ("__debug__" : Str)) = false := by decide)
    (hpl : ((backTo pos (starEach [] X.env)).any (·.1) || (backToKw pos (keywordEach kws X.env)).any (·.1.isNone)) = false := by rfl) (hK : X.K = c.K := by rfl) :
    DE c X W (.Call (.Name x p) [] kws pos) (eCall m 0 ks.length (toDs src) aNil fk) := by
  obtain ⟨f, fd, F, hm, g⟩ := G
  refine ⟨fun pins s σ H Q I h => ?_⟩
  have h := args_then (R1 := fun vs zs H => vs.length = 0 ∧ zs.length = ks.length ∧ spD c ps.length m (srcV vs zs src) H Q (fun cls d H' => W cls d σ H')) h fun ρ S G H vs zs ds es sb r h1 h2 q => sp_of hs hl sb r h1 h2 q
  have h := tDA_nil h
  refine wpAny_Call_Name_kw (ld_glob I hg hm ?_ hdb)
  refine PySem.W.callWith_KW0 (h₀ := X.base) I.ok.mod.kin (by rw [hK]; exact F.kp) hall ?_ hpl
  refine thn (hkw.run pos pins s σ H _ I h) fun ws s2 ⟨zs, H2, I2, rz, l1, l2, q2⟩ => ⟨I2.kIn, ?_⟩
  rw [hks]
  exact run_G (us := []) (vs := []) g hr (hb f fd F) tk hK I2 .nil rz rfl l2 q2
end
end DW
namespace DW
open PySem PySem.Spec PyProof.Rows L2
/-! ### methods -/
noncomputable def eMe (cn mn : Str) (m : FM) (n : Nat) (src : List SrcD) (fo : FE) (fr : FA) : FE := fun δ S => (fo δ S).bind fun x S => match x.fields S cn with
  | some (ns, _) => .chk (mn ∉ ns) ((fr δ S).bind fun vs S => .chk (vs.length = n) (m (srcD (x :: vs) [] src) S))
  | none => .bad
theorem lookup_zip_none {ns : List Str} {xs : List V} {m : Str} (h : m ∉ ns) : (ns.zip xs).lookup m = none := by
  rw [List.lookup_eq_none_iff]
  intro p hp
  have := (List.of_mem_zip (show (p.1, p.2) ∈ ns.zip xs from hp)).1
  simpa using fun z => h (by rw [z]; exact this)
section
variable {c : Cc} {X : Cx} {W : WX} {k n : Nat} {ps : List Str} {cn mn qual : Str} {C : Addr} {st : Stmt} {dvs : List V} {kvs : List (Str × V)} {pos apos : Pos} {o e : Expr} {es : List Expr} {fo : FE} {fr : FA} {m : FM} {src : List Src}
theorem me_then {σ : L2.St} {H : Hp} {Q : VK} (hC : c.cl cn = some C) (hs : srcOk c (n + 1) 0 src) (hl : src.length = ps.length) (h : tD c W (eMe cn mn m n (toDs src) fo fr) σ H Q) :
    tD c W fo σ H fun x H1 => ∃ a dx fs, x = .ref a ∧ H1 a = some (.ins C dx fs) ∧ fs.lookup mn = none ∧ tDA c W fr σ H1 fun vs H2 => vs.length = n ∧ spD c ps.length m (srcV (.ref a :: vs) [] src) H2 Q (fun cls d H' => W cls d σ H') := by
  obtain ⟨δ, S, ρ, G, sb, hL, hr, h⟩ := h
  refine ⟨δ, S, ρ, G, sb, hL, hr, ?_⟩
  unfold eMe at h
  rw [wp_bind] at h
  refine wp_mono h (fun d S1 h1 v ρ1 G1 H1 r1 e1 dv => ?_) (fun _ _ z => z)
  split at h1
  · rename_i ns l e2
    rw [wp_chk, wp_bind] at h1
    obtain ⟨hm, h1⟩ := h1
    obtain ⟨a, xs, dx, z1, z2, z3, z4⟩ := fields_at r1 hC dv e2
    refine ⟨a, dx, _, z1, e1.sub _ _ z2, lookup_zip_none hm, δ, S1, ρ1, G1, e1.sub, hL.ext e1.ext, r1, ?_⟩
    refine wp_mono h1 (fun ds S2 h2 vs ρ2 G2 H2 r2 e2 dvs => ?_) (fun _ _ z => z.go e1)
    rw [wp_chk] at h2
    have dv2 : DatAll c ρ2 G2 (d :: ds) (.ref a :: vs) := .cons (Dat.ext e2.ext _ (by rw [← z1]; exact dv)) dvs
    refine ⟨by rw [dvs.length]; exact h2.1, by rw [srcV_len]; exact hl, _, S2, ρ2, G2, e2.sub, srcD_ok dv2 .nil (l := src) ?_, r2, wpE_go (wpE_go h2.2 e1) e2⟩
    simp only [List.length_cons, h2.1, List.length_nil]
    exact hs
  · exact h1.elim
theorem de_me {pl : Sem Bool} (ho : DE c X W o fo) (hC : c.cl cn = some C) (cC : Cls X.K C) (G : MethG X.prog X.w c X.mg X.base k C mn qual st dvs kvs ps m) (hr : Rm k X.A) (hb : ∀ f fd, FD c.K mn qual st dvs kvs f fd → KB c.K fd ps (n + 1) [] (fun vs zs => srcV vs zs src))
    (hs : srcOk c (n + 1) 0 src) (hl : src.length = ps.length) (tk : Takes X W) (ha : DA c X W (e :: es) fr)
    (hst : starEach (e :: es) X.env = (false, eval e X.env) :: starEach es X.env := by rfl) (hpl : (backTo pos (starEach es X.env)).any (·.1) = false := by rfl)
    (ht : eval (.Call (.Attribute o mn apos) (e :: es) [] pos) X.env = (do
      let ov ← eval o X.env; standAt apos.atName
      let (f, first) ← holding [ov] (getMethod ov mn pl)
      callWith pos f first (backTo pos (starEach (e :: es) X.env)) (backToKw pos (keywordEach [] X.env))) := by rfl) (hK : X.K = c.K := by rfl) :
    DE c X W (.Call (.Attribute o mn apos) (e :: es) [] pos) (eMe cn mn m n (toDs src) fo fr) := by
  obtain ⟨f, fd, F, hm, g⟩ := G
  rw [← hK] at hm
  refine ⟨fun pins s σ H Q I h => PySem.W.methodCall_KW (pl := pl) (thn (ho.run pins s σ H _ I (me_then hC hs hl h)) fun u s1 z => ?_) ht⟩
  obtain ⟨y, H1, I1, rx, a, dx, fs, ex, ea, l, q⟩ := z
  subst ex
  cases rx
  refine getmeth_ok I1 ea cC hm l (PySem.W.callWith_K (first := [.ref a]) (h₀ := X.base) I.ok.mod.kin hm.kp (thn (ha.run pos pins s1 σ H1 _ I1 q) fun us s2 z2 => ?_) hst hpl)
  obtain ⟨vs, H2, I2, r, l1, q2⟩ := z2
  exact ⟨I2.kIn, run_G (us := .ref a :: us) (vs := .ref a :: vs) (ws := []) (zs := []) g hr (hb f fd F) tk hK I2 (.cons rfl r) .nil (congrArg Nat.succ l1) rfl q2⟩
theorem de_me0 {pl : Sem Bool} (ho : DE c X W o fo) (hC : c.cl cn = some C) (cC : Cls X.K C) (G : MethG X.prog X.w c X.mg X.base k C mn qual st dvs kvs ps m) (hr : Rm k X.A) (hb : ∀ f fd, FD c.K mn qual st dvs kvs f fd → KB c.K fd ps 1 [] (fun vs zs => srcV vs zs src))
    (hs : srcOk c 1 0 src) (hl : src.length = ps.length) (tk : Takes X W)
    (ht : eval (.Call (.Attribute o mn apos) [] [] pos) X.env = (do
      let ov ← eval o X.env; standAt apos.atName
      let (f, first) ← holding [ov] (getMethod ov mn pl)
      callWith pos f first (backTo pos (starEach [] X.env)) (backToKw pos (keywordEach [] X.env))) := by rfl) (hK : X.K = c.K := by rfl) :
    DE c X W (.Call (.Attribute o mn apos) [] [] pos) (eMe cn mn m 0 (toDs src) fo aNil) := by
  obtain ⟨f, fd, F, hm, g⟩ := G
  rw [← hK] at hm
  refine ⟨fun pins s σ H Q I h => PySem.W.methodCall_KW (pl := pl) (thn (ho.run pins s σ H _ I (me_then hC hs hl h)) fun u s1 z => ?_) ht⟩
  obtain ⟨y, H1, I1, rx, a, dx, fs, ex, ea, l, q⟩ := z
  subst ex
  cases rx
  exact getmeth_ok I1 ea cC hm l (PySem.W.callWith_K0 (first := [.ref a]) I1.kIn hm.kp (run_G (us := [.ref a]) (vs := [.ref a]) (ws := []) (zs := []) g hr (hb f fd F) tk hK I1 (.cons rfl .nil) .nil rfl rfl (tDA_nil q).2))
end
/-! ### what lies below a bound of the store -/
mutual
def D.bel (n : Nat) : D → Bool
  | .tup l => belAll n l
  | .lst l => belAll n l
  | .scr l => belAll n l
  | .dct _ l => belAll n l
  | .ins _ _ l => belAll n l
  | .xcp _ _ l => belAll n l
  | .ref k => decide (k < n)
  | _ => true
def belAll (n : Nat) : List D → Bool
  | [] => true
  | d :: l => d.bel n && belAll n l
end
def Ob.bel (n : Nat) : Ob → Bool
  | .dT _ l => belAll n l
  | .odd => true
  | .lst l => belAll n l
  | .dct _ l => belAll n l
  | .ins _ _ l => belAll n l
section
variable {c : Cc} {ρ r : List Addr} {G : Hp}
mutual
theorem Dat.isBel : ∀ (d : D) {v : V}, Dat c ρ G d v → d.bel ρ.length = true
  | .non, _, _ => by simp [D.bel]
  | .bl _, _, _ => by simp [D.bel]
  | .int _, _, _ => by simp [D.bel]
  | .str _, _, _ => by simp [D.bel]
  | .ty _, _, _ => by simp [D.bel]
  | .cls _, _, _ => by simp [D.bel]
  | .tup l, _, h => by
    simp only [Dat] at h
    obtain ⟨a, xs, _, _, q⟩ := h
    simp only [D.bel]
    exact DatAll.isBel l q
  | .lst l, _, h => by
    simp only [Dat] at h
    obtain ⟨a, xs, _, _, _, q⟩ := h
    simp only [D.bel]
    exact DatAll.isBel l q
  | .scr l, _, h => by
    simp only [Dat] at h
    obtain ⟨a, xs, _, _, q⟩ := h
    simp only [D.bel]
    exact DatAll.isBel l q
  | .dct _ l, _, h => by
    simp only [Dat] at h
    obtain ⟨a, xs, _, _, _, _, q⟩ := h
    simp only [D.bel]
    exact DatAll.isBel l q
  | .ins _ _ l, _, h => by
    simp only [Dat] at h
    obtain ⟨a, xs, _, _, _, _, _, _, _, q⟩ := h
    simp only [D.bel]
    exact DatAll.isBel l q
  | .xcl _, _, _ => by simp [D.bel]
  | .xcp _ _ l, _, h => by
    simp only [Dat] at h
    obtain ⟨a, xs, _, _, _, _, _, _, _, _, _, q⟩ := h
    simp only [D.bel]
    exact DatAll.isBel l q
  | .ref k, _, h => by
    simp only [Dat] at h
    obtain ⟨a, _, q⟩ := h
    simp only [D.bel, decide_eq_true_eq]
    exact (List.getElem?_eq_some_iff.mp q).1
theorem DatAll.isBel : ∀ (l : List D) {vs : List V}, DatAll c ρ G l vs → belAll ρ.length l = true
  | [], _, _ => by simp [belAll]
  | d :: l, _, h => by
    simp only [DatAll] at h
    obtain ⟨y, r, rfl, h1, h2⟩ := h
    simp only [belAll, Bool.and_eq_true]
    exact ⟨Dat.isBel d h1, DatAll.isBel l h2⟩
end
mutual
theorem Dat.cut : ∀ (d : D) {v : V}, Dat c (ρ ++ r) G d v → d.bel ρ.length = true → Dat c ρ G d v
  | .non, _, h, _ => h
  | .bl _, _, h, _ => h
  | .int _, _, h, _ => h
  | .str _, _, h, _ => h
  | .ty _, _, h, _ => h
  | .cls _, _, h, _ => h
  | .tup l, _, h, b => by
    simp only [Dat] at h ⊢
    simp only [D.bel] at b
    obtain ⟨a, xs, e, f, q⟩ := h
    refine ⟨a, xs, e, ?_, DatAll.cutA l q b⟩
    rcases f with ⟨f1, f2⟩ | f
    · exact .inl ⟨fun z => f1 (List.mem_append_left _ z), f2⟩
    · exact .inr f
  | .lst l, _, h, b => by
    simp only [Dat] at h ⊢
    simp only [D.bel] at b
    obtain ⟨a, xs, e, f, g, q⟩ := h
    exact ⟨a, xs, e, fun z => f (List.mem_append_left _ z), g, DatAll.cutA l q b⟩
  | .scr l, _, h, b => by
    simp only [Dat] at h ⊢
    simp only [D.bel] at b
    obtain ⟨a, xs, e, f, q⟩ := h
    refine ⟨a, xs, e, ?_, DatAll.cutA l q b⟩
    rcases f with ⟨f1, f2⟩ | f
    · exact .inl ⟨fun z => f1 (List.mem_append_left _ z), f2⟩
    · exact .inr f
  | .dct _ l, _, h, b => by
    simp only [Dat] at h ⊢
    simp only [D.bel] at b
    obtain ⟨a, xs, e, f, g, hl, q⟩ := h
    exact ⟨a, xs, e, fun z => f (List.mem_append_left _ z), g, hl, DatAll.cutA l q b⟩
  | .ins _ _ l, _, h, b => by
    simp only [Dat] at h ⊢
    simp only [D.bel] at b
    obtain ⟨a, xs, C, dx, e, f, hC, g, hl, q⟩ := h
    exact ⟨a, xs, C, dx, e, fun z => f (List.mem_append_left _ z), hC, g, hl, DatAll.cutA l q b⟩
  | .xcl _, _, h, _ => h
  | .xcp _ _ l, _, h, b => by
    simp only [Dat] at h ⊢
    simp only [D.bel] at b
    obtain ⟨a, xs, C, dd, e, f, hC, g, f2, g2, hl, q⟩ := h
    exact ⟨a, xs, C, dd, e, fun z => f (List.mem_append_left _ z), hC, g, fun z => f2 (List.mem_append_left _ z), g2, hl, DatAll.cutA l q b⟩
  | .ref k, _, h, b => by
    simp only [Dat] at h ⊢
    simp only [D.bel, decide_eq_true_eq] at b
    obtain ⟨a, e, q⟩ := h
    rw [List.getElem?_append_left b] at q
    exact ⟨a, e, q⟩
theorem DatAll.cutA : ∀ (l : List D) {vs : List V}, DatAll c (ρ ++ r) G l vs → belAll ρ.length l = true → DatAll c ρ G l vs
  | [], _, h, _ => h
  | d :: l, _, h, b => by
    simp only [DatAll] at h ⊢
    simp only [belAll, Bool.and_eq_true] at b
    obtain ⟨y, t, e, h1, h2⟩ := h
    exact ⟨y, t, e, Dat.cut d h1 b.1, DatAll.cutA l h2 b.2⟩
end
theorem ObAt.isBel {a : Addr} {o : Ob} (h : ObAt c ρ G a o) : o.bel ρ.length = true := by
  cases o with
  | lst l => obtain ⟨xs, _, q⟩ := h; exact DatAll.isBel l q
  | dct ks l => obtain ⟨xs, _, _, q⟩ := h; exact DatAll.isBel l q
  | dT ks l => obtain ⟨xs, _, _, q⟩ := h; exact DatAll.isBel l q
  | odd => rfl
  | ins n ns l => obtain ⟨xs, C, dx, _, _, _, q⟩ := h; exact DatAll.isBel l q
theorem ObAt.cut {a : Addr} {o : Ob} (h : ObAt c (ρ ++ r) G a o) (b : o.bel ρ.length = true) : ObAt c ρ G a o := by
  cases o with
  | lst l => obtain ⟨xs, e, q⟩ := h; exact ⟨xs, e, DatAll.cutA l q b⟩
  | dct ks l => obtain ⟨xs, e, hl, q⟩ := h; exact ⟨xs, e, hl, DatAll.cutA l q b⟩
  | dT ks l => obtain ⟨xs, e, hl, q⟩ := h; exact ⟨xs, e, hl, DatAll.cutA l q b⟩
  | odd => exact h
  | ins n ns l => obtain ⟨xs, C, dx, hC, e, hl, q⟩ := h; exact ⟨xs, C, dx, hC, e, hl, DatAll.cutA l q b⟩
theorem Rep.cut {S S0 : Sto} {G0 : Hp} (h : Rep c (ρ ++ r) S G) (h0 : Rep c ρ S0 G0) (b : ∀ i o, S[i]? = some o → i < S0.length → S0[i]? = some o ∨ o.bel S0.length = true) : Rep c ρ (S.take S0.length) G := by
  have hl := h.len
  have hl0 := h0.len
  rw [List.length_append] at hl
  refine ⟨(List.nodup_append.mp h.nd).1, by rw [List.length_take]; omega, fun n o e => ?_⟩
  rw [List.getElem?_take] at e
  split at e
  · rename_i hn
    obtain ⟨a, e1, e2⟩ := h.at_ n o e
    rw [List.getElem?_append_left (by omega)] at e1
    refine ⟨a, e1, e2.cut ?_⟩
    rcases b n o e hn with q | q
    · obtain ⟨a', _, q2⟩ := h0.at_ n o q
      exact q2.isBel
    · rw [hl0]
      exact q
  · cases e
theorem Go.cut {ρ0 : List Addr} {G0 H0 H : Hp} (g : Go c ρ0 G0 H0 (ρ0 ++ r) G H) : Go c ρ0 G0 H0 ρ0 G H := ⟨g.sub, g.fr, ⟨⟨[], by simp⟩, fun a o e h => ⟨(g.ext.keep a o e h).1, h⟩⟩⟩
end
def D.out (n : Nat) (S : Sto) : D → D
  | .ref k => if k < n then .ref k else match S[k]? with
    | some (.lst l) => .lst l
    | some (.dct ks l) => .dct ks l
    | some (.ins cn ns l) => .ins cn ns l
    | some (.dT _ _) => .ref k
    | some .odd => .ref k
    | none => .ref k
  | d => d
theorem Dat.outs {c : Cc} {ρ r : List Addr} {S : Sto} {G : Hp} {d : D} {v : V} (h : Rep c (ρ ++ r) S G) (q : Dat c (ρ ++ r) G d v) (b : (d.out ρ.length S).bel ρ.length = true) : Dat c ρ G (d.out ρ.length S) v := by
  cases d with
  | ref k =>
    unfold D.out at b ⊢
    dsimp only at b ⊢
    by_cases hk : k < ρ.length
    · rw [if_pos hk] at b ⊢
      exact Dat.cut _ q b
    · rw [if_neg hk] at b ⊢
      have na : ∀ a, (ρ ++ r)[k]? = some a → a ∉ ρ := fun a e z => by
        obtain ⟨i, hi, e2⟩ := List.getElem_of_mem z
        have : (ρ ++ r)[i]? = some a := by
          rw [List.getElem?_append_left hi, List.getElem?_eq_getElem hi, e2]
        have := ndx h.nd e this
        omega
      cases e : S[k]? with
      | none =>
        simp only [e] at b ⊢
        exact Dat.cut _ q b
      | some o =>
        simp only [e] at b ⊢
        obtain ⟨a, e1, e2, e3⟩ := dat_ref h q e
        cases o with
        | lst l =>
          obtain ⟨xs, e4, e5⟩ := e3
          simp only [Dat]
          exact ⟨a, xs, e1, na a e2, e4, DatAll.cutA l e5 (by simpa [D.bel] using b)⟩
        | dct ks l =>
          obtain ⟨xs, e4, ⟨e6, _⟩, e5⟩ := e3
          simp only [Dat]
          exact ⟨a, xs, e1, na a e2, e4, e6, DatAll.cutA l e5 (by simpa [D.bel] using b)⟩
        | dT ks l => exact Dat.cut _ q b
        | odd => exact Dat.cut _ q b
        | ins cn ns l =>
          obtain ⟨xs, C, dx, hC, e4, ⟨e6, _⟩, e5⟩ := e3
          simp only [Dat]
          exact ⟨a, xs, C, dx, e1, na a e2, hC, e4, e6, DatAll.cutA l e5 (by simpa [D.bel] using b)⟩
  | _ => exact Dat.cut _ q b
noncomputable def fnT (m : FM) : FM := fun ds S => (m ds S).bind fun d S' => .chk ((d.out S.length S').bel S.length = true ∧ ∀ i o, S'[i]? = some o → i < S.length → S[i]? = some o ∨ o.bel S.length = true) (.ok (d.out S.length S') (S'.take S.length))
section
variable {P : Program} {w : World} {c : Cc} {mg : Str → Option Value} {base : Heap} {k : Nat} {f : Addr} {fd : FuncData} {ps : List Str} {m : FM} {n : Nat}
theorem spD_T {vs : List V} {H : Hp} {Q : VK} {E : XK} (h : spD c n (fnT m) vs H Q E) : spD c n m vs H Q E := by
  obtain ⟨hl, ds, S, ρ, G, sb, hd, hr, q⟩ := h
  refine ⟨hl, ds, S, ρ, G, sb, hd, hr, ?_⟩
  unfold fnT at q
  rw [wp_bind] at q
  refine wp_mono q (fun d S' q v ρ' G' H' r' g' dv => ?_) fun _ _ z => z
  rw [wp_chk] at q
  obtain ⟨⟨b1, b2⟩, q⟩ := q
  obtain ⟨t, rfl⟩ := g'.ext.pre
  rw [← hr.len] at b1 q
  refine q v ρ G' H' ?_ g'.cut (Dat.outs r' dv b1)
  rw [hr.len]
  exact r'.cut hr b2
theorem FnG.cutT (F : FnG P w c.K mg base k f fd ps (spD c n m)) : FnG P w c.K mg base k f fd ps (spD c n (fnT m)) := by
  have key : ∀ vs H Q E, spD c n (fnT m) vs H Q E → spD c n m vs H Q E := fun vs H Q E h => spD_T h
  exact ⟨fun vs H Q E h => F.len vs H Q E (key _ _ _ _ h), fun A outer s H args us vs Q E hr e0 hb r h => F.run A outer s H args us vs Q E hr e0 hb r (key _ _ _ _ h)⟩
end
/-! ### new instances -/
noncomputable def frzI (S : Sto) (d : D) (S' : Sto) : R D := match S'[S.length]? with
  | some (.ins cn ns l) => .chk (S' = S ++ [.ins cn ns l] ∧ belAll S.length l = true) (.ok (.ins cn ns l) S)
  | _ => .bad
section
variable {c : Cc} {X : Cx} {W : WX} {k n : Nat} {ps ks : List Str} {C : Addr} {cn x qual : Str} {st : Stmt} {dvs : List V} {kvs : List (Str × V)} {p pos : Pos} {e : Expr} {es : List Expr} {kws : List Keyword} {fr fk : FA} {m : FM} {src : List Src}
theorem mk_ok {σ : L2.St} {ρ : List Addr} {S : Sto} {G H : Hp} {vs zs : List V} {ds es : List D} {Q : VK} {fz : Bool} (hC : c.cl cn = some C) (hs : srcOk c (n + 1) ks.length src) (hl : src.length = ps.length) (sb : Sub c G H) (r : Rep c ρ S G) (h1 : DatAll c ρ G ds vs) (h2 : DatAll c ρ G es zs)
    (q : wp (R.chk (ds.length = n ∧ es.length = ks.length) ((m (srcD (.ref S.length :: ds) es (toDs src)) (S ++ [.ins cn [] []])).bind fun d S' => match d with
      | .non => if fz = true then frzI S d S' else .ok (.ref S.length) S'
      | _ => .bad)) (kE c ρ G H Q) (kX c ρ G H fun cls d H' => W cls d σ H')) :
    vs.length = n ∧ zs.length = ks.length ∧ ∀ y dx H', H y = none → H dx = none → y ≠ dx → (∀ b, b ≠ y → b ≠ dx → H' b = H b) → H' y = some (.ins C dx []) → H' dx = some (.own y) → spD c ps.length m (srcV (.ref y :: vs) zs src) H' (fun v H3 => v = .non ∧ Q (.ref y) H3) (fun cls d H' => W cls d σ H') := by
  rw [wp_chk] at q
  obtain ⟨⟨q1, q2⟩, q⟩ := q
  refine ⟨by rw [h1.length]; exact q1, by rw [h2.length]; exact q2, fun y dx H' hy hdx hne hk ey edx => ?_⟩
  have sm : Same H H' := fun b o eb => by rw [hk b (ne_of_none eb hy) (ne_of_none eb hdx)]; exact eb
  have gy := sb.free hy
  have go : Go c ρ G H (ρ ++ [y]) (upd G y (.ins C dx [])) H' := by
    refine .mk' sb (fun b o eb => ?_) (Go.new (ρ := ρ) sb hy).sub.nt (fun b o eb hb => ⟨sm _ _ eb, ?_⟩) (Ext.alloc (same_new gy) gy)
    · by_cases z : b = y
      · subst z
        rw [upd_same] at eb
        rw [ey]
        exact eb
      · rw [upd_ne z] at eb
        exact sm _ _ (sb _ _ eb)
    · rw [upd_ne (ne_of_none eb hy)]
      exact hb
  have rep : Rep c (ρ ++ [y]) (S ++ [.ins cn [] []]) (upd G y (.ins C dx [])) := r.alloc (same_new gy) gy ⟨[], C, dx, hC, by rw [upd_same]; rfl, ⟨rfl, List.nodup_nil⟩, .nil⟩
  have dself : Dat c (ρ ++ [y]) (upd G y (.ins C dx [])) (.ref S.length) (.ref y) := by
    simp only [Dat]
    exact ⟨y, rfl, by rw [← r.len]; simp⟩
  refine ⟨by rw [srcV_len]; exact hl, _, _, _, _, go.sub, srcD_ok (.cons dself (DatAll.ext go.ext _ h1)) (DatAll.ext go.ext _ h2) (l := src) (by simp only [List.length_cons, q1, q2]; exact hs), rep, ?_⟩
  rw [wp_bind] at q
  refine wp_mono q (fun d S' q v ρ' G' H3 r' g' dv => ?_) fun _ _ z => z.go go
  split at q
  · simp only [Dat] at dv
    refine ⟨dv, ?_⟩
    cases fz with
    | false =>
      rw [if_neg (by decide)] at q
      exact q (.ref y) ρ' G' H3 r' (go.trans g') (Dat.ext g'.ext _ dself)
    | true =>
      rw [if_pos rfl] at q
      unfold frzI at q
      split at q
      · rename_i cn' ns l e2
        rw [wp_chk] at q
        obtain ⟨⟨b1, b2⟩, q⟩ := q
        obtain ⟨t, et⟩ := g'.ext.pre
        have hlen := r'.len
        have hlr := r.len
        rw [et, b1] at hlen
        simp only [List.length_append, List.length_cons, List.length_nil] at hlen
        have t0 : t = [] := List.eq_nil_of_length_eq_zero (by omega)
        subst t0
        rw [List.append_nil] at et
        subst et
        obtain ⟨a, e3, xs, C', dx', e4, e5, ⟨e6, _⟩, e7⟩ := r'.at_ S.length _ e2
        have ay : a = y := by
          rw [← r.len] at e3
          simpa using e3.symm
        subst ay
        have rc := Rep.cut r' r (fun i o ei hi => by
          left
          rw [b1, List.getElem?_append_left hi] at ei
          exact ei)
        rw [b1, List.take_left' rfl] at rc
        refine q (.ref a) ρ G' H3 rc (go.trans g').cut ?_
        simp only [Dat]
        refine ⟨a, xs, C', dx', rfl, r.fresh gy, e4, e5, e6, DatAll.cutA l e7 (by rw [r.len]; exact b2)⟩
      · exact q.elim
  · exact q.elim
theorem run_mkG {f : Addr} {fd : FuncData} {pins : List (Addr × Obj)} {σ : L2.St} {H : Hp} {s : Shared} {Q : VK} {us ws : List Value} {vs zs : List V} (M : Mk c.K C f) (F : FnG X.prog X.w c.K X.mg X.base k f fd ps (spD c ps.length m)) (hr : Rm (k + 1) X.A)
    (hb : KB c.K fd ps (n + 1) ks (fun vs zs => srcV vs zs src)) (tk : Takes X W) (hK : X.K = c.K) (I : Inv X pins σ H s) (r : Vals vs us) (rz : Vals zs ws) (l1 : vs.length = n) (l2 : zs.length = ks.length)
    (h : ∀ y dx H', H y = none → H dx = none → y ≠ dx → (∀ b, b ≠ y → b ≠ dx → H' b = H b) → H' y = some (.ins C dx []) → H' dx = some (.own y) → spD c ps.length m (srcV (.ref y :: vs) zs src) H' (fun v H3 => v = .non ∧ Q (.ref y) H3) (fun cls d H' => W cls d σ H')) :
    wpAny (model X.prog X.w) X.A (call (.ref C) us (ks.zip ws)) (EP X pins σ Q) X.xe s := by
  have n1 : H (s.heap.objs.size + 1) = none := I.hok.fresh (Nat.le_succ _)
  have n2 : H s.heap.objs.size = none := I.hok.fresh (Nat.le_refl _)
  have nne : s.heap.objs.size + 1 ≠ s.heap.objs.size := Nat.succ_ne_self _
  have hq := h (s.heap.objs.size + 1) s.heap.objs.size (upd (upd H s.heap.objs.size (.own (s.heap.objs.size + 1))) (s.heap.objs.size + 1) (.ins C s.heap.objs.size [])) n1 n2 nne
    (fun b hb1 hb2 => by rw [upd_ne hb1, upd_ne hb2]) upd_same (by rw [upd_ne nne.symm, upd_same])
  have I2 := Inv.made (C := C) I
  have r1 : Vals (V.ref (s.heap.objs.size + 1) :: vs) (Value.ref (s.heap.objs.size + 1) :: us) := .cons rfl r
  have kin2 := I2.kIn
  rw [hK] at kin2
  have kin : c.K.In s.heap := by rw [← hK]; exact I.kIn
  obtain ⟨rs, b, r2⟩ := hb _ (Value.ref (s.heap.objs.size + 1) :: us) ws _ zs kin2 r1 rz (congrArg Nat.succ l1) l2
  have e0 := I2.env0.make C us (ks.zip ws)
  rw [hK] at e0
  refine wpAny_call (make_map (f := f) kin M.makes M.init (beq_iff_eq.mp M.fn) (codeAny_mono (F.run _ X.stack _ _ ⟨Value.ref (s.heap.objs.size + 1) :: us, ks.zip ws⟩ rs _ _ _ (hr.make C us (ks.zip ws)) e0 b r2 hq) fun r s' z => ?_))
  match r, z with
  | .error e, z => exact tk e s' (XE.of_call I2 (fun cls d H' h => h) z)
  | .ok (.ret u), z =>
    obtain ⟨v, H', I3, rv, ev, q3⟩ := I2.after z
    subst ev
    exact ⟨rv, ⟨V.ref (s.heap.objs.size + 1), H', I3, rfl, q3⟩⟩
noncomputable def eMkB (fz : Bool) (cn : Str) (m : FM) (n k : Nat) (src : List SrcD) (fr fk : FA) : FE := fun δ S => (fr δ S).bind fun vs S => (fk δ S).bind fun zs S => .chk (vs.length = n ∧ zs.length = k)
  ((m (srcD (.ref S.length :: vs) zs src) (S ++ [.ins cn [] []])).bind fun d S' => match d with
    | .non => if fz = true then frzI S d S' else .ok (.ref S.length) S'
    | _ => .bad)
theorem de_mk0 {fz : Bool} (G : InitG X.prog X.w c X.mg X.base k C qual st dvs kvs ps m) (hC : c.cl cn = some C) (hr : Rm (k + 1) X.A) (hg : Gl X x) (hm : X.mg x = some (.ref C)) (hb : ∀ f fd, FD c.K "__init__" qual st dvs kvs f fd → KB c.K fd ps 1 ks (fun vs zs => srcV vs zs src))
    (hs : srcOk c 1 ks.length src) (hl : src.length = ps.length) (tk : Takes X W) (hkw : DK c X W kws fk) (hall : (backToKw pos (keywordEach kws X.env)).all (·.1.isSome) = true := by rfl) (hks : (backToKw pos (keywordEach kws X.env)).filterMap (·.1) = ks := by rfl)
    (hdb : (x == ("__debug__" : Str)) = false := by decide)
    (hpl : ((backTo pos (starEach [] X.env)).any (·.1) || (backToKw pos (keywordEach kws X.env)).any (·.1.isNone)) = false := by rfl) (hK : X.K = c.K := by rfl) :
    DE c X W (.Call (.Name x p) [] kws pos) (eMkB fz cn m 0 ks.length (toDs src) aNil fk) := by
  obtain ⟨f, fd, F, M, g⟩ := G
  refine ⟨fun pins s σ H Q I h => wpAny_Call_Name_kw (ld_glob I hg hm ?_ hdb)⟩
  have h := args_then (R1 := fun vs zs H => vs.length = 0 ∧ zs.length = ks.length ∧ ∀ y dx H', H y = none → H dx = none → y ≠ dx → (∀ b, b ≠ y → b ≠ dx → H' b = H b) → H' y = some (.ins C dx []) → H' dx = some (.own y) → spD c ps.length m (srcV (.ref y :: vs) zs src) H' (fun v H3 => v = .non ∧ Q (.ref y) H3) (fun cls d H' => W cls d σ H')) h
    fun ρ S G H vs zs ds es sb r h1 h2 q => mk_ok hC hs hl sb r h1 h2 q
  refine PySem.W.callWith_KW0 (h₀ := X.base) I.ok.mod.kin (by rw [hK]; exact M.kp) hall (thn (hkw.run pos pins s σ H _ I (tDA_nil h)) fun ws s2 ⟨zs, H2, I2, rz, l1, l2, q2⟩ => ⟨I2.kIn, ?_⟩) hpl
  rw [hks]
  exact run_mkG (us := []) (vs := []) M g hr (hb f fd F) tk hK I2 .nil rz rfl l2 q2
end
end DW
namespace DW
open PySem PySem.Spec PyProof.Rows L2
/-! ### the end: from the law's mirror to the row -/
theorem DefG.fin {P : Program} {w : World} {c : Cc} {mg : Str → Option Value} {k : Nat} {x y : Str} {st : Stmt} {m : FM} {fa : Addr} (d : DefAt c.K mg x st [] []) (hfa : mg x = some (.ref fa))
    (hb : ∀ (kV doc pm : Value) (an : Option Addr) (cdv ct : Value) (us : List Value), us.length = ([y] : List Str).length → bindArgs (PySem.W.fnOf x x (defArgs st) (defBody st) (defScope st) .none kV doc pm an cdv ct) ⟨us, []⟩ = pure (([y] : List Str).zip us))
    (h : ∀ base : Heap, DefG P w c mg base k x st [] [] [y] m) :
    ∃ fd : FuncData, (∀ (s : Shared) (v : Value), BindsTo s fd ⟨[v], []⟩ [(y, v)]) ∧ ∀ base : Heap, c.K.In base → base.Ns mainGlobals mg → FnG P w c.K mg base k fa fd [y] (spD c 1 m) := by
  obtain ⟨f, fd, F, hmx⟩ := d
  have e : f = fa := by
    rw [hfa] at hmx
    exact (Value.ref.inj (Option.some.inj hmx)).symm
  subst e
  refine ⟨fd, fun s v => FunD.bindsA F hb s [v] rfl, fun base _ _ => ?_⟩
  obtain ⟨f', fd', F', m', ok⟩ := h base
  have e' : f' = f := by
    rw [hmx] at m'
    exact (Value.ref.inj (Option.some.inj m')).symm
  subst e'
  have e2 : fd' = fd := by
    obtain ⟨_, _, _, _, _, _, _, _, _, _, _, l1, _⟩ := F.ex
    obtain ⟨_, _, _, _, _, _, _, _, _, _, _, l2, _⟩ := F'.ex
    rw [l1] at l2
    injection l2 with l2
    injection l2 with _ _ l2
    injection l2 with l2
    exact l2.symm
  subst e2
  exact ok
/-! ### constants of the module -/
theorem kt_D {c : Cc} {T : Addr} {e1 : Option Addr} {its : List Value} {n : Nat} {sl : Array (Option Value)} {xs : List V} {l : List D} (hk : c.K.lookup T = some ⟨.type "tuple", e1, .seq its.toArray n, sl⟩) (hz : its.length ≤ 1000) (r : Vals xs its) (hd : ∀ ρ H, DatAll c ρ H l xs) (hh : homV xs = true := by rfl) : ∀ ρ H, Dat c ρ H (.tup l) (.ref T) := fun ρ H => by
  simp only [Dat]
  exact ⟨T, xs, rfl, .inr ⟨_, its.toArray, n, hk, rfl, rfl, by rw [List.size_toArray]; exact size_le (by omega), by simpa using r, hh⟩, hd ρ H⟩
section
variable {c : Cc} {X : Cx} {W : WX} {x : Str} {pos : Pos}
theorem de_gc {v : V} {d : D} (hg : Gl X x) (h : ∃ u, X.mg x = some u ∧ RelV v u) (hd : ∀ ρ H, Dat c ρ H d v) (hx : (x == ("__debug__" : Str)) = false := by decide) : DE c X W (.Name x pos) (eC d) := de_c (pe_gc hg h hx) hd
end
/-! ### isinstance -/
inductive Kn where
  | b (n : String) | o (n : Str)
def Ob.kn : Ob → Option Kn
  | .dT _ _ => some (.b "dict")
  | .lst _ => some (.b "list")
  | .dct _ _ => some (.b "dict")
  | .ins n _ _ => some (.o n)
  | .odd => none
def D.kn (S : Sto) : D → Option Kn
  | .non => some (.b "NoneType")
  | .bl _ => some (.b "bool")
  | .int _ => some (.b "int")
  | .str _ => some (.b "str")
  | .tup _ => some (.b "tuple")
  | .lst _ => some (.b "list")
  | .scr _ => some (.b "list")
  | .dct _ _ => some (.b "dict")
  | .ins n _ _ => some (.o n)
  | .ref k => (S[k]?).bind Ob.kn
  | _ => none
def D.kq (S : Sto) : D → Option Kn
  | .ref k => match S[k]? with
    | some .odd => some (.b "dict")
    | some o => o.kn
    | none => none
  | d => d.kn S
theorem kq_of {S : Sto} {d : D} {t : Kn} (h : d.kn S = some t) : d.kq S = some t := by
  cases d with
  | ref k =>
    unfold D.kn at h
    unfold D.kq
    dsimp only at h ⊢
    cases e : S[k]? with
    | none =>
      rw [e] at h
      cases h
    | some o =>
      rw [e] at h
      cases o with
      | odd => cases h
      | _ => exact h
  | _ => exact h
def D.ckn : D → Option Kn
  | .ty n => some (.b n)
  | .cls n => some (.o n)
  | _ => none
def bTys : List String := ["NoneType", "bool", "int", "str", "tuple", "list", "dict"]
def isiG : Kn → Kn → Option Bool
  | .b t, .b u => if t ∈ bTys ∧ u ∈ bTys then some (decide (t = u) || (decide (t = "bool") && decide (u = "int"))) else none
  | .b t, .o _ => if t ∈ bTys then some false else none
  | .o _, .b u => if u ∈ bTys then some false else none
  | .o n, .o m => some (decide (n = m))
structure IsiCls (K : PySem.W.Frag) (C : Addr) : Prop where
  cl : Cls K C
  ha : PySem.W.findIn K (.ref C) "__class__" = some (some (.builtin "object.__class__"))
  hn : PySem.W.specialIn K (.builtin "object.__class__") "__get__" = some (some (.builtin "getset_descriptor.__get__"))
  htk : PySem.W.takesIn K (.builtin "object.__class__") = some true
  hm : PySem.W.mroIn K C (.type "object") = some true
structure IsiOk (c : Cc) : Prop where
  bo : ∀ n C, c.cl n = some C → ∀ t ∈ bTys, PySem.W.kitOne c.K (.type t) (.ref C) = some false
  ob : ∀ n C, c.cl n = some C → ∀ u ∈ bTys, PySem.W.kitOne c.K (.ref C) (.type u) = some false
  oo : ∀ n C m C', c.cl n = some C → c.cl m = some C' → PySem.W.kitOne c.K (.ref C) (.ref C') = some (decide (n = m))
  ty : ∀ n C, c.cl n = some C → IsiCls c.K C
theorem kitB_all : ∀ t ∈ bTys, ∀ u ∈ bTys, kitB t u = some (decide (t = u) || (decide (t = "bool") && decide (u = "int"))) := by decide +kernel
def KnV (c : Cc) : Kn → Value → Prop
  | .b t, v => v = .type t
  | .o n, v => ∃ C, c.cl n = some C ∧ v = .ref C
section
variable {c : Cc} {X : Cx} {W : WX} {ρ : List Addr} {S : Sto} {G H : Hp}
theorem TyX.up {K : PySem.W.Frag} (s : Sub c G H) {v : V} {t : Value} (h : TyX K G v t) : TyX K H v t := by
  cases h with
  | base h =>
    cases h with
    | non => exact .base .non
    | bl x => exact .base (.bl x)
    | int i => exact .base (.int i)
    | str x => exact .base (.str x)
    | flt x => exact .base (.flt x)
    | lst e => exact .base (.lst (s _ _ e))
    | frz e => exact .base (.frz (s _ _ e))
    | tup e => exact .base (.tup (s _ _ e))
    | dK e => exact .base (.dK (s _ _ e))
    | dT e => exact .base (.dT (s _ _ e))
    | ins e cl ha hn htk hm => exact .base (.ins (s _ _ e) cl ha hn htk hm)
  | byt b => exact .byt b
  | set e => exact .set (s _ _ e)
  | kList e c => exact .kList e c
  | kTuple e c => exact .kTuple e c
  | kDict e c => exact .kDict e c
  | fTuple e => exact .fTuple (s _ _ e)
  | fDict e => exact .fDict (s _ _ e)
theorem D.tyx {d : D} {v : V} {t : Kn} (hI : IsiOk c) (r : Rep c ρ S G) (h : Dat c ρ G d v) (e : d.kn S = some t) : ∃ u, KnV c t u ∧ TyX c.K G v u := by
  cases d with
  | non => simp only [Dat] at h; cases e; exact ⟨_, rfl, by rw [h]; exact .base .non⟩
  | bl b => simp only [Dat] at h; cases e; exact ⟨_, rfl, by rw [h]; exact .base (.bl b)⟩
  | int i => simp only [Dat] at h; cases e; exact ⟨_, rfl, by rw [h]; exact .base (.int i)⟩
  | str x => simp only [Dat] at h; cases e; exact ⟨_, rfl, by rw [h]; exact .base (.str x)⟩
  | ty n => cases e
  | cls n => cases e
  | tup l =>
    simp only [Dat] at h
    obtain ⟨a, xs, rfl, f, _⟩ := h
    cases e
    exact ⟨_, rfl, tyx_sqt f.sq⟩
  | lst l =>
    simp only [Dat] at h
    obtain ⟨a, xs, rfl, _, f, _⟩ := h
    cases e
    exact ⟨_, rfl, .base (.lst f)⟩
  | scr l =>
    simp only [Dat] at h
    obtain ⟨a, xs, rfl, f, _⟩ := h
    cases e
    rcases f with ⟨_, f | ⟨o, f⟩⟩ | ⟨o, its, n, f1, f2, _⟩
    · exact ⟨_, rfl, .base (.lst f)⟩
    · exact ⟨_, rfl, .base (.frz f)⟩
    · exact ⟨_, rfl, .kList f1 f2⟩
  | dct ks l =>
    simp only [Dat] at h
    obtain ⟨a, xs, rfl, _, f, _⟩ := h
    cases e
    exact ⟨_, rfl, .base (.dK f)⟩
  | ins n ns l =>
    simp only [Dat] at h
    obtain ⟨a, xs, C, dx, rfl, _, hC, f, _⟩ := h
    cases e
    have q := hI.ty n C hC
    exact ⟨.ref C, ⟨C, hC, rfl⟩, .base (.ins f q.cl q.ha q.hn q.htk q.hm)⟩
  | xcp n ns l => cases e
  | xcl n => cases e
  | ref k =>
    unfold D.kn at e
    dsimp only at e
    cases q : S[k]? with
    | none =>
      rw [q] at e
      cases e
    | some o =>
      rw [q] at e
      obtain ⟨a, rfl, _, q2⟩ := dat_ref r h q
      cases o with
      | lst l =>
        cases e
        obtain ⟨xs, f, _⟩ := q2
        exact ⟨_, rfl, .base (.lst f)⟩
      | dct ks l =>
        cases e
        obtain ⟨xs, f, _⟩ := q2
        exact ⟨_, rfl, .base (.dK f)⟩
      | dT ks l =>
        cases e
        obtain ⟨xs, f, _⟩ := q2
        exact ⟨_, rfl, .base (.dT f)⟩
      | odd => cases e
      | ins n ns l =>
        cases e
        obtain ⟨xs, C, dx, hC, f, _⟩ := q2
        have q := hI.ty n C hC
        exact ⟨.ref C, ⟨C, hC, rfl⟩, .base (.ins f q.cl q.ha q.hn q.htk q.hm)⟩
def TyZ (K : PySem.W.Frag) (H : Hp) (x : V) (t : Value) : Prop := TyX K H x t ∨ ∃ (a : Addr) (φ : Heap → Prop), x = .ref a ∧ t = .type "dict" ∧ H a = some (.ext φ) ∧ ∀ h, φ h → PySem.W.KitAt a "dict" h
theorem TyZ.up {K : PySem.W.Frag} (s : Sub c G H) {v : V} {t : Value} (h : TyZ K G v t) : TyZ K H v t := by
  rcases h with h | ⟨a, φ, h1, h2, h3, h4⟩
  · exact .inl (TyX.up s h)
  · exact .inr ⟨a, φ, h1, h2, s _ _ h3, h4⟩
def rIsiZ (K : PySem.W.Frag) : List V → Hp → VK → Prop := fun xs H Q => ∃ (x c : V) (t u : Value) (b : Bool), xs = [x, c] ∧ ClsV c u ∧ TyZ K H x t ∧ PySem.W.kitOne K t u = some b ∧ Q (.bl b) H
theorem call_isiZ : CallR X (.builtin "isinstance") (rIsiZ X.K) := by
  intro pins s σ H xs us Q I r h
  obtain ⟨x, c, t, u, b, rfl, k, ty, e, q⟩ := h
  obtain ⟨u1, u2, rfl, r1, r2⟩ := vals2 r
  have e2 := k.eq r2
  subst e2
  have : ∃ P : Heap → Prop, PySem.W.KitX X.K u1 t P ∧ P s.heap ∧ u1 ≠ .builtin "__main__.__loader__#opaque" := by
    rcases ty with ty | ⟨a, φ, rfl, rfl, h3, h4⟩
    · exact kit_of I r1 ty
    · cases (show u1 = Value.ref a from r1)
      obtain ⟨p, _⟩ := (show ObjOk X.prog X.w H s.heap a (.ext φ) from I.hok a _ h3)
      exact ⟨_, PySem.W.kitx_dict, h4 _ p, fun z => nomatch z⟩
  obtain ⟨P, Z, p, hx⟩ := this
  exact PySem.W.kia_one Z I.kIn p e hx fun tk => ⟨.bl b, H, I.tok tk, rfl, q⟩
theorem D.tyz {d : D} {v : V} {t : Kn} (hI : IsiOk c) (r : Rep c ρ S G) (h : Dat c ρ G d v) (e : d.kq S = some t) : ∃ u, KnV c t u ∧ TyZ c.K G v u := by
  have go : d.kn S = some t → ∃ u, KnV c t u ∧ TyZ c.K G v u := fun e => by
    obtain ⟨u, k, ty⟩ := D.tyx hI r h e
    exact ⟨u, k, .inl ty⟩
  cases d with
  | ref k =>
    unfold D.kq at e
    dsimp only at e
    cases q : S[k]? with
    | none =>
      rw [q] at e
      cases e
    | some o =>
      rw [q] at e
      cases o with
      | odd =>
        cases e
        obtain ⟨a, rfl, _, φ, f1, f2⟩ := dat_ref r h q
        exact ⟨_, rfl, .inr ⟨a, φ, rfl, rfl, f1, f2⟩⟩
      | _ => exact go (by
          show (S[k]?).bind Ob.kn = _
          rw [q]
          exact e)
  | _ => exact go e
theorem isiG_ok (hI : IsiOk c) {t u : Kn} {b : Bool} {vt vu : Value} (h : isiG t u = some b) (ht : KnV c t vt) (hu : KnV c u vu) : PySem.W.kitOne c.K vt vu = some b := by
  cases t with
  | b t =>
    cases u with
    | b u =>
      cases ht
      cases hu
      unfold isiG at h
      dsimp only at h
      split at h
      · rename_i z
        cases h
        exact kit_ty (kitB_all t z.1 u z.2)
      · cases h
    | o m =>
      cases ht
      obtain ⟨C, hC, rfl⟩ := hu
      unfold isiG at h
      dsimp only at h
      split at h
      · rename_i z
        cases h
        exact hI.bo m C hC t z
      · cases h
  | o n =>
    obtain ⟨C, hC, rfl⟩ := ht
    cases u with
    | b u =>
      cases hu
      unfold isiG at h
      dsimp only at h
      split at h
      · rename_i z
        cases h
        exact hI.ob n C hC u z
      · cases h
    | o m =>
      obtain ⟨C', hC', rfl⟩ := hu
      cases h
      exact hI.oo n C m C' hC hC'
def isiD : List D → Sto → R D
  | [d, e], S => match d.kq S, e.ckn with
    | some t, some u => match isiG t u with
      | some b => .ok (.bl b) S
      | none => .bad
    | _, _ => .bad
  | _, _ => .bad
theorem cal_isi (hI : IsiOk c) (hK : X.K = c.K := by rfl) : Cal c X (.builtin "isinstance") isiD := ⟨_, call_isiZ, fun ρ S G H ds vs Q W sb r h q => by
  unfold isiD at q
  split at q
  · rename_i d e
    split at q
    · rename_i t u e1 e2
      split at q
      · rename_i b e3
        obtain ⟨v, w, rfl, h1, h2⟩ := h.two
        obtain ⟨vt, k1, tx⟩ := D.tyz hI r h1 e1
        have : ∃ vu, KnV c u vu ∧ ClsV w vu := by
          cases e with
          | ty n => simp only [Dat] at h2; cases e2; exact ⟨_, rfl, by rw [h2]; exact .ty n⟩
          | cls n =>
            simp only [Dat] at h2
            obtain ⟨C, hC, rfl⟩ := h2
            cases e2
            exact ⟨.ref C, ⟨C, hC, rfl⟩, .own C⟩
          | _ => cases e2
        obtain ⟨vu, k2, cx⟩ := this
        exact ⟨v, w, vt, vu, b, rfl, cx, by rw [hK]; exact DW.TyZ.up sb tx, by rw [hK]; exact isiG_ok hI e3 k1 k2, q _ ρ G H r (Go.refl sb) (by simp only [Dat])⟩
      · exact q.elim
    · exact q.elim
  · exact q.elim⟩
end
end DW
namespace DW
open PySem PySem.Spec PyProof.Rows L2
/-! ### == and != by an own __eq__ -/
def boolR (neg : Bool) : D → Sto → R D
  | .bl b, S => .ok (.bl (if neg then !b else b)) S
  | _, _ => .bad
noncomputable def eqIr (cn : Str) (m : FM) (d e : D) (S : Sto) : R D := match d.fields S cn, e.fields S cn with
  | some _, some _ => m [d, e] S
  | some _, none => match e with
    | .str _ => m [d, e] S
    | _ => .bad
  | none, _ => eqD d e S
section
variable {c : Cc} {X : Cx} {W : WX} {k : Nat} {ps : List Str} {C : Addr} {cn qual : Str} {st : Stmt} {dvs : List V} {kvs : List (Str × V)} {m : FM} {a b : Expr} {fa fb : FE} {pos : Pos}
noncomputable def eqI (cn : Str) (m : FM) (d e : D) (S : Sto) : R D := (eqIr cn m d e S).bind (boolR false)
noncomputable def neI (cn : Str) (m : FM) (d e : D) (S : Sto) : R D := match e with
  | .str _ => .bad
  | e => (eqIr cn m d e S).bind (boolR true)
variable {g : D → D → Sto → R D} {op : CmpOp}
end
end DW
namespace DW
open PySem PySem.Spec PyProof.Rows L2
/-! ### methods of lists, whole numbers, texts -/
noncomputable def appD : D → List D → Sto → R D
  | .ref n, [y], S => match S[n]? with
    | some (.lst l) => .chk (l.length < sizeLine) (.ok .non (S.set n (.lst (l ++ [y]))))
    | _ => .bad
  | _, _, _ => .bad
section
variable {c : Cc} {X : Cx} {W : WX} {o e : Expr} {es : List Expr} {fo : FE} {fr : FA} {apos cpos pos : Pos}
noncomputable def eLm (g : D → List D → Sto → R D) (fo : FE) (fr : FA) : FE := fun δ S => (fo δ S).bind fun x S => match x.rseq S with
  | some _ => (fr δ S).bind fun vs S => g x vs S
  | none => .bad
theorem lm_then (hK : X.K = c.K) {g : D → List D → Sto → R D} {r : V → List V → Hp → VK → Prop} {σ : L2.St} {H : Hp} {Q : VK}
    (s : ∀ ρ S G H d v ds vs Q W, Sub c G H → Rep c ρ S G → Dat c ρ G d v → DatAll c ρ G ds vs → wp (g d ds S) (kE c ρ G H Q) (kX c ρ G H W) → r v vs H Q) (h : tD c W (eLm g fo fr) σ H Q) : tBM X.K "list" r (tD c W fo) (tDA c W fr) σ H Q := by
  obtain ⟨δ, S, ρ, G, sb, hL, hr, h⟩ := h
  refine ⟨δ, S, ρ, G, sb, hL, hr, ?_⟩
  unfold eLm at h
  rw [wp_bind] at h
  refine wp_mono h (fun d S1 h1 v ρ1 G1 H1 r1 e1 dv => ?_) (fun _ _ z => z)
  split at h1
  · rename_i l e2
    obtain ⟨a, xs, rfl, z2, z3⟩ := D.rseq_sq r1 dv e2
    refine ⟨.inl ⟨rfl, xs, by rw [hK]; exact e1.sub.sqL z2⟩, δ, S1, ρ1, G1, e1.sub, hL.ext e1.ext, r1, ?_⟩
    rw [wp_bind] at h1
    refine wp_mono h1 (fun ds S2 h2 vs ρ2 G2 H2 r2 e2 dvs => ?_) (fun _ _ z => z.go e1)
    exact s ρ2 S2 G2 H2 d _ ds vs Q _ e2.sub r2 (Dat.ext e2.ext _ dv) dvs (wpE_go (wpE_go h2 e1) e2)
  · exact h1.elim
theorem de_app (ho : DE c X W o fo) (ha : DA c X W (e :: es) fr) (hbase : attributeBase o "append" X.env (eval o X.env) = eval o X.env := by rfl)
    (hfew : ((backTo cpos (starEach (e :: es) X.env)).all (fun x => !x.1) && (backToKw cpos (keywordEach [] X.env)).all (fun x => x.1.isSome)
      && decide ((e :: es).length + ([] : List Keyword).length + (if ([] : List Keyword).isEmpty then 0 else 1) < 30)) = true := by rfl)
    (hline : (apos.endLine == cpos.line) = true := by rfl) (hs : starEach (e :: es) X.env = (false, eval e X.env) :: starEach es X.env := by rfl) (hplain : (backTo cpos (starEach es X.env)).any (·.1) = false := by rfl) (hK : X.K = c.K := by rfl) :
    DE c X W (.Call (.Attribute o "append" apos) (e :: es) [] cpos) (eLm appD fo fr) := pe_imp (pe_bm PySem.F.plainAttrs_list PySem.F.slot_list_append PySem.F.type_list_append mt_append ho ha hbase hfew hline hs hplain) fun σ H Q q => lm_then hK (fun ρ S G H d v ds vs Q W sb r h1 h2 q => by
  unfold appD at q
  split at q
  · rename_i n y
    split at q
    · rename_i l e2
      rw [wp_chk] at q
      obtain ⟨w, rfl, h3⟩ := h2.one
      obtain ⟨a, z1, z2, xs, z3, z4⟩ := dat_ref r h1 e2
      have go : Go c ρ G H ρ (upd G a (.lst (xs ++ [w]))) (upd H a (.lst (xs ++ [w]))) := Go.write sb z2 z3
      exact ⟨a, xs, w, z1, rfl, sb _ _ z3, by rw [z4.length]; exact q.1, q.2 _ ρ _ _ (r.write z2 ⟨_, upd_same, DatAll.ext go.ext _ (z4.append (.cons h3 .nil))⟩) go (by simp only [Dat])⟩
    · exact q.elim
  · exact q.elim) q
def bitsD : D → Sto → R D
  | .int i, S => .ok (.int (Builtin.Int.intBits i : Nat)) S
  | _, _ => .bad
def allS : List D → Option (List Str)
  | [] => some []
  | .str x :: l => (allS l).map (x :: ·)
  | _ => none
theorem allS_map {ρ : List Addr} {G : Hp} : ∀ {l : List D} {vs : List V} {ss : List Str}, DatAll c ρ G l vs → allS l = some ss → vs = ss.map V.str
  | [], vs, bs, h, e => by
    simp only [DatAll] at h
    simp only [allS, Option.some.injEq] at e
    rw [h, ← e]
    rfl
  | d :: l, vs, bs, h, e => by
    simp only [DatAll] at h
    obtain ⟨y, r, rfl, h1, h2⟩ := h
    cases d with
    | str b =>
      simp only [allS, Option.map_eq_some_iff] at e
      obtain ⟨t, e1, e2⟩ := e
      simp only [Dat] at h1
      rw [h1, ← e2, allS_map h2 e1]
      rfl
    | _ => simp [allS] at e
def eS1 (g : Str → D → Sto → R D) (fo fe : FE) : FE := fun δ S => (fo δ S).bind fun x S => match x with
  | .str a => (fe δ S).bind fun y S => g a y S
  | _ => .bad
theorem s1_then {fe : FE} {g : Str → D → Sto → R D} {r : V → List V → Hp → VK → Prop} {σ : L2.St} {H : Hp} {Q : VK} (s : ∀ ρ S G H a d v Q W, Sub c G H → Rep c ρ S G → Dat c ρ G d v → wp (g a d S) (kE c ρ G H Q) (kX c ρ G H W) → r (.str a) [v] H Q)
    (h : tD c W (eS1 g fo fe) σ H Q) : tM1 r (tD c W fo) (tD c W fe) σ H Q := by
  obtain ⟨δ, S, ρ, G, sb, hL, hr, h⟩ := h
  refine ⟨δ, S, ρ, G, sb, hL, hr, ?_⟩
  unfold eS1 at h
  rw [wp_bind] at h
  refine wp_mono h (fun d S1 h1 v ρ1 G1 H1 r1 e1 dv => ?_) (fun _ _ z => z)
  split at h1
  · rename_i a
    simp only [Dat] at dv
    subst dv
    refine ⟨⟨a, rfl⟩, δ, S1, ρ1, G1, e1.sub, hL.ext e1.ext, r1, ?_⟩
    rw [wp_bind] at h1
    exact wp_mono h1 (fun d2 S2 h2 w ρ2 G2 H2 r2 e2 dw => s ρ2 S2 G2 H2 a d2 w Q _ e2.sub r2 dw (wpE_go (wpE_go h2 e1) e2)) (fun _ _ z => z.go e1)
  · exact h1.elim
noncomputable def joinD (a : Str) (d : D) (S : Sto) : R D := match d.seq S with
  | some l => match allS l with
    | some ys => .chk ((ys.map (·.length)).sum + ys.length * a.length ≤ 16777216) (.ok (.str (Txt.join a ys)) S)
    | none => .bad
  | none => .bad
theorem de_join {fe : FE} (ho : DE c X W o fo) (he : DE c X W e fe) (hs : starEach [e] X.env = [(false, eval e X.env)] := by rfl) (hbase : attributeBase o "join" X.env (eval o X.env) = eval o X.env := by rfl) (hline : (apos.endLine == pos.line) = true := by rfl) (hK : X.K = c.K := by rfl) :
    DE c X W (.Call (.Attribute o "join" apos) [e] [] pos) (eS1 joinD fo fe) := pe_imp (pe_join ho he hs hbase hline) fun σ H Q q => s1_then (fun ρ S G H a d v Q W sb r h q => by
  unfold joinD at q
  split at q
  · rename_i l e1
    split at q
    · rename_i ys e2
      rw [wp_chk] at q
      obtain ⟨p, xs, rfl, z2, z3⟩ := D.seq_sq r h e1
      have := allS_map z3 e2
      subst this
      refine ⟨a, p, ys, rfl, rfl, ?_, q.1, q.2 _ ρ G H r (Go.refl sb) (by simp only [Dat])⟩
      rw [hK]
      rcases z2 with z2 | z2
      · exact .inl (sb.sqL z2)
      · exact .inr (sb.sqT z2)
    · exact q.elim
  · exact q.elim) q
/-! ### dict displays -/
def eDictM0 : FE := fun _ S => .ok (.ref S.length) (S ++ [.dct [] []])
def eDict0 : FE := fun _ S => .ok (.dct [] []) S
end
abbrev FP := Dl → Sto → R (List (Key × D))
def pNil : FP := fun _ S => .ok [] S
def pCons (fk fv : FE) (fr : FP) : FP := fun δ S => (fk δ S).bind fun k S => (fv δ S).bind fun v S => (fr δ S).bind fun l S => match k.keyOf with
  | some k => .ok ((k, v) :: l) S
  | none => .bad
noncomputable def eDictM (fr : FP) : FE := fun δ S => (fr δ S).bind fun l S => .chk ((l.map (·.1)).Nodup ∧ l.length ≤ 15) (.ok (.ref S.length) (S ++ [.dct (l.map (·.1)) (l.map (·.2))]))
section
variable {c : Cc} {X : Cx} {W : WX} {pos : Pos}
def tDP (c : Cc) (W : WX) (f : FP) : L2.St → Hp → (List (V × V) → Hp → Prop) → Prop := fun σ H Q => ∃ δ S ρ G, Sub c G H ∧ Loc c ρ G δ σ ∧ Rep c ρ S G ∧ wp (f δ S) (fun l S' => ∀ xs ρ' G' H', Rep c ρ' S' G' → Go c ρ G H ρ' G' H' → DatAll c ρ' G' (l.map (·.2)) xs → Q (((l.map (·.1)).map kV).zip xs) H') (kX c ρ G H fun cls d H' => W cls d σ H')
abbrev DP (c : Cc) (X : Cx) (W : WX) (pos : Pos) (ks : List (Option Expr)) (vs : List Expr) (f : FP) : Prop := ∃ trs, PPs X pos ks vs trs ∧ ∀ σ H Q, tDP c W f σ H Q → tPairs trs σ H Q
theorem dp_nil : DP c X W pos [] [] pNil := ⟨_, pps_nil, fun σ H Q h => by
  obtain ⟨δ, S, ρ, G, sb, hl, hr, h⟩ := h
  exact h [] ρ G H hr (Go.refl sb) .nil⟩
theorem dp_cons {k v : Expr} {ks : List (Option Expr)} {vs : List Expr} {fk fv : FE} {fr : FP} (hk : DE c X W k fk) (hv : DE c X W v fv) (hr : DP c X W pos ks vs fr) : DP c X W pos (some k :: ks) (v :: vs) (pCons fk fv fr) := by
  obtain ⟨trs, hp, ht⟩ := hr
  refine ⟨_, pps_cons hk hv hp, fun σ H Q h => ?_⟩
  obtain ⟨δ, S, ρ, G, sb, hl, hr, h⟩ := h
  refine ⟨δ, S, ρ, G, sb, hl, hr, ?_⟩
  unfold pCons at h
  rw [wp_bind] at h
  refine wp_mono h (fun dk S1 h1 vk ρ1 G1 H1 r1 e1 dkv => ?_) (fun _ _ z => z)
  refine ⟨δ, S1, ρ1, G1, e1.sub, hl.ext e1.ext, r1, ?_⟩
  rw [wp_bind] at h1
  refine wp_mono h1 (fun dv S2 h2 vv ρ2 G2 H2 r2 e2 dvv => ?_) (fun _ _ z => z.go e1)
  have e12 := e1.trans e2
  refine ht σ H2 _ ⟨δ, S2, ρ2, G2, e2.sub, hl.ext e12.ext, r2, ?_⟩
  rw [wp_bind] at h2
  refine wp_mono h2 (fun l S3 h3 xs ρ3 G3 H3 r3 e3 dl => ?_) (fun _ _ z => z.go e12)
  split at h3
  · rename_i k e4
    rw [keyOf_eq dkv e4]
    exact h3 (vv :: xs) ρ3 G3 H3 r3 (e12.trans e3) (.cons (Dat.ext e3.ext _ dvv) dl)
  · exact h3.elim
theorem mergeK_nd : ∀ (more acc : List (Key × V)), ((acc ++ more).map (·.1)).Nodup → mergeK acc more = acc ++ more
  | [], acc, _ => by simp [mergeK]
  | p :: more, acc, h => by
    have h' : ((acc ++ [p] ++ more).map (·.1)).Nodup := by
      rw [List.append_assoc]
      exact h
    have hn : ∀ q ∈ acc, q.1 ≠ p.1 := fun q hq z => by
      rw [List.map_append, List.nodup_append] at h
      exact h.2.2 q.1 (List.mem_map.mpr ⟨q, hq, rfl⟩) p.1 (List.mem_map.mpr ⟨p, List.mem_cons_self .., rfl⟩) z
    have e : putK acc p.1 p.2 = acc ++ [p] := by
      unfold putK
      rw [if_neg]
      intro z
      obtain ⟨q, hq, z⟩ := List.any_eq_true.mp z
      exact hn q hq (by simpa using z)
    show mergeK (putK acc p.1 p.2) more = _
    rw [e, mergeK_nd more (acc ++ [p]) h', List.append_assoc]
    rfl
theorem zip_kV {ks : List Key} : ∀ {xs : List V}, (ks.map kV).zip xs = (ks.zip xs).map fun kv => (kV kv.1, kv.2) := by
  induction ks with
  | nil => intro xs; simp
  | cons k ks ih =>
    intro xs
    cases xs with
    | nil => simp
    | cons x xs => simp [ih]
theorem fst_zipK {ks : List Key} : ∀ {xs : List V}, ks.length = xs.length → (ks.zip xs).map (·.1) = ks := by
  induction ks with
  | nil => intro xs _; simp
  | cons k ks ih =>
    intro xs h
    cases xs with
    | nil => simp at h
    | cons x xs => simp [ih (by simpa using h)]
theorem de_dict {keys : List (Option Expr)} {values : List Expr} {fr : FP} (h : DP c X W pos keys values fr) (hall : keys.all (·.isSome) = true := by rfl) (hl : keys.length = values.length := by rfl) (h0 : keys ≠ [] := by intro z; cases z) (h15 : keys.length ≤ 15 := by decide) :
    DE c X W (.Dict keys values pos) (eDictM fr) := by
  obtain ⟨trs, hp, ht⟩ := h
  refine pe_imp (pe_disp hp hall hl h0 h15) fun σ H Q q => ?_
  intro p hp
  refine ht σ _ _ ?_
  obtain ⟨δ, S, ρ, G, sb, hl, hr, h⟩ := q
  have gp := sb.free hp
  have sb' : Sub c G (upd H p (.dK [])) := (Go.keep (ρ := ρ) sb (same_new hp)).sub
  refine ⟨δ, S, ρ, G, sb', hl, hr, ?_⟩
  unfold eDictM at h
  rw [wp_bind] at h
  have up : Go c ρ G H ρ G (upd H p (.dK [])) := Go.keep sb (same_new hp)
  refine wp_mono h (fun l S1 h1 xs ρ1 G1 H1 r1 e1 dl => ?_) (fun _ _ z => z.go up)
  rw [wp_chk] at h1
  obtain ⟨⟨nd, h15⟩, h1⟩ := h1
  obtain ⟨ep, gp1⟩ := e1.stay upd_same gp (fun _ z => by cases z)
  have lz : (l.map (·.1)).length = xs.length := by rw [dl.length, List.length_map, List.length_map]
  refine ⟨ep, (l.map (·.1)).zip xs, zip_kV, by rw [List.length_zip, ← lz, Nat.min_self, List.length_map]; exact h15, ?_⟩
  have em : mergeK [] ((l.map (·.1)).zip xs) = (l.map (·.1)).zip xs := by
    rw [mergeK_nd _ [] (by rw [List.nil_append, fst_zipK lz]; exact nd)]
    rfl
  rw [em]
  have x : Ext ρ1 G1 (ρ1 ++ [p]) (upd G1 p (.dK ((l.map (·.1)).zip xs))) := Ext.alloc (same_new gp1) gp1
  have gg := up.trans e1
  refine h1 (.ref p) (ρ1 ++ [p]) (upd G1 p (.dK ((l.map (·.1)).zip xs))) _ (r1.alloc (same_new gp1) gp1 ⟨xs, upd_same, ⟨by rw [List.length_map, List.length_map], nd⟩, DatAll.ext x _ dl⟩) (gg.lay hp gp1 ep (fun _ z => by cases z) (fun _ _ z => by unfold LamX.CodeO at z; cases z) x) ?_
  · simp only [Dat]
    exact ⟨p, rfl, by rw [← r1.len]; simp⟩
end
end DW
namespace DW
open PySem PySem.Spec PyProof.Rows L2
theorem tk_never {X : Cx} : Takes X WN := fun u s' x => by
  obtain ⟨_, _, _, _, _, _, _, _, _, _, _, _, _, _, _, _, no⟩ := x
  exact no.elim
/-! ### one of two readings, by what is known ahead -/
def eAlt (p : Dl → Sto → Bool) (f g : FE) : FE := fun δ S => if p δ S = true then f δ S else g δ S
def isC (cn : Str) (fo : FE) : Dl → Sto → Bool := fun δ S => match fo δ S with
  | .ok x S => (x.fields S cn).isSome
  | _ => false
/-! ### isinstance's facts, class by class -/
def allP (P : Str → Addr → Prop) : List (Str × Addr) → Prop
  | [] => True
  | p :: l => P p.1 p.2 ∧ allP P l
def allT (P : String → Prop) : List String → Prop
  | [] => True
  | p :: l => P p ∧ allT P l
theorem allP_cons {P : Str → Addr → Prop} {p : Str × Addr} {l : List (Str × Addr)} : allP P (p :: l) = (P p.1 p.2 ∧ allP P l) := rfl
theorem allP_nil {P : Str → Addr → Prop} : allP P [] = True := rfl
theorem allT_cons {P : String → Prop} {p : String} {l : List String} : allT P (p :: l) = (P p ∧ allT P l) := rfl
theorem allT_nil {P : String → Prop} : allT P [] = True := rfl
theorem allP_at {P : Str → Addr → Prop} : ∀ {l : List (Str × Addr)} {n : Str} {C : Addr}, allP P l → l.lookup n = some C → P n C
  | [], _, _, _, e => by cases e
  | (m, D) :: l, n, C, h, e => by
    rw [List.lookup_cons] at e
    by_cases z : n = m
    · rw [show (n == m) = true by simpa using z] at e
      cases e
      rw [z]
      exact h.1
    · rw [show (n == m) = false by simpa using z] at e
      exact allP_at h.2 e
theorem allT_at {P : String → Prop} : ∀ {l : List String} {n : String}, allT P l → n ∈ l → P n
  | p :: l, n, h, e => by
    rcases List.mem_cons.mp e with rfl | e
    · exact h.1
    · exact allT_at h.2 e
theorem IsiOk.of_list {K : PySem.W.Frag} {l : List (Str × Addr)} {T : List (Addr × Str)} {xc : Str → Option Addr} (bo : allP (fun _ C => allT (fun t => PySem.W.kitOne K (.type t) (.ref C) = some false) bTys) l) (ob : allP (fun _ C => allT (fun t => PySem.W.kitOne K (.ref C) (.type t) = some false) bTys) l)
    (oo : allP (fun n C => allP (fun m C' => PySem.W.kitOne K (.ref C) (.ref C') = some (decide (n = m))) l) l) (ty : allP (fun _ C => IsiCls K C) l) : IsiOk ⟨K, fun n => l.lookup n, T, xc⟩ :=
  ⟨fun _ _ h t ht => allT_at (allP_at bo h) ht, fun _ _ h t ht => allT_at (allP_at ob h) ht, fun _ _ _ _ h h' => allP_at (allP_at oo h) h', fun _ _ h => allP_at ty h⟩
end DW
namespace DW
open PySem PySem.Spec PyProof.Rows L2
section
variable {K : PySem.W.Frag} {C C' : Addr} {t : String} {n m : Str} {b : Bool}
theorem kit_bo (h1 : PySem.W.isClsIn K C = true) (h2 : PySem.W.typeIn K (.ref C) = some (.type "type")) (h3 : PySem.W.subIn K (.type t) (.ref C) = some b) : PySem.W.kitOne K (.type t) (.ref C) = some b := by
  have h1 : (PySem.W.clsIn K C).isSome = true := h1
  unfold PySem.W.kitOne PySem.W.kitCls
  rw [if_neg (by intro z; cases (show Value.type t = Value.ref C from by simpa using z))]
  simp only [h1, h2, h3]
  rfl
theorem kit_ob (h1 : PySem.W.kitMeta t = true) (h3 : PySem.W.subIn K (.ref C) (.type t) = some b) : PySem.W.kitOne K (.ref C) (.type t) = some b := by
  unfold PySem.W.kitOne PySem.W.kitCls
  rw [if_neg (by intro z; cases (show Value.ref C = Value.type t from by simpa using z))]
  simp only [h1, h3, if_true]
theorem kit_same : PySem.W.kitOne K (.ref C) (.ref C) = some (decide (n = n)) := by
  unfold PySem.W.kitOne
  rw [if_pos (by simp), decide_eq_true rfl]
theorem kit_diff (hn : n ≠ m) (hc : C ≠ C') (h1 : PySem.W.isClsIn K C' = true) (h2 : PySem.W.typeIn K (.ref C') = some (.type "type")) (h3 : PySem.W.subIn K (.ref C) (.ref C') = some false) : PySem.W.kitOne K (.ref C) (.ref C') = some (decide (n = m)) := by
  have h1 : (PySem.W.clsIn K C').isSome = true := h1
  unfold PySem.W.kitOne PySem.W.kitCls
  rw [if_neg (by intro z; exact hc (by simpa using z)), decide_eq_false hn]
  simp only [h1, h2, h3]
  rfl
end
end DW
namespace DW
open PySem PySem.Spec PyProof.Rows L2
theorem kit_same' {K : PySem.W.Frag} {C : Addr} : PySem.W.kitOne K (.ref C) (.ref C) = some true := by
  unfold PySem.W.kitOne
  rw [if_pos (by simp)]
theorem kit_diff' {K : PySem.W.Frag} {C C' : Addr} (hc : C ≠ C') (h1 : PySem.W.isClsIn K C' = true) (h2 : PySem.W.typeIn K (.ref C') = some (.type "type")) (h3 : PySem.W.subIn K (.ref C) (.ref C') = some false) : PySem.W.kitOne K (.ref C) (.ref C') = some false := by
  have h1 : (PySem.W.clsIn K C').isSome = true := h1
  unfold PySem.W.kitOne PySem.W.kitCls
  rw [if_neg (by intro z; exact hc (by simpa using z))]
  simp only [h1, h2, h3]
  rfl
end DW
namespace DW
open PySem PySem.Spec PyProof.Rows L2
/-! ### loops of mirrors, by invariants -/
theorem forL_inv {src : Sto → Prop} {g : FG} {fb : FS} {N : Dl → Sto → Prop} {T : D → Sto → Prop} {E : Xc → Dl → Sto → Prop} (items : List D) (I : Nat → Dl → Sto → Prop) {δ : Dl} {S : Sto} (h0 : I 0 δ S)
    (st : ∀ i d δ S, items[i]? = some d → I i δ S → src S ∧ wp (g d δ S) (fun δ1 S1 => wpS (fb δ1 S1) (I (i + 1)) T E) (fun _ _ => False)) (fin : ∀ δ S, I items.length δ S → src S ∧ N δ S) : wpS (forL src g fb items δ S) N T E := by
  have key : ∀ (l : List D) (i : Nat) (δ : Dl) (S : Sto), items.drop i = l → i ≤ items.length → I i δ S → wpS (forL src g fb l δ S) N T E := fun l => by
    induction l with
    | nil =>
      intro i δ S e hi h
      have : i = items.length := by
        have := congrArg List.length e
        simp at this
        omega
      subst this
      unfold forL
      rw [wpS_chk]
      exact fin δ S h
    | cons d l ih =>
      intro i δ S e hi h
      have hlt : i < items.length := by
        have := congrArg List.length e
        simp at this
        omega
      have e2 := List.drop_eq_getElem_cons hlt
      rw [e] at e2
      injection e2 with e3 e4
      obtain ⟨s1, s2⟩ := st i d δ S (by rw [List.getElem?_eq_getElem hlt, e3]) h
      unfold forL
      rw [wpS_chk, wpS_goT]
      refine ⟨s1, wp_mono s2 (fun δ1 S1 q => ?_) fun _ _ z => z⟩
      rw [wpS_seq]
      exact wpS_mono q (fun δ2 S2 z => ih (i + 1) δ2 S2 e4.symm hlt z) (fun _ _ z => z) fun _ _ _ z => z
  exact key items 0 δ S (by simp) (Nat.zero_le _) h0
theorem compL_inv {src : Sto → Prop} {p : Pt} {vs : List Nat} {tt : FT} {fe : FE} {δ : Dl} {Q : List D → Sto → Prop} {E : Xc → Sto → Prop} (items : List D) (I : Nat → List D → Sto → Prop) {S : Sto} (h0 : I 0 [] S)
    (st : ∀ i d acc S, items[i]? = some d → I i acc S → src S ∧ ∃ δ', p.d d (wipeD δ vs) = some δ' ∧ wp (tt δ' S) (fun b S1 => if b = true then wp (fe δ' S1) (fun y S2 => acc.length < sizeLine ∧ I (i + 1) (acc ++ [y]) S2) (fun _ _ => False) else I (i + 1) acc S1) (fun _ _ => False))
    (fin : ∀ acc S, I items.length acc S → src S ∧ Q acc S) : wp (compL src p vs tt fe δ items [] S) Q E := by
  have key : ∀ (l : List D) (i : Nat) (acc : List D) (S : Sto), items.drop i = l → i ≤ items.length → I i acc S → wp (compL src p vs tt fe δ l acc S) Q E := fun l => by
    induction l with
    | nil =>
      intro i acc S e hi h
      have : i = items.length := by
        have := congrArg List.length e
        simp at this
        omega
      subst this
      unfold compL
      rw [wp_chk]
      exact fin acc S h
    | cons d l ih =>
      intro i acc S e hi h
      have hlt : i < items.length := by
        have := congrArg List.length e
        simp at this
        omega
      have e2 := List.drop_eq_getElem_cons hlt
      rw [e] at e2
      injection e2 with e3 e4
      obtain ⟨s1, δ', s2, s3⟩ := st i d acc S (by rw [List.getElem?_eq_getElem hlt, e3]) h
      unfold compL
      rw [wp_chk, s2]
      refine ⟨s1, ?_⟩
      dsimp only
      rw [wp_bind, wp_noX]
      refine wp_mono s3 (fun b S1 q => ?_) fun _ _ z => z
      split at q
      · rename_i hb
        rw [if_pos hb, wp_bind, wp_noX]
        refine wp_mono q (fun y S2 z => ?_) fun _ _ z => z
        rw [wp_chk]
        exact ⟨z.1, ih (i + 1) _ S2 e4.symm hlt z.2⟩
      · rename_i hb
        rw [if_neg hb]
        exact ih (i + 1) _ S1 e4.symm hlt q
  exact key items 0 [] S (by simp) (Nat.zero_le _) h0
theorem while_inv {ft : FT} {fb : FS} {N : Dl → Sto → Prop} {T : D → Sto → Prop} {E : Xc → Dl → Sto → Prop} (I : Nat → Dl → Sto → Prop) (m : Nat) {δ : Dl} {S : Sto} (hm : m < 2 ^ 62) (h0 : I m δ S)
    (st : ∀ m δ S, I m δ S → wp (ft δ S) (fun b S1 => if b = true then wpS (fb δ S1) (fun δ2 S2 => ∃ m', m' < m ∧ I m' δ2 S2) T E else N δ S1) (fun e s => E e δ s)) : wpS (sWhile ft fb δ S) N T E := by
  have key : ∀ (n m : Nat) (δ : Dl) (S : Sto), m < n → I m δ S → wpS (whileN ft fb n δ S) N T E := fun n => by
    induction n with
    | zero =>
      intro m δ S hm h
      omega
    | succ n ih =>
      intro m δ S hm h
      unfold whileN
      rw [wpS_go]
      refine wp_mono (st m δ S h) (fun b S1 q => ?_) fun _ _ z => z
      split at q
      · rename_i hb
        rw [if_pos hb, wpS_seq]
        refine wpS_mono q (fun δ2 S2 z => ?_) (fun _ _ z => z) fun _ _ _ z => z
        obtain ⟨m', h1, h2⟩ := z
        exact ih m' δ2 S2 (by omega) h2
      · rename_i hb
        rw [if_neg hb]
        exact q
  unfold sWhile
  rw [fuel_eq]
  exact key _ m δ S hm h0
/-! ### what is drawn by -/
structure Dw where
  cs : List Int
  ls : List Int
  k : Nat
structure Dw.ok (d : Dw) (b : Nat) : Prop where
  c1 : d.cs.length = 64
  c2 : ∀ x ∈ d.cs, 0 ≤ x ∧ x < 2147483648
  l1 : d.ls.length ≤ 63
  k1 : d.k ≤ b
def drawKs : List Key := [.inr "cells", .inr "left", .inr "spot"]
def Dw.s (d : Dw) (Z : Sto) : Sto := .dct drawKs [.lst (d.cs.map .int), .ref 1, .int d.k] :: .lst (d.ls.map .int) :: Z
theorem Dw.ok.mono {d : Dw} {b b' : Nat} (h : d.ok b) (e : b ≤ b') : d.ok b' := ⟨h.c1, h.c2, h.l1, Nat.le_trans h.k1 e⟩
theorem drw_spot {d : Dw} {Z : Sto} : dixD (.ref 0) (.str "spot") (d.s Z) = .ok (.int d.k) (d.s Z) := rfl
theorem drw_left {d : Dw} {Z : Sto} : dixD (.ref 0) (.str "left") (d.s Z) = .ok (.ref 1) (d.s Z) := rfl
theorem drw_cells {d : Dw} {Z : Sto} : dixD (.ref 0) (.str "cells") (d.s Z) = .ok (.lst (d.cs.map .int)) (d.s Z) := rfl
theorem drw_put {d : Dw} {Z : Sto} {k : Nat} : dputD (.ref 0) (.str "spot") (.int (k : Int)) (d.s Z) = .ok () ({ d with k := k }.s Z) := by
  show R.chk (drawKs.length < sizeLine) _ = _
  rw [chk_pos (by show 3 < sizeLine; decide)]
  rfl
theorem drw_set {d : Dw} {Z : Sto} {i : Int} {x : Int} (h0 : 0 ≤ i) (h1 : i < d.ls.length) : lputD (.ref 1) (.int i) (.int x) (d.s Z) = .ok () ({ d with ls := d.ls.set i.toNat x }.s Z) := by
  show (match ixN (d.ls.map D.int).length i with
    | some j => R.ok () ((d.s Z).set 1 (.lst ((d.ls.map D.int).set j (.int x))))
    | none => R.bad) = _
  rw [List.length_map, ixN_int h0 h1]
  show R.ok () ((d.s Z).set 1 (.lst ((d.ls.map D.int).set i.toNat (.int x)))) = _
  rw [show (d.ls.map D.int).set i.toNat (.int x) = (d.ls.set i.toNat x).map D.int from (List.map_set ..).symm]
  rfl
theorem atI_ints {ns : List Int} {i : Int} (h0 : 0 ≤ i) (h1 : i < ns.length) : ∃ x ∈ ns, atI (ns.map D.int) i = some (.int x) := by
  have hj : i.toNat < ns.length := by omega
  refine ⟨ns[i.toNat], List.getElem_mem hj, ?_⟩
  unfold atI
  rw [List.length_map, ixN_int h0 h1]
  show (ns.map D.int)[i.toNat]? = _
  rw [List.getElem?_map, List.getElem?_eq_getElem hj]
  rfl
theorem atI_any {l : List D} {i : Int} (h0 : 0 ≤ i) (h1 : i < l.length) : ∃ x ∈ l, atI l i = some x := by
  have hj : i.toNat < l.length := by omega
  refine ⟨l[i.toNat], List.getElem_mem hj, ?_⟩
  unfold atI
  rw [ixN_int h0 h1]
  exact List.getElem?_eq_getElem hj
end DW
namespace DW
open PySem PySem.Spec PyProof.Rows L2
/-! ### equations for walking through mirrors -/
section
variable {x y : Option D} {δ : Dl} {S : Sto} {f g : FS} {fa fb : FE} {ft : FT} {fr : FA} {i j k n : Nat}
theorem v_var0 {d : D} : eVar 0 (some d :: δ) S = .ok d S := rfl
theorem v_varS : eVar (n + 1) (x :: δ) S = eVar n δ S := by simp only [eVar, List.getElem?_cons_succ]
theorem v_c {d : D} : eC d (x :: δ) S = .ok d S := rfl
theorem v_seq : sSeq f g (x :: δ) S = (f (x :: δ) S).seq g := rfl
theorem v_set : sSet i fa (x :: δ) S = (fa (x :: δ) S).go (x :: δ) fun d S => .nx ((x :: δ).set i (some d)) S := rfl
theorem v_expr : sExpr fa (x :: δ) S = (fa (x :: δ) S).go (x :: δ) fun _ S => .nx (x :: δ) S := rfl
theorem v_ret : sRet fa (x :: δ) S = (fa (x :: δ) S).go (x :: δ) fun d S => .rt d S := rfl
theorem v_retN : sRetN (x :: δ) S = .rt .non S := rfl
theorem v_next : sNext (x :: δ) S = .nx (x :: δ) S := rfl
theorem v_bad : sBad (x :: δ) S = .bad := rfl
theorem v_if : sIf ft f g (x :: δ) S = (ft (x :: δ) S).go (x :: δ) fun b S => if b = true then f (x :: δ) S else g (x :: δ) S := rfl
def par2 (i j : Nat) (δ : Dl) (l : List D) (S : Sto) : RS := match l with
  | [x, y] => .nx ((δ.set i (some x)).set j (some y)) S
  | _ => .bad
theorem v_par : sPar i j fr (x :: δ) S = (fr (x :: δ) S).go (x :: δ) (par2 i j (x :: δ)) := rfl
theorem v_par2 {a b : D} : par2 i j δ [a, b] S = .nx ((δ.set i (some a)).set j (some b)) S := rfl
def par3 (i j k : Nat) (δ : Dl) (l : List D) (S : Sto) : RS := match l with
  | [x, y, z] => .nx (((δ.set i (some x)).set j (some y)).set k (some z)) S
  | _ => .bad
theorem v_par3 : sPar3 i j k fr (x :: δ) S = (fr (x :: δ) S).go (x :: δ) (par3 i j k (x :: δ)) := rfl
theorem v_par33 {a b c : D} : par3 i j k δ [a, b, c] S = .nx (((δ.set i (some a)).set j (some b)).set k (some c)) S := rfl
def aug2 (i : Nat) (δ : Dl) (g : D → D → Sto → R D) (a y : D) (S : Sto) : RS := (g a y S).go δ fun z S => .nx (δ.set i (some z)) S
theorem v_aug {gg : D → D → Sto → R D} : sAug i fa gg (x :: δ) S = (eVar i (x :: δ) S).go (x :: δ) fun a S => (fa (x :: δ) S).go (x :: δ) (aug2 i (x :: δ) gg a) := by
  simp only [sAug, eVar]
  cases (x :: δ)[i]? with
  | none => rfl
  | some o => cases o <;> rfl
theorem v_aug2 {gg : D → D → Sto → R D} {a b : D} : aug2 i δ gg a b S = (gg a b S).go δ fun z S => .nx (δ.set i (some z)) S := rfl
def toN (r : R Dl) : RS := match r with
  | .ok δ' S' => .nx δ' S'
  | _ => .bad
theorem v_toN {δ' : Dl} : toN (.ok δ' S) = .nx δ' S := rfl
theorem v_asg {gg : FG} : sAsg fa gg (x :: δ) S = (fa (x :: δ) S).go (x :: δ) fun d S => toN (gg d (x :: δ) S) := rfl
theorem v_put {gg : D → D → D → Sto → R Unit} {fd fk fv : FE} : sPut gg fd fk fv (x :: δ) S = (fv (x :: δ) S).go (x :: δ) fun v S => (fd (x :: δ) S).go (x :: δ) fun d S => (fk (x :: δ) S).go (x :: δ) fun k S => (gg d k v S).go (x :: δ) fun _ S => .nx (x :: δ) S := rfl
theorem v_fput {n f : Str} {fd fv : FE} : sFput n f fd fv (x :: δ) S = (fv (x :: δ) S).go (x :: δ) fun v S => (fd (x :: δ) S).go (x :: δ) fun d S => (fputD n f d v S).go (x :: δ) fun _ S => .nx (x :: δ) S := rfl
theorem v_for {fi : FI} {gg : FG} {fb : FS} : sFor fi gg fb (x :: δ) S = (fi (x :: δ) S).go (x :: δ) fun it S => forL it.src gg fb it.items (x :: δ) S := rfl
theorem v_e2 {gg : D → D → Sto → R D} : e2 gg fa fb (x :: δ) S = (fa (x :: δ) S).bind fun a S => (fb (x :: δ) S).bind fun b S => gg a b S := rfl
theorem v_e1 {gg : D → Sto → R D} : e1 gg fa (x :: δ) S = (fa (x :: δ) S).bind gg := rfl
theorem v_eA {gg : List D → Sto → R D} : eA gg fr (x :: δ) S = (fr (x :: δ) S).bind gg := rfl
theorem v_fA {gg : List D → Sto → R (List D)} : fA gg fr (x :: δ) S = (fr (x :: δ) S).bind gg := rfl
theorem v_aN : aNil (x :: δ) S = .ok [] S := rfl
theorem v_aC : aCons fa fr (x :: δ) S = (fa (x :: δ) S).bind fun a S => (fr (x :: δ) S).bind fun l S => .ok (a :: l) S := rfl
theorem v_call {m : FM} {src : List SrcD} {fk : FA} : eCall m n k src fr fk (x :: δ) S = (fr (x :: δ) S).bind fun vs S => (fk (x :: δ) S).bind fun zs S => .chk (vs.length = n ∧ zs.length = k) (m (srcD vs zs src) S) := rfl
noncomputable def meR (cn mn : Str) (m : FM) (n : Nat) (src : List SrcD) (r : Sto → R (List D)) (a : D) (S : Sto) : R D := match a.fields S cn with
  | some (ns, _) => .chk (mn ∉ ns) ((r S).bind fun vs S => .chk (vs.length = n) (m (srcD (a :: vs) [] src) S))
  | none => .bad
theorem v_me {cn mn : Str} {m : FM} {src : List SrcD} : eMe cn mn m n src fa fr (x :: δ) S = (fa (x :: δ) S).bind (meR cn mn m n src fun S => fr (x :: δ) S) := rfl
theorem v_frz : eFrz fr (x :: δ) S = (fr (x :: δ) S).bind fun l S => .ok (.lst l) S := rfl
theorem v_mut : eMut fr (x :: δ) S = (fr (x :: δ) S).bind fun l S => .ok (.ref S.length) (S ++ [.lst l]) := rfl
theorem v_ifE : eIf ft fa fb (x :: δ) S = (ft (x :: δ) S).bind fun b S => if b = true then fa (x :: δ) S else fb (x :: δ) S := rfl
def andR (r : Sto → R D) : D → Sto → R D
  | .bl true, S => r S
  | .bl false, S => .ok (.bl false) S
  | _, _ => .bad
def orR' (r : Sto → R D) : D → Sto → R D
  | .bl true, S => .ok (.bl true) S
  | .bl false, S => r S
  | _, _ => .bad
theorem v_and : eAnd fa fb (x :: δ) S = (fa (x :: δ) S).bind (andR fun S => fb (x :: δ) S) := by
  unfold eAnd
  congr 1
  funext a S
  cases a <;> first | rfl | (rename_i b; cases b <;> rfl)
theorem v_or : eOr fa fb (x :: δ) S = (fa (x :: δ) S).bind (orR' fun S => fb (x :: δ) S) := by
  unfold eOr
  congr 1
  funext a S
  cases a <;> first | rfl | (rename_i b; cases b <;> rfl)
theorem v_andB {r : Sto → R D} {b : Bool} : andR r (.bl b) S = if b = true then r S else .ok (.bl false) S := by cases b <;> rfl
theorem v_orB {r : Sto → R D} {b : Bool} : orR' r (.bl b) S = if b = true then .ok (.bl true) S else r S := by cases b <;> rfl
theorem v_chain {gg gg' : D → D → Sto → R D} {fe : FE} : eChain gg gg' fa fb fe (x :: δ) S = (fa (x :: δ) S).bind fun a S => (fb (x :: δ) S).bind fun b S => (gg a b S).bind (andR fun S => (fe (x :: δ) S).bind fun w S => gg' b w S) := by
  unfold eChain
  congr 1
  funext a S
  congr 1
  funext b S
  congr 1
  funext z S
  cases z <;> first | rfl | (rename_i b; cases b <;> rfl)
theorem v_tst : tst fa (x :: δ) S = (fa (x :: δ) S).bind asB := rfl
theorem v_asB {b : Bool} : asB (.bl b) S = .ok b S := rfl
variable {ga gb : FT}
theorem v_tand : tAndD ga gb (x :: δ) S = (ga (x :: δ) S).bind fun a S => if a = true then gb (x :: δ) S else .ok false S := rfl
theorem v_tor : tOrD ga gb (x :: δ) S = (ga (x :: δ) S).bind fun a S => if a = true then .ok true S else gb (x :: δ) S := rfl
theorem v_tnot : tNotD ga (x :: δ) S = (ga (x :: δ) S).bind fun a S => .ok (!a) S := rfl
theorem v_yes : tYesD (x :: δ) S = .ok true S := rfl
theorem v_not {b : Bool} : notR (.bl b) S = .ok (.bl (!b)) S := rfl
theorem v_comp {fi : FI} {p : Pt} {vs : List Nat} {tt : FT} {fe : FE} : fComp fi p vs tt fe (x :: δ) S = (fi (x :: δ) S).bind fun it S => compL it.src p vs tt fe (x :: δ) it.items [] S := rfl
def seqI (d : D) (S : Sto) : R Itm := match d with
  | .str z => .ok ⟨fun _ => True, z.cps.toList.map fun k => .str ⟨#[k]⟩⟩ S
  | d => match d.seq S with
    | some l => .ok ⟨fun S => d.seq S = some l, l⟩ S
    | none => .bad
theorem v_seqI : iSeq fa (x :: δ) S = (fa (x :: δ) S).bind seqI := rfl
theorem v_seqL {l : List D} : seqI (.lst l) S = .ok ⟨fun S => (D.lst l).seq S = some l, l⟩ S := rfl
theorem v_seqT {l : List D} : seqI (.tup l) S = .ok ⟨fun S => (D.tup l).seq S = some l, l⟩ S := rfl
theorem v_seqC {l : List D} : seqI (.scr l) S = .ok ⟨fun S => (D.scr l).seq S = some l, l⟩ S := rfl
noncomputable def rng1 (l : List D) (S : Sto) : R Itm := match l with
  | [.int j] => .chk (-(2 ^ 62) ≤ j ∧ j < 2 ^ 62) (.ok ⟨fun _ => True, (List.range j.toNat).map fun (k : Nat) => .int (k : Int)⟩ S)
  | _ => .bad
noncomputable def rng2 (l : List D) (S : Sto) : R Itm := match l with
  | [.int i, .int j] => .chk (-(2 ^ 62) ≤ i ∧ i < 2 ^ 62 ∧ -(2 ^ 62) ≤ j ∧ j < 2 ^ 62) (.ok ⟨fun _ => True, (List.range (j - i).toNat).map fun (k : Nat) => .int (i + k)⟩ S)
  | _ => .bad
theorem v_rng1 : iRange1 fr (x :: δ) S = (fr (x :: δ) S).bind rng1 := rfl
theorem v_rng2 : iRange2 fr (x :: δ) S = (fr (x :: δ) S).bind rng2 := rfl
theorem v_rng1i {j : Int} : rng1 [.int j] S = .chk (-(2 ^ 62) ≤ j ∧ j < 2 ^ 62) (.ok ⟨fun _ => True, (List.range j.toNat).map fun (k : Nat) => .int (k : Int)⟩ S) := rfl
theorem v_rng2i {i j : Int} : rng2 [.int i, .int j] S = .chk (-(2 ^ 62) ≤ i ∧ i < 2 ^ 62 ∧ -(2 ^ 62) ≤ j ∧ j < 2 ^ 62) (.ok ⟨fun _ => True, (List.range (j - i).toNat).map fun (k : Nat) => .int (i + k)⟩ S) := rfl
def enumI (l : List D) (S : Sto) : R Itm := match l with
  | [d] => match d.rseq S with
    | some l => .ok ⟨fun S => d.rseq S = some l, numbered 0 l⟩ S
    | none => .bad
  | _ => .bad
theorem v_enum : iEnumD fr (x :: δ) S = (fr (x :: δ) S).bind enumI := rfl
theorem v_enumC {l : List D} : enumI [.scr l] S = .ok ⟨fun S => (D.scr l).rseq S = some l, numbered 0 l⟩ S := rfl
theorem v_enumL {l : List D} : enumI [.lst l] S = .ok ⟨fun S => (D.lst l).rseq S = some l, numbered 0 l⟩ S := rfl
theorem v_gnm {d : D} : gNm i d δ S = .ok (δ.set i (some d)) S := rfl
theorem v_gtp {gs : FGs} {l : List D} : gTupD n gs (.tup l) δ S = if l.length = n then gs l δ S else .bad := rfl
theorem v_gsN : gsNil [] δ S = .ok δ S := rfl
theorem v_gsC {gg : FG} {gs : FGs} {d : D} {l : List D} : gsCons gg gs (d :: l) δ S = (gg d δ S).bind fun δ S => gs l δ S := rfl
theorem v_ptN {d : D} : Pt.d (.nm i) d δ = some (δ.set i (some d)) := rfl
/-! operations -/
variable {a b : Int} {l m : List D} {u v : Str}
theorem o_addI : addD (.int a) (.int b) S = .ok (.int (a + b)) S := rfl
theorem o_addS : addD (.str u) (.str v) S = .chk (u.length + v.length ≤ sizeLine) (.ok (.str (u ++ v)) S) := rfl
theorem o_addT : addD (.tup l) (.tup m) S = .chk (l.length + m.length ≤ sizeLine) (.ok (.tup (l ++ m)) S) := rfl
theorem o_iaddI : iaddD (.int a) (.int b) S = .ok (.int (a + b)) S := rfl
theorem o_op {gg : Int → Int → D} : intOp gg (.int a) (.int b) S = .ok (gg a b) S := rfl
theorem o_opC {C : Int → Int → Prop} {gg : Int → Int → D} : intOpC C gg (.int a) (.int b) S = .chk (C a b) (.ok (gg a b) S) := rfl
theorem o_neg : negD (.int a) S = .ok (.int (-a)) S := rfl
def optR (o : Option D) (S : Sto) : R D := match o with
  | some x => .ok x S
  | none => .bad
theorem o_opt {d : D} : optR (some d) S = .ok d S := rfl
theorem o_ixL : ixD (.lst l) (.int a) S = optR (atI l a) S := by
  show (match atI l a with
    | some x => R.ok x S
    | none => R.bad) = _
  cases atI l a <;> rfl
theorem o_ixT : ixD (.tup l) (.int a) S = optR (atI l a) S := by
  show (match atI l a with
    | some x => R.ok x S
    | none => R.bad) = _
  cases atI l a <;> rfl
theorem o_ixC : ixD (.scr l) (.int a) S = optR (atI l a) S := by
  show (match atI l a with
    | some x => R.ok x S
    | none => R.bad) = _
  cases atI l a <;> rfl
theorem o_tup : tupD l S = .chk (l.length ≤ sizeLine) (.ok (.tup l) S) := rfl
theorem o_lst : lstF l S = .chk (l.length ≤ sizeLine) (.ok l S) := rfl
theorem o_abs : absD [.int a] S = .ok (.int (if a < 0 then -a else a)) S := rfl
theorem o_max : maxD [.int a, .int b] S = .ok (.int (if b > a then b else a)) S := rfl
theorem o_min : minD [.int a, .int b] S = .ok (.int (if b < a then b else a)) S := rfl
theorem o_divmod : divmodD [.int a, .int b] S = .chk (CDivC a b) (.ok (.tup [.int (a / b), .int (a % b)]) S) := rfl
theorem o_intI : intD [.int a] S = .ok (.int a) S := rfl
theorem o_intB {c : Bool} : intD [.bl c] S = .ok (.int (if c then 1 else 0)) S := rfl
theorem o_lenL : lenD [.lst l] S = .ok (.int l.length) S := rfl
theorem o_lenT : lenD [.tup l] S = .ok (.int l.length) S := rfl
theorem o_lenC : lenD [.scr l] S = .ok (.int l.length) S := rfl
theorem o_eqI : eqD (.int a) (.int b) S = .ok (.bl (decide (a = b))) S := rfl
theorem o_eqS : eqD (.str u) (.str v) S = .ok (.bl (decide (u = v))) S := rfl
theorem o_eqB {c e : Bool} : eqD (.bl c) (.bl e) S = .ok (.bl (decide (c = e))) S := rfl
theorem o_ne {d e : D} : neD d e S = (eqD d e S).bind notR := rfl
theorem o_isN : isNV .non .non S = .ok (.bl true) S := rfl
theorem o_isNI : isNV (.int a) .non S = .ok (.bl false) S := rfl
theorem o_isNS : isNV (.str u) .non S = .ok (.bl false) S := rfl
theorem o_isNT : isNV (.tup l) .non S = .ok (.bl false) S := rfl
theorem o_notN : notNV .non .non S = .ok (.bl false) S := rfl
theorem o_notNI : notNV (.int a) .non S = .ok (.bl true) S := rfl
theorem o_isB {c e : Bool} : isBD (.bl c) (.bl e) S = .ok (.bl (decide (c = e))) S := rfl
theorem o_notB {c e : Bool} : notBD (.bl c) (.bl e) S = .ok (.bl (!decide (c = e))) S := rfl
theorem o_bits : bitsD (.int a) S = .ok (.int (Builtin.Int.intBits a : Nat)) S := rfl
theorem o_src0 {vs zs : List D} : srcD vs zs [] = [] := rfl
theorem o_srcp {vs zs : List D} {r : List SrcD} : srcD vs zs (.p i :: r) = vs.getD i .non :: srcD vs zs r := rfl
theorem o_srck {vs zs : List D} {r : List SrcD} : srcD vs zs (.k i :: r) = zs.getD i .non :: srcD vs zs r := rfl
theorem o_srcd {vs zs : List D} {r : List SrcD} {d : D} : srcD vs zs (.d d :: r) = d :: srcD vs zs r := rfl
theorem o_fn {fb : FS} {ds : List D} : fnD n fb ds S = (fb (ds.map some ++ List.replicate (n - ds.length) none) S).fin := rfl
/-! what lies in a list by its place -/
theorem at0 {d : D} {l : List D} : atI (d :: l) 0 = some d := by
  unfold atI ixN
  rw [if_pos (Int.le_refl 0), if_pos (by simp)]
  rfl
theorem atS {d : D} {l : List D} (h : 0 ≤ a) : atI (d :: l) (a + 1) = atI l a := by
  unfold atI ixN
  rw [if_pos h, if_pos (show 0 ≤ a + 1 by omega)]
  by_cases z : a < l.length
  · rw [if_pos z, if_pos (by simp; omega)]
    show (d :: l)[(a + 1).toNat]? = l[a.toNat]?
    rw [show (a + 1).toNat = a.toNat + 1 by omega]
    rfl
  · rw [if_neg z, if_neg (by simp; omega)]
    rfl
end
end DW
namespace DW
open PySem PySem.Spec PyProof.Rows L2
theorem pyAll_ints : ∀ ns : List Int, pyAll (ns.map D.int) = some ((ns.map V.int).map datV)
  | [] => by simp [pyAll]
  | n :: ns => by
    simp only [List.map_cons, pyAll, pyD, pyAll_ints ns]
    rfl
theorem eqvAll_nil (ns : List Int) : PyData.eqvAll ((ns.map V.int).map datV) [] = decide (ns = []) := by
  cases ns with
  | nil => simp [PyData.eqvAll]
  | cons n ns => simp [PyData.eqvAll]
theorem drw_eq {d : Dw} {Z : Sto} : eqD (.ref 1) (.lst []) (d.s Z) = .ok (.bl (decide (d.ls = []))) (d.s Z) := by
  show (match (pyAll (d.ls.map D.int)).map PyData.list, (pyAll []).map PyData.list with
    | some p, some q => R.chk (SeqAt.shaped p = true ∧ SeqAt.shaped q = true) (R.ok (D.bl (PyData.eqv p q)) (d.s Z))
    | _, _ => R.bad) = _
  rw [pyAll_ints]
  show R.chk (SeqAt.shaped (.list ((d.ls.map V.int).map datV)) = true ∧ SeqAt.shaped (.list []) = true) (R.ok (D.bl (PyData.eqv (.list ((d.ls.map V.int).map datV)) (.list []))) (d.s Z)) = _
  rw [chk_pos ⟨shaped_lst (ok_ints _), by decide⟩, PyData.eqv, eqvAll_nil]
theorem drw_len {d : Dw} {Z : Sto} : lenD [.ref 1] (d.s Z) = .ok (.int d.ls.length) (d.s Z) := by
  show R.ok (D.int ((d.ls.map D.int).length : Nat)) (d.s Z) = _
  rw [List.length_map]
theorem drw_ix {d : Dw} {Z : Sto} {i : Int} : ixD (.ref 1) (.int i) (d.s Z) = optR (atI (d.ls.map .int) i) (d.s Z) := by
  show (match atI (d.ls.map D.int) i with
    | some x => R.ok x (d.s Z)
    | none => R.bad) = _
  cases atI (d.ls.map D.int) i <;> rfl
end DW
namespace DW
open PySem PySem.Spec PyProof.Rows L2
/-! ### the last thing of the store, a list -/
section
variable {S : Sto} {l : List D} {i : Int} {x : D}
theorem top_get {o : Ob} : (S ++ [o])[S.length]? = some o := by simp
theorem top_ix : ixD (.ref S.length) (.int i) (S ++ [Ob.lst l]) = optR (atI l i) (S ++ [Ob.lst l]) := by
  have : (D.ref S.length).seq (S ++ [Ob.lst l]) = some l := by
    unfold D.seq
    dsimp only
    rw [top_get]
  show (match (D.ref S.length).seq (S ++ [Ob.lst l]) with
    | some l' => match atI l' i with
      | some x => R.ok x (S ++ [Ob.lst l])
      | none => R.bad
    | none => R.bad) = _
  rw [this]
  dsimp only
  cases atI l i <;> rfl
theorem top_put (h0 : 0 ≤ i) (h1 : i < l.length) : lputD (.ref S.length) (.int i) x (S ++ [Ob.lst l]) = .ok () (S ++ [Ob.lst (l.set i.toNat x)]) := by
  unfold lputD
  dsimp only
  rw [top_get]
  dsimp only
  rw [ixN_int h0 h1]
  dsimp only
  simp
theorem top_rseq : (D.ref S.length).rseq (S ++ [Ob.lst l]) = some l := by
  unfold D.rseq
  dsimp only
  rw [top_get]
theorem v_fnT {m : FM} {ds : List D} {Q : D → Sto → Prop} {E : Xc → Sto → Prop} : wp (fnT m ds S) Q E = wp (m ds S) (fun d S' => ((d.out S.length S').bel S.length = true ∧ ∀ i o, S'[i]? = some o → i < S.length → S[i]? = some o ∨ o.bel S.length = true) ∧ Q (d.out S.length S') (S'.take S.length)) E := by
  unfold fnT
  rw [wp_bind]
  simp only [wp_chk, wp_ok]
theorem top_out (h : belAll S.length l = true) {Q : D → Sto → Prop} (q : Q (.lst l) S) : ((((D.ref S.length).out S.length (S ++ [Ob.lst l])).bel S.length = true ∧ ∀ i o, (S ++ [Ob.lst l])[i]? = some o → i < S.length → S[i]? = some o ∨ o.bel S.length = true) ∧ Q ((D.ref S.length).out S.length (S ++ [Ob.lst l])) ((S ++ [Ob.lst l]).take S.length)) := by
  have e : (D.ref S.length).out S.length (S ++ [Ob.lst l]) = .lst l := by
    unfold D.out
    dsimp only
    rw [if_neg (by omega), top_get]
  rw [e]
  refine ⟨⟨?_, fun i o ei hi => ?_⟩, ?_⟩
  · simp only [D.bel]
    exact h
  · left
    rw [List.getElem?_append_left hi] at ei
    exact ei
  · rw [List.take_left' rfl]
    exact q
theorem bel_ints {n : Nat} : ∀ ns : List Int, belAll n (ns.map D.int) = true
  | [] => by simp [belAll]
  | a :: ns => by simp [belAll, D.bel, bel_ints ns]
end
theorem range_get {α : Type} {n i : Nat} {f : Nat → α} {d : α} (h : ((List.range n).map f)[i]? = some d) : i < n ∧ d = f i := by
  rw [List.getElem?_map] at h
  by_cases hi : i < n
  · rw [List.getElem?_range hi] at h
    exact ⟨hi, (Option.some.inj h).symm⟩
  · rw [List.getElem?_eq_none (by simpa using hi)] at h
    cases h
theorem ints_get {ns : List Int} {i : Nat} {d : D} (h : (ns.map D.int)[i]? = some d) : ∃ z ∈ ns, i < ns.length ∧ d = .int z := by
  rw [List.getElem?_map] at h
  cases e : ns[i]? with
  | none =>
    rw [e] at h
    cases h
  | some z =>
    rw [e] at h
    exact ⟨z, List.mem_of_getElem? e, (List.getElem?_eq_some_iff.mp e).1, (Option.some.inj h).symm⟩
theorem numbered_ints {ns : List Int} {i : Nat} {d : D} (h : (numbered 0 (ns.map D.int))[i]? = some d) : ∃ z ∈ ns, i < ns.length ∧ d = .tup [.int (i : Int), .int z] := by
  rw [numbered_get] at h
  cases e : (ns.map D.int)[i]? with
  | none =>
    rw [e] at h
    cases h
  | some w =>
    rw [e] at h
    obtain ⟨z, h1, h2, rfl⟩ := ints_get e
    refine ⟨z, h1, h2, ?_⟩
    rw [← Option.some.inj h]
    simp
end DW
namespace DW
open PySem PySem.Spec PyProof.Rows L2
section
variable {x : Option D} {δ : Dl} {S : Sto} {fk fv : FE} {fp : FP}
theorem v_pN : pNil (x :: δ) S = .ok [] S := rfl
def pairR (l : List (Key × D)) (k v : D) (S : Sto) : R (List (Key × D)) := match k.keyOf with
  | some k => .ok ((k, v) :: l) S
  | none => .bad
theorem v_pC : pCons fk fv fp (x :: δ) S = (fk (x :: δ) S).bind fun k S => (fv (x :: δ) S).bind fun v S => (fp (x :: δ) S).bind fun l S => pairR l k v S := rfl
theorem v_pairS {u : Str} {l : List (Key × D)} {v : D} : pairR l (.str u) v S = .ok ((.inr u, v) :: l) S := rfl
theorem v_pairI {i : Int} {l : List (Key × D)} {v : D} : pairR l (.int i) v S = .ok ((.inl i, v) :: l) S := rfl
theorem v_dict : eDictM fp (x :: δ) S = (fp (x :: δ) S).bind fun l S => .chk ((l.map (·.1)).Nodup ∧ l.length ≤ 15) (.ok (.ref S.length) (S ++ [.dct (l.map (·.1)) (l.map (·.2))])) := rfl
theorem v_dict0 : eDictM0 (x :: δ) S = .ok (.ref S.length) (S ++ [.dct [] []]) := rfl
theorem v_dictF0 : eDict0 (x :: δ) S = .ok (.dct [] []) S := rfl
end
end DW
namespace DW
open PySem PySem.Spec PyProof.Rows L2
theorem drw_made {cs ls : List Int} : dputD (.ref 0) (.str "left") (.ref 1) [Ob.dct drawKs [.lst (cs.map .int), .lst [], .int 0], Ob.lst (ls.map .int)] = .ok () ((⟨cs, ls, 0⟩ : Dw).s []) := by
  show R.chk (drawKs.length < sizeLine) _ = _
  rw [chk_pos (by show 3 < sizeLine; decide)]
  rfl
end DW
namespace DW
open PySem PySem.Spec PyProof.Rows L2
def shD (s : Sh) : D := .tup [.int s.p, .int s.lo, .int s.hi]
theorem shD_ix0 {s : Sh} {S : Sto} : ixD (shD s) (.int 0) S = .ok (.int s.p) S := by
  unfold shD
  rw [o_ixT, at0, o_opt]
theorem shD_ix1 {s : Sh} {S : Sto} : ixD (shD s) (.int 1) S = .ok (.int s.lo) S := by
  unfold shD
  rw [o_ixT, show (1 : Int) = 0 + 1 from rfl, atS (Int.le_refl 0), at0, o_opt]
theorem shD_ix2 {s : Sh} {S : Sto} : ixD (shD s) (.int 2) S = .ok (.int s.hi) S := by
  unfold shD
  rw [o_ixT, show (2 : Int) = 1 + 1 from rfl, atS (by decide), show (1 : Int) = 0 + 1 from rfl, atS (Int.le_refl 0), at0, o_opt]
theorem tup_ix0 {a : D} {l : List D} {S : Sto} : ixD (.tup (a :: l)) (.int 0) S = .ok a S := by rw [o_ixT, at0, o_opt]
theorem tup_ix1 {a b : D} {l : List D} {S : Sto} : ixD (.tup (a :: b :: l)) (.int 1) S = .ok b S := by
  rw [o_ixT, show (1 : Int) = 0 + 1 from rfl, atS (Int.le_refl 0), at0, o_opt]
theorem tup_ix2 {a b c : D} {l : List D} {S : Sto} : ixD (.tup (a :: b :: c :: l)) (.int 2) S = .ok c S := by
  rw [o_ixT, show (2 : Int) = 1 + 1 from rfl, atS (by decide), show (1 : Int) = 0 + 1 from rfl, atS (Int.le_refl 0), at0, o_opt]
theorem tup_ix3 {a b c d : D} {l : List D} {S : Sto} : ixD (.tup (a :: b :: c :: d :: l)) (.int 3) S = .ok d S := by
  rw [o_ixT, show (3 : Int) = 2 + 1 from rfl, atS (by decide), show (2 : Int) = 1 + 1 from rfl, atS (by decide), show (1 : Int) = 0 + 1 from rfl, atS (Int.le_refl 0), at0, o_opt]
def numKs : List Str := ["form", "side", "bits", "scale", "state"]
def numD (x : Nm) : D := .ins "Number" numKs [shD x.sh, .int x.side, .int x.bits, .int x.scale, .str x.st]
theorem gTup_sh {gs : FGs} {s : Sh} {δ : Dl} {S : Sto} : gTupD 3 gs (shD s) δ S = gs [.int s.p, .int s.lo, .int s.hi] δ S := rfl
end DW
namespace DW
open PySem PySem.Spec PyProof.Rows L2
def ways : List Str := ["nearest", "away", "zero", "up", "down"]
def isWay : V → Bool
  | .str z => inV (.str z) [.str "nearest", .str "away", .str "zero", .str "up", .str "down"]
  | _ => false
theorem isWay_iff {z : Str} : isWay (.str z) = true ↔ z = "nearest" ∨ z = "away" ∨ z = "zero" ∨ z = "up" ∨ z = "down" := by
  have e : isWay (.str z) = (("nearest" == z) || (("away" == z) || (("zero" == z) || (("up" == z) || (("down" == z) || false))))) := rfl
  rw [e]
  simp only [Bool.or_eq_true, beq_iff_eq, Bool.false_eq_true, or_false]
  constructor
  · rintro (h | h | h | h | h)
    · exact .inl h.symm
    · exact .inr (.inl h.symm)
    · exact .inr (.inr (.inl h.symm))
    · exact .inr (.inr (.inr (.inl h.symm)))
    · exact .inr (.inr (.inr (.inr h.symm)))
  · rintro (h | h | h | h | h)
    · exact .inl h.symm
    · exact .inr (.inl h.symm)
    · exact .inr (.inr (.inl h.symm))
    · exact .inr (.inr (.inr (.inl h.symm)))
    · exact .inr (.inr (.inr (.inr h.symm)))
def wholeOf (n d : Int) (w : Str) : Int :=
  if n % d = 0 ∨ w = "down" then n / d else if w = "up" then n / d + 1 else if w = "zero" then (if 0 < n then n / d else n / d + 1)
  else if 2 * (n % d) = d then (if w = "nearest" then n / d + n / d % 2 else n / d + (if 0 < n then 1 else 0)) else n / d + (if d < 2 * (n % d) then 1 else 0)
def topRank (s : Sh) : Int := (s.hi - s.lo + 2) * 2 ^ (s.p - 1).toNat
def kindOf (x : Nm) : Str := if ¬ x.st = "finite" then x.st else if 2 ^ (x.sh.p - 1).toNat ≤ x.bits then "normal" else if x.bits = 0 then "zero" else "subnormal"
theorem two_le_pow {n : Nat} (h : 1 ≤ n) : (2 : Int) ≤ 2 ^ n := by
  obtain ⟨k, rfl⟩ : ∃ k, n = k + 1 := ⟨n - 1, by omega⟩
  have := PySem.W.kbt_pos k
  rw [Int.pow_succ]
  omega
theorem pow_half {p : Int} (h : 2 ≤ p) : (2 : Int) ^ p.toNat = 2 * 2 ^ (p - 1).toNat ∧ (2 : Int) ≤ 2 ^ (p - 1).toNat := by
  have e : p.toNat = (p - 1).toNat + 1 := by omega
  constructor
  · rw [e, Int.pow_succ, Int.mul_comm]
  · exact two_le_pow (by omega)
theorem fin_great {sh : Sh} (h : sh.Ok) {side : Int} (s1 : 0 ≤ side) (s2 : side ≤ 1) : (greatN sh side).Fin := by
  obtain ⟨e1, e2⟩ := pow_half h.p1
  refine ⟨h, s1, s2, ?_, ?_, h.h1, Int.le_refl _, fun _ => ?_, rfl⟩
  · show 0 ≤ (2 : Int) ^ sh.p.toNat - 1
    omega
  · show (2 : Int) ^ sh.p.toNat - 1 < 2 ^ sh.p.toNat
    omega
  · show (2 : Int) ^ (sh.p - 1).toNat ≤ 2 ^ sh.p.toNat - 1
    omega
def HalvSpec (s d o : Int) : Prop := d * 2 ^ o.toNat ≤ s * 2 ^ (-o).toNat ∧ s * 2 ^ (-(o + 1)).toNat < d * 2 ^ (o + 1).toNat
def overN (sh : Sh) (w : Str) (side : Int) : Nm := if w = "zero" ∨ (w = "up" ∧ side = 1) ∨ (w = "down" ∧ side = 0) then greatN sh side else infN sh side
def sideOf (n : Int) : Int := if n < 0 then 1 else 0
def rsE (sh : Sh) (o : Int) : Int := if o - sh.p + 1 > sh.lo then o - sh.p + 1 else sh.lo
def rsOver (s E : Int) : Int := s * 2 ^ (-E).toNat
def rsUnder (d E : Int) : Int := d * 2 ^ E.toNat
def rsB (n d E : Int) (w : Str) : Int := absI (wholeOf (if sideOf n = 1 then -(rsOver (absI n) E) else rsOver (absI n) E) (rsUnder d E) w)
def rsFin (n : Int) (sh : Sh) (w : Str) (o : Int) (inex : Prop) [Decidable inex] (b E : Int) : Nm × List Str :=
  if sh.hi < E then (overN sh w (sideOf n), ["inexact", "overflow"])
  else (finN sh (sideOf n) b E, if inex then (if o < sh.p - 1 + sh.lo then ["inexact", "underflow"] else ["inexact"]) else [])
def rsFun (n d : Int) (sh : Sh) (w : Str) (o : Int) : Nm × List Str :=
  if rsB n d (rsE sh o) w = 2 ^ sh.p.toNat then rsFin n sh w o (¬ rsB n d (rsE sh o) w * rsUnder d (rsE sh o) = rsOver (absI n) (rsE sh o)) (rsB n d (rsE sh o) w / 2) (rsE sh o + 1)
  else rsFin n sh w o (¬ rsB n d (rsE sh o) w * rsUnder d (rsE sh o) = rsOver (absI n) (rsE sh o)) (rsB n d (rsE sh o) w) (rsE sh o)
def RndIs (n d : Int) (sh : Sh) (w : Str) (sign : Int) (x : Nm) (fl : List Str) : Prop :=
  (n = 0 ∧ x = finN sh sign 0 sh.lo ∧ fl = []) ∨ (n ≠ 0 ∧ ∃ o, HalvSpec (absI n) d o ∧ rsFun n d sh w o = (x, fl))
theorem whole_abs {v u : Int} {w : Str} {neg : Prop} [Decidable neg] (hv : 0 ≤ v) (hu : 0 < u) : absI (wholeOf (if neg then -v else v) u w) = v / u ∨ (absI (wholeOf (if neg then -v else v) u w) = v / u + 1 ∧ v % u ≠ 0) := by
  obtain ⟨q, r, e, h0, h3, hq, hr⟩ := wholeOf_parts v hu
  have q0 : 0 ≤ q := by
    rw [← hq]
    exact Int.ediv_nonneg hv (Int.le_of_lt hu)
  by_cases hn : neg
  · rw [if_pos hn]
    obtain ⟨eq, er⟩ := parts_neg hu e h0 h3
    by_cases z : r = 0
    · left
      rw [if_pos z] at eq er
      unfold wholeOf
      rw [er, if_pos (.inl rfl), eq, hq]
      unfold absI
      split <;> omega
    · rw [if_neg z] at eq er
      unfold wholeOf
      rw [er, eq, hq, hr]
      unfold absI
      repeat' split
      all_goals omega
  · rw [if_neg hn]
    unfold wholeOf
    rw [hq, hr]
    unfold absI
    repeat' split
    all_goals omega
section
variable {s d o : Int} {sh : Sh}
theorem rs_below (h : HalvSpec s d o) (hd : 0 < d) (hp : 0 ≤ sh.p) : rsOver s (rsE sh o) < 2 ^ sh.p.toNat * rsUnder d (rsE sh o) := by
  have hE : o - sh.p + 1 ≤ rsE sh o := by
    unfold rsE
    split <;> omega
  generalize rsE sh o = E at hE
  obtain ⟨N, hN⟩ : ∃ N : Nat, 0 ≤ o + 1 + N ∧ 0 ≤ E + N := ⟨(o.natAbs + E.natAbs), by omega, by omega⟩
  have h2 := (by_pow' (N := N) hN.1).mp h.2
  unfold rsOver rsUnder
  rw [← Int.mul_assoc, Int.mul_comm ((2 : Int) ^ sh.p.toNat) d]
  refine (by_pow' (N := N) hN.2).mpr (Int.lt_of_lt_of_le h2 ?_)
  rw [Int.mul_assoc, ← p2_add]
  refine Int.mul_le_mul_of_nonneg_left ?_ (Int.le_of_lt hd)
  exact p2_mono (by omega)
theorem rs_above (h : HalvSpec s d o) (hp : 1 ≤ sh.p) (hl : sh.lo < rsE sh o) : 2 ^ (sh.p - 1).toNat * rsUnder d (rsE sh o) ≤ rsOver s (rsE sh o) := by
  have hE : rsE sh o = o - sh.p + 1 := by
    unfold rsE at hl ⊢
    split
    · rfl
    · rename_i z
      rw [if_neg z] at hl
      omega
  generalize rsE sh o = E at hE
  obtain ⟨N, hN⟩ : ∃ N : Nat, 0 ≤ o + N ∧ 0 ≤ E + N := ⟨(o.natAbs + E.natAbs), by omega, by omega⟩
  have h2 := (by_pow (N := N) hN.1).mp h.1
  unfold rsOver rsUnder
  rw [← Int.mul_assoc, Int.mul_comm ((2 : Int) ^ (sh.p - 1).toNat) d]
  refine (by_pow (N := N) hN.2).mpr (Int.le_trans ?_ h2)
  rw [Int.mul_assoc, ← p2_add]
  rw [show (sh.p - 1).toNat + (E + (N : Int)).toNat = (o + N).toNat by omega]
  exact Int.le_refl _
end
theorem rs_b {n d o : Int} {sh : Sh} {w : Str} (hn : n ≠ 0) (hd : 0 < d) (hok : sh.Ok) (h : HalvSpec (absI n) d o) :
    0 ≤ rsB n d (rsE sh o) w ∧ rsB n d (rsE sh o) w ≤ 2 ^ sh.p.toNat ∧ (sh.lo < rsE sh o → 2 ^ (sh.p - 1).toNat ≤ rsB n d (rsE sh o) w) ∧ sh.lo ≤ rsE sh o ∧
    (rsB n d (rsE sh o) w = rsOver (absI n) (rsE sh o) / rsUnder d (rsE sh o) ∨ (rsB n d (rsE sh o) w = rsOver (absI n) (rsE sh o) / rsUnder d (rsE sh o) + 1 ∧ rsOver (absI n) (rsE sh o) % rsUnder d (rsE sh o) ≠ 0)) := by
  have hs := absI_pos hn
  have hu : 0 < rsUnder d (rsE sh o) := Int.mul_pos hd (p2 _)
  have hv : 0 < rsOver (absI n) (rsE sh o) := Int.mul_pos hs (p2 _)
  have h1 := rs_below (sh := sh) h hd (by have := hok.p1; omega)
  have h2 := fun z => rs_above (sh := sh) h (by have := hok.p1; omega) z
  have hlo : sh.lo ≤ rsE sh o := by
    unfold rsE
    split <;> omega
  have hw := whole_abs (v := rsOver (absI n) (rsE sh o)) (u := rsUnder d (rsE sh o)) (w := w) (neg := sideOf n = 1) (Int.le_of_lt hv) hu
  have q1 : rsOver (absI n) (rsE sh o) / rsUnder d (rsE sh o) < 2 ^ sh.p.toNat := Int.ediv_lt_of_lt_mul hu h1
  have q0 : 0 ≤ rsOver (absI n) (rsE sh o) / rsUnder d (rsE sh o) := Int.ediv_nonneg (Int.le_of_lt hv) (Int.le_of_lt hu)
  have q2 : sh.lo < rsE sh o → 2 ^ (sh.p - 1).toNat ≤ rsOver (absI n) (rsE sh o) / rsUnder d (rsE sh o) := fun z => Int.le_ediv_of_mul_le hu (h2 z)
  have hw' : rsB n d (rsE sh o) w = rsOver (absI n) (rsE sh o) / rsUnder d (rsE sh o) ∨ (rsB n d (rsE sh o) w = rsOver (absI n) (rsE sh o) / rsUnder d (rsE sh o) + 1 ∧ rsOver (absI n) (rsE sh o) % rsUnder d (rsE sh o) ≠ 0) := hw
  generalize rsB n d (rsE sh o) w = b at hw' ⊢
  generalize rsOver (absI n) (rsE sh o) / rsUnder d (rsE sh o) = q at *
  refine ⟨by omega, by omega, fun z => ?_, hlo, hw'⟩
  have := q2 z
  omega
theorem side0 (n : Int) : 0 ≤ sideOf n := by
  unfold sideOf
  split <;> decide
theorem side1 (n : Int) : sideOf n ≤ 1 := by
  unfold sideOf
  split <;> decide
/-! ### values, scaled -/
def sc (e : Int) : Int := 2 ^ (e + 1100).toNat
theorem sc_pos (e : Int) : 0 < sc e := p2 _
theorem sc_add {e : Int} (h : -1100 ≤ e) (k : Nat) : sc (e + k) = sc e * 2 ^ k := by
  unfold sc
  rw [← p2_add]
  congr 1
  omega
theorem sc_next {a : Int} (ha : -1100 ≤ a) : sc (a + 1) = 2 * sc a := by
  have := sc_add ha 1
  rw [show ((1 : Nat) : Int) = 1 from rfl] at this
  rw [this, show (2 : Int) ^ 1 = 2 from rfl, Int.mul_comm]
theorem signed (z l : Int) : z * sc l = (1 - 2 * sideOf z) * (absI z * sc l) := by
  unfold sideOf absI
  split
  · rw [show (1 : Int) - 2 * 1 = -1 by decide, Int.neg_mul, Int.one_mul, Int.neg_mul, Int.neg_neg]
  · rw [show (1 : Int) - 2 * 0 = 1 by decide, Int.one_mul]
end DW
namespace DW
open PySem PySem.Spec PyProof.Rows L2
/-! ### rounding of any fraction -/
def dnw (w : Str) (side : Int) : Prop := w = "zero" ∨ (w = "up" ∧ side = 1) ∨ (w = "down" ∧ side = 0)
def upw (w : Str) (side : Int) : Prop := (w = "up" ∧ side = 0) ∨ (w = "down" ∧ side = 1)
def big (n : Int) : Int := absI n * 2 ^ 1100
theorem rs_scale' {n d E : Int} (hE : -1100 ≤ E) : rsOver (absI n) E * (sc E * d) = big n * rsUnder d E := by
  unfold rsOver rsUnder sc big
  have e : (2 : Int) ^ (-E).toNat * 2 ^ (E + 1100).toNat = 2 ^ 1100 * 2 ^ E.toNat := by
    rw [← p2_add, ← p2_add]
    congr 1
    omega
  generalize (2 : Int) ^ (-E).toNat = A at *
  generalize (2 : Int) ^ (E + 1100).toNat = B at *
  generalize (2 : Int) ^ E.toNat = C at *
  generalize (2 : Int) ^ 1100 = F at *
  rw [← Int.mul_assoc, Int.mul_assoc (absI n), e]
  ac_rfl
theorem whole_dn {v u : Int} {w : Str} {side : Int} (hv : 0 ≤ v) (hu : 0 < u) (hs : side = 0 ∨ side = 1) (hw : dnw w side) : absI (wholeOf (if side = 1 then -v else v) u w) = v / u := by
  obtain ⟨q, r, e, h0, h3, hq, hr⟩ := wholeOf_parts v hu
  have q0 : 0 ≤ q := by
    rw [← hq]
    exact Int.ediv_nonneg hv (Int.le_of_lt hu)
  have d1 : ¬ (Str.ofString "zero" = Str.ofString "down") := by decide +kernel
  have d2 : ¬ (Str.ofString "zero" = Str.ofString "up") := by decide +kernel
  have d3 : ¬ (Str.ofString "up" = Str.ofString "down") := by decide +kernel
  have v0 : 0 < v ∨ r = 0 := by
    rcases Int.lt_or_le 0 v with h | h
    · exact .inl h
    · right
      have : v = 0 := by omega
      rw [← hr, this, Int.zero_emod]
  rcases hs with rfl | rfl
  · rw [if_neg (by decide)]
    unfold wholeOf
    rw [hq, hr]
    rcases hw with rfl | ⟨_, h⟩ | ⟨rfl, _⟩
    · rw [if_neg d2, if_pos rfl]
      unfold absI
      repeat' split
      all_goals omega
    · omega
    · rw [if_pos (.inr rfl)]
      unfold absI
      split <;> omega
  · rw [if_pos rfl]
    obtain ⟨eq, er⟩ := parts_neg hu e h0 h3
    unfold wholeOf
    rw [eq, er, hq]
    by_cases z : r = 0
    · rw [if_pos z, if_pos z, if_pos (.inl rfl)]
      unfold absI
      split <;> omega
    rw [if_neg z, if_neg z]
    rcases hw with rfl | ⟨rfl, _⟩ | ⟨_, h⟩
    · rw [if_neg d2, if_pos rfl, if_neg (fun y => y.elim (by omega) d1), if_neg (by omega)]
      unfold absI
      split <;> omega
    · rw [if_pos rfl, if_neg (fun y => y.elim (by omega) d3)]
      unfold absI
      split <;> omega
    · omega
theorem whole_up {v u : Int} {w : Str} {side : Int} (hv : 0 ≤ v) (hu : 0 < u) (hw : upw w side) : (v % u = 0 ∧ absI (wholeOf (if side = 1 then -v else v) u w) = v / u) ∨ (v % u ≠ 0 ∧ absI (wholeOf (if side = 1 then -v else v) u w) = v / u + 1) := by
  obtain ⟨q, r, e, h0, h3, hq, hr⟩ := wholeOf_parts v hu
  have q0 : 0 ≤ q := by
    rw [← hq]
    exact Int.ediv_nonneg hv (Int.le_of_lt hu)
  have d3 : ¬ (Str.ofString "up" = Str.ofString "down") := by decide +kernel
  rcases hw with ⟨rfl, rfl⟩ | ⟨rfl, rfl⟩
  · rw [if_neg (by decide)]
    unfold wholeOf
    rw [hq, hr, if_pos rfl]
    by_cases z : r = 0
    · left
      rw [if_pos (.inl z)]
      refine ⟨z, ?_⟩
      unfold absI
      split <;> omega
    · right
      rw [if_neg (fun y => y.elim z d3)]
      refine ⟨z, ?_⟩
      unfold absI
      split <;> omega
  · rw [if_pos rfl]
    obtain ⟨eq, er⟩ := parts_neg hu e h0 h3
    unfold wholeOf
    rw [eq, er, hq, hr, if_pos (.inr rfl)]
    by_cases z : r = 0
    · left
      rw [if_pos z]
      refine ⟨z, ?_⟩
      unfold absI
      split <;> omega
    · right
      rw [if_neg z]
      refine ⟨z, ?_⟩
      unfold absI
      split <;> omega
structure RndG (sh : Sh) (w : Str) (side S d : Int) (x : Nm) (fl : List Str) (b E : Int) : Prop where
  lo : sh.lo ≤ E
  b0 : 0 ≤ b
  b1 : b ≤ 2 ^ sh.p.toNat
  below : S < 2 ^ sh.p.toNat * (sc E * d)
  above : sh.lo < E → 2 ^ (sh.p - 1).toNat * (sc E * d) ≤ S
  g1 : -(sc E * d) < b * (sc E * d) - S
  g2 : b * (sc E * d) - S < sc E * d
  near : w = "nearest" ∨ w = "away" → 2 * (b * (sc E * d) - S) ≤ sc E * d ∧ -(sc E * d) ≤ 2 * (b * (sc E * d) - S)
  dn : dnw w side → b * (sc E * d) ≤ S
  up : upw w side → S ≤ b * (sc E * d)
  out : (x = overN sh w side ∧ fl = (["inexact", "overflow"] : List Str) ∧ (sh.hi < E ∨ sh.hi < E + 1 ∧ b = 2 ^ sh.p.toNat)) ∨
   ∃ b' E', x = finN sh side b' E' ∧ x.Fin ∧ b' * sc E' = b * sc E ∧ (fl = [] ↔ b * (sc E * d) = S) ∧ (fl = [] ∨ (fl = (["inexact", "underflow"] : List Str)) ∨ (fl = (["inexact"] : List Str)))
theorem side_01 (n : Int) : sideOf n = 0 ∨ sideOf n = 1 := by
  unfold sideOf
  split
  · exact .inr rfl
  · exact .inl rfl
end DW
namespace DW
open PySem PySem.Spec PyProof.Rows L2
/-! ### rounding to a side -/
def szS (x : Nm) : Int := x.bits * sc x.scale
theorem half_p {sh : Sh} (hok : sh.Ok) : (2 : Int) ^ sh.p.toNat = 2 * 2 ^ (sh.p - 1).toNat := (pow_half hok.p1).1
structure DirD (sh : Sh) (side S d : Int) (x : Nm) (fl : List Str) : Prop where
  fin : x.Fin
  shp : x.sh = sh
  side : x.side = side
  le : szS x * d ≤ S
  most : ∀ bg eg, 0 ≤ bg → bg < 2 ^ sh.p.toNat → sh.lo ≤ eg → eg ≤ sh.hi → bg * sc eg * d ≤ S → bg * sc eg ≤ szS x
  fl : fl = [] ↔ szS x * d = S
structure DirU (sh : Sh) (side S d : Int) (x : Nm) (fl : List Str) : Prop where
  fin : x.Fin
  shp : x.sh = sh
  side : x.side = side
  le : S ≤ szS x * d
  least : ∀ bg eg, 0 ≤ bg → bg < 2 ^ sh.p.toNat → sh.lo ≤ eg → eg ≤ sh.hi → S ≤ bg * sc eg * d → szS x ≤ bg * sc eg
  fl : fl = [] ↔ szS x * d = S
theorem dir_or {w : Str} {side : Int} (hw : w = "zero" ∨ w = "up" ∨ w = "down") (hs : side = 0 ∨ side = 1) : dnw w side ∨ upw w side := by
  unfold dnw upw
  rcases hw with h | h | h <;> rcases hs with e | e
  · exact .inl (.inl h)
  · exact .inl (.inl h)
  · exact .inr (.inl ⟨h, e⟩)
  · exact .inl (.inr (.inl ⟨h, e⟩))
  · exact .inl (.inr (.inr ⟨h, e⟩))
  · exact .inr (.inr ⟨h, e⟩)
end DW
namespace DW
open PySem PySem.Spec PyProof.Rows L2
theorem wpS_toN {r : R Dl} {N : Dl → Sto → Prop} {T : D → Sto → Prop} {E : Xc → Dl → Sto → Prop} : wpS (toN r) N T E = wp r N (fun _ _ => False) := by cases r <;> rfl
theorem num_form {x : Nm} {S : Sto} : fldD "Number" "form" (numD x) S = .ok (shD x.sh) S := rfl
theorem num_side {x : Nm} {S : Sto} : fldD "Number" "side" (numD x) S = .ok (.int x.side) S := rfl
theorem num_bits {x : Nm} {S : Sto} : fldD "Number" "bits" (numD x) S = .ok (.int x.bits) S := rfl
theorem num_scale {x : Nm} {S : Sto} : fldD "Number" "scale" (numD x) S = .ok (.int x.scale) S := rfl
theorem num_state {x : Nm} {S : Sto} : fldD "Number" "state" (numD x) S = .ok (.str x.st) S := rfl
theorem top_fput {S : Sto} {n f : Str} {v : D} {ns : List Str} {l : List D} : fputD n f (.ref S.length) v (S ++ [.ins n ns l]) = .chk (ns.length < 1000) (.ok () (S ++ [.ins n (kputK ns f) (kputL ns l f v)])) := by
  unfold fputD
  dsimp only
  rw [top_get]
  dsimp only
  rw [show (S ++ [Ob.ins n ns l]).set S.length (Ob.ins n (kputK ns f) (kputL ns l f v)) = S ++ [Ob.ins n (kputK ns f) (kputL ns l f v)] by simp]
  unfold R.chk
  by_cases h : ns.length < 1000
  · rw [if_pos h, if_pos ⟨rfl, h⟩]
  · rw [if_neg h, if_neg (fun z => h z.2)]
noncomputable def mkB (fz : Bool) (cn : Str) (m : FM) (src : List SrcD) (vs zs : List D) (S : Sto) : R D := (m (srcD (.ref S.length :: vs) zs src) (S ++ [.ins cn [] []])).bind fun d S' => match d with
    | .non => if fz = true then frzI S d S' else .ok (.ref S.length) S'
    | _ => .bad
theorem v_mk {fz : Bool} {cn : Str} {m : FM} {n k : Nat} {src : List SrcD} {fr fk : FA} {x : Option D} {δ : Dl} {S : Sto} : eMkB fz cn m n k src fr fk (x :: δ) S = (fr (x :: δ) S).bind fun vs S => (fk (x :: δ) S).bind fun zs S => .chk (vs.length = n ∧ zs.length = k) (mkB fz cn m src vs zs S) := rfl
end DW
namespace DW
open PySem PySem.Spec PyProof.Rows L2
/-! ### sizes -/
def Sz (x : Int) (a : Nat) : Prop := x.natAbs < 2 ^ a
section
variable {x y : Int} {a b n : Nat}
theorem pw1 (n : Nat) : 0 < 2 ^ n := Nat.pow_pos (by decide)
theorem Sz.mono (h : Sz x a) (e : a ≤ b) : Sz x b := Nat.lt_of_lt_of_le h (Nat.pow_le_pow_right (by decide) e)
theorem Sz.mul (h : Sz x a) (g : Sz y b) : Sz (x * y) (a + b) := by
  unfold Sz at *
  rw [Int.natAbs_mul, Nat.pow_add]
  exact Nat.mul_lt_mul'' h g
theorem Sz.neg (h : Sz x a) : Sz (-x) a := by
  unfold Sz at *
  rw [Int.natAbs_neg]
  exact h
theorem Sz.p2 : Sz (2 ^ n) (n + 1) := by
  unfold Sz
  have : ((2 : Int) ^ n).natAbs = 2 ^ n := by
    rw [Int.natAbs_pow]
    rfl
  rw [this, Nat.pow_succ]
  have := pw1 n
  omega
theorem Sz.of_lt (h0 : 0 ≤ x) (h : x < 2 ^ a) : Sz x a := by
  unfold Sz
  have e : ((2 ^ a : Nat) : Int) = 2 ^ a := PySem.W.kbt_cast _
  omega
theorem Sz.lt (h : Sz x a) : x < 2 ^ a := by
  unfold Sz at h
  have e : ((2 ^ a : Nat) : Int) = 2 ^ a := PySem.W.kbt_cast _
  omega
theorem Sz.gt (h : Sz x a) : -(2 ^ a) < x := by
  unfold Sz at h
  have e : ((2 ^ a : Nat) : Int) = 2 ^ a := PySem.W.kbt_cast _
  omega
theorem Sz.ten : Sz (10 ^ n) (n * 10 / 3 + 4) := by
  unfold Sz
  have e : ((10 : Int) ^ n).natAbs = 10 ^ n := by
    rw [Int.natAbs_pow]
    rfl
  rw [e]
  have key : ∀ k, 10 ^ (3 * k) ≤ 2 ^ (10 * k) := fun k => by
    rw [Nat.pow_mul, Nat.pow_mul]
    exact Nat.pow_le_pow_left (by decide) _
  obtain ⟨k, r, rfl, hr⟩ : ∃ k r, n = 3 * k + r ∧ r < 3 := ⟨n / 3, n % 3, by omega, by omega⟩
  have h1 := key k
  have h2 : 10 ^ r ≤ 2 ^ (r * 10 / 3 + 3) := by
    match r, hr with
    | 0, _ => decide
    | 1, _ => decide
    | 2, _ => decide
  have h3 := Nat.mul_le_mul h1 h2
  rw [← Nat.pow_add (2 : Nat)] at h3
  rw [Nat.pow_add]
  have h4 : 2 ^ (10 * k + (r * 10 / 3 + 3)) < 2 ^ ((3 * k + r) * 10 / 3 + 4) := Nat.pow_lt_pow_right (by decide) (by omega)
  exact Nat.lt_of_le_of_lt h3 h4
theorem Sz.cs {j : Int} (h : Sz x a) (h0 : 0 ≤ j) (e : (a : Int) + j ≤ 100000000) : CShl x j := by
  obtain ⟨k, rfl⟩ := Int.eq_ofNat_of_zero_le h0
  exact shl_ok (n := a) h (by omega)
theorem Sz.cd (g : Sz y 9000) (h : 0 < y) : CDivC x y := ⟨h, .inl g⟩
theorem Sz.num (h : Sz x 9900) : -(10 ^ 3000) < x ∧ x < 10 ^ 3000 := by
  have e1 := h.lt
  have e2 := h.gt
  have e : (2 : Int) ^ 9900 < 10 ^ 3000 := by decide +kernel
  generalize (2 : Int) ^ 9900 = A at *
  generalize (10 : Int) ^ 3000 = B at *
  omega
end
end DW
namespace DW
open PySem PySem.Spec PyProof.Rows L2
/-! ### plain data compared -/
mutual
def okD : Nat → D → Bool
  | _, .non => true
  | _, .bl _ => true
  | _, .int _ => true
  | _, .str x => PyData.strOk x
  | n, .tup l => match n with
    | 0 => false
    | n + 1 => okAll n l
  | n, .lst l => match n with
    | 0 => false
    | n + 1 => okAll n l
  | n, .scr l => match n with
    | 0 => false
    | n + 1 => okAll n l
  | _, _ => false
def okAll : Nat → List D → Bool
  | _, [] => true
  | n, d :: l => okD n d && okAll n l
end
noncomputable def eqB (d e : D) : Bool := match pyD d, pyD e with
  | some p, some q => PyData.eqv p q
  | _, _ => false
noncomputable def eqBs (d e : List D) : Bool := match pyAll d, pyAll e with
  | some p, some q => PyData.eqvAll p q
  | _, _ => false
mutual
theorem okD_py : ∀ (n : Nat) (d : D), okD n d = true → ∃ p, pyD d = some p ∧ p.canLay0 = true ∧ p.depth ≤ n + 1
  | _, .non, _ => ⟨_, rfl, rfl, by simp [PyData.depth]⟩
  | _, .bl _, _ => ⟨_, rfl, rfl, by simp [PyData.depth]⟩
  | _, .int _, _ => ⟨_, rfl, rfl, by simp [PyData.depth]⟩
  | _, .str x, h => ⟨_, rfl, by simpa [okD, PyData.canLay0] using h, by simp [PyData.depth]⟩
  | 0, .tup l, h => by simp [okD] at h
  | n + 1, .tup l, h => by
    have h' : okAll n l = true := by simpa [okD] using h
    obtain ⟨p, e, c, z⟩ := okAll_py n l h'
    exact ⟨.tuple p, by simp [pyD, e], by simpa [PyData.canLay0] using c, by simp [PyData.depth]; omega⟩
  | 0, .lst l, h => by simp [okD] at h
  | n + 1, .lst l, h => by
    have h' : okAll n l = true := by simpa [okD] using h
    obtain ⟨p, e, c, z⟩ := okAll_py n l h'
    exact ⟨.list p, by simp [pyD, e], by simpa [PyData.canLay0] using c, by simp [PyData.depth]; omega⟩
  | 0, .scr l, h => by simp [okD] at h
  | n + 1, .scr l, h => by
    have h' : okAll n l = true := by simpa [okD] using h
    obtain ⟨p, e, c, z⟩ := okAll_py n l h'
    exact ⟨.list p, by simp [pyD, e], by simpa [PyData.canLay0] using c, by simp [PyData.depth]; omega⟩
  | _, .ty _, h => by simp [okD] at h
  | _, .cls _, h => by simp [okD] at h
  | _, .dct _ _, h => by simp [okD] at h
  | _, .ins _ _ _, h => by simp [okD] at h
  | _, .ref _, h => by simp [okD] at h
theorem okAll_py : ∀ (n : Nat) (l : List D), okAll n l = true → ∃ p, pyAll l = some p ∧ PyData.canLayAll0 p = true ∧ PyData.depthAll p ≤ n + 1
  | _, [], _ => ⟨[], rfl, rfl, by simp [PyData.depthAll]⟩
  | n, d :: l, h => by
    have h' : okD n d = true ∧ okAll n l = true := by simpa [okAll] using h
    obtain ⟨p, e, c, z⟩ := okD_py n d h'.1
    obtain ⟨p', e', c', z'⟩ := okAll_py n l h'.2
    exact ⟨p :: p', by simp [pyAll, e, e'], by simp [PyData.canLayAll0, c, c'], by simp [PyData.depthAll]; omega⟩
end
theorem okD_shaped {d : D} {p : PyData} (h : okD 60 d = true) (e : pyD d = some p) : SeqAt.shaped p = true := by
  obtain ⟨q, e', c, z⟩ := okD_py 60 d h
  rw [e] at e'
  cases e'
  unfold SeqAt.shaped
  rw [c]
  simp
  omega
section
variable {S : Sto} {a b : Int} {u v : Str} {l m : List D} {d e : D}
theorem o_eqD (hd : okD 60 d = true) (he : okD 60 e = true) : eqD d e S = .ok (.bl (eqB d e)) S := by
  obtain ⟨p, e1, _⟩ := okD_py 60 d hd
  obtain ⟨q, e2, _⟩ := okD_py 60 e he
  have gen : (match pyD d, pyD e with
    | some p, some q => R.chk (SeqAt.shaped p = true ∧ SeqAt.shaped q = true) (R.ok (D.bl (PyData.eqv p q)) S)
    | _, _ => R.bad) = .ok (.bl (eqB d e)) S := by
    unfold eqB
    rw [e1, e2]
    exact chk_pos ⟨okD_shaped hd e1, okD_shaped he e2⟩
  cases d <;> cases e <;> first
    | exact gen
    | (simp [okD] at hd; done)
    | (simp [okD] at he; done)
    | (simp only [eqB, pyD, PyData.eqv, eqD]; done)
    | (simp only [eqB, pyD, PyData.eqv, eqD]; rfl)
    | (simp only [eqB, pyD, PyData.eqv, eqD]; simp [BEq.beq])
theorem o_eqT (hl : okAll 59 l = true) (hm : okAll 59 m = true) : eqD (.tup l) (.tup m) S = .ok (.bl (eqBs l m)) S := by
  rw [o_eqD (by simpa [okD] using hl) (by simpa [okD] using hm)]
  unfold eqB eqBs
  simp only [pyD]
  cases pyAll l <;> cases pyAll m <;> simp [PyData.eqv]
theorem o_eqL (hl : okAll 59 l = true) (hm : okAll 59 m = true) : eqD (.lst l) (.lst m) S = .ok (.bl (eqBs l m)) S := by
  rw [o_eqD (by simpa [okD] using hl) (by simpa [okD] using hm)]
  unfold eqB eqBs
  simp only [pyD]
  cases pyAll l <;> cases pyAll m <;> simp [PyData.eqv]
theorem q_nn : eqBs [] [] = true := by simp [eqBs, pyAll, PyData.eqvAll]
theorem q_nc : eqBs [] (d :: l) = false := by
  simp only [eqBs, pyAll]
  cases pyD d <;> cases pyAll l <;> simp [PyData.eqvAll]
theorem q_cn : eqBs (d :: l) [] = false := by
  simp only [eqBs, pyAll]
  cases pyD d <;> cases pyAll l <;> simp [PyData.eqvAll]
theorem q_cc : eqBs (d :: l) (e :: m) = (eqB d e && eqBs l m) := by
  simp only [eqBs, eqB, pyAll]
  cases pyD d <;> cases pyAll l <;> cases pyD e <;> cases pyAll m <;> simp [PyData.eqvAll]
theorem q_int : eqB (.int a) (.int b) = decide (a = b) := by simp only [eqB, pyD, PyData.eqv]; rfl
theorem q_str : eqB (.str u) (.str v) = decide (u = v) := by simp only [eqB, pyD, PyData.eqv]; simp [BEq.beq]
theorem q_bl {a b : Bool} : eqB (.bl a) (.bl b) = decide (a = b) := by simp only [eqB, pyD, PyData.eqv]; cases a <;> cases b <;> rfl
theorem q_non : eqB .non .non = true := by simp only [eqB, pyD, PyData.eqv]
theorem q_tup : eqB (.tup l) (.tup m) = eqBs l m := by
  unfold eqB eqBs
  simp only [pyD]
  cases pyAll l <;> cases pyAll m <;> simp [PyData.eqv]
theorem q_lst : eqB (.lst l) (.lst m) = eqBs l m := by
  unfold eqB eqBs
  simp only [pyD]
  cases pyAll l <;> cases pyAll m <;> simp [PyData.eqv]
theorem q_is : eqB (.int a) (.str v) = false := by simp only [eqB, pyD, PyData.eqv]
theorem q_si : eqB (.str v) (.int a) = false := by simp only [eqB, pyD, PyData.eqv]
theorem q_in : eqB (.int a) .non = false := by simp only [eqB, pyD, PyData.eqv]
theorem q_ni : eqB .non (.int a) = false := by simp only [eqB, pyD, PyData.eqv]
theorem k_nil {n : Nat} : okAll n [] = true := by simp [okAll]
theorem k_cons {n : Nat} : okAll n (d :: l) = (okD n d && okAll n l) := by simp [okAll]
theorem k_int {n : Nat} : okD n (.int a) = true := by simp [okD]
theorem k_bl {n : Nat} {b : Bool} : okD n (.bl b) = true := by simp [okD]
theorem k_non {n : Nat} : okD n .non = true := by simp [okD]
theorem k_str {n : Nat} : okD n (.str u) = PyData.strOk u := by simp [okD]
theorem k_tup {n : Nat} : okD (n + 1) (.tup l) = okAll n l := by simp [okD]
theorem k_lst {n : Nat} : okD (n + 1) (.lst l) = okAll n l := by simp [okD]
theorem k_ints {n : Nat} : ∀ ns : List Int, okAll n (ns.map D.int) = true
  | [] => k_nil
  | a :: ns => by rw [List.map_cons, k_cons, k_int, k_ints ns]; rfl
theorem q_ints : ∀ {ns ms : List Int}, eqBs (ns.map D.int) (ms.map D.int) = decide (ns = ms)
  | [], [] => q_nn
  | [], _ :: _ => by rw [List.map_cons, List.map_nil, q_nc]; simp
  | _ :: _, [] => by rw [List.map_cons, List.map_nil, q_cn]; simp
  | a :: ns, b :: ms => by
    rw [List.map_cons, List.map_cons, q_cc, q_int, q_ints]
    simp
theorem q_strs : ∀ {ns ms : List Str}, eqBs (ns.map D.str) (ms.map D.str) = decide (ns = ms)
  | [], [] => q_nn
  | [], _ :: _ => by rw [List.map_cons, List.map_nil, q_nc]; simp
  | _ :: _, [] => by rw [List.map_cons, List.map_nil, q_cn]; simp
  | a :: ns, b :: ms => by
    rw [List.map_cons, List.map_cons, q_cc, q_str, q_strs]
    simp
instance : DecidableEq Sh := fun s t => decidable_of_iff (s.p = t.p ∧ s.lo = t.lo ∧ s.hi = t.hi) (by
  obtain ⟨a, b, c⟩ := s
  obtain ⟨a', b', c'⟩ := t
  simp)
theorem o_eqSh {s t : Sh} : eqD (shD s) (shD t) S = .ok (.bl (decide (s = t))) S := by
  unfold shD
  rw [o_eqT (by simp [okAll, okD]) (by simp [okAll, okD])]
  simp only [q_cc, q_nn, q_int]
  congr 2
  obtain ⟨a, b, c⟩ := s
  obtain ⟨a', b', c'⟩ := t
  simp [Bool.decide_and]
theorem allDV_strs : ∀ ss : List Str, allDV (ss.map D.str) = some (ss.map V.str)
  | [] => rfl
  | a :: ss => by simp [allDV, allDV_strs ss, DV]
theorem inV_strs {ss : List Str} : inV (.str u) (ss.map V.str) = decide (u ∈ ss) := by
  unfold inV
  induction ss with
  | nil => simp
  | cons a ss ih =>
    rw [List.map_cons, List.any_cons, ih]
    simp only [List.mem_cons, eqV]
    by_cases h : a = u
    · simp [h]
    · have h' : ¬ u = a := fun z => h z.symm
      simp [h, h']
theorem flat_strs {ss : List Str} : (ss.map V.str).all flatV = true := by
  rw [List.all_map]
  simp [flatV, Function.comp_def]
theorem o_inTS {ss : List Str} : inD (.str u) (.tup (ss.map .str)) S = .ok (.bl (decide (u ∈ ss))) S := by
  simp only [inD, in1D, DV, D.seq, allDV_strs]
  rw [chk_pos ⟨rfl, flat_strs⟩, inV_strs]
end
/-! ### more walking -/
section
variable {x : Option D} {δ : Dl} {S : Sto} {fa : FE} {fl fh : FO} {l : List D} {lo hi : Option Int} {i : Int} {d : D}
theorem v_slice : eSlice fa fl fh (x :: δ) S = (fa (x :: δ) S).bind fun d S => (fl (x :: δ) S).bind fun lo S => (fh (x :: δ) S).bind fun hi S => sliceD d lo hi S := rfl
theorem v_oN : oNone (x :: δ) S = .ok none S := rfl
def asI (d : D) (S : Sto) : R (Option Int) := match d with
  | .int i => .ok (some i) S
  | _ => .bad
theorem v_oS : oSome fa (x :: δ) S = (fa (x :: δ) S).bind asI := rfl
theorem v_oI : asI (.int i) S = .ok (some i) S := rfl
theorem cut_1n : cutL (d :: l) (some 1) none = l := by
  have h : HT.sIx (d :: l).length 0 (some 1) = 1 := by
    simp [HT.sIx]
  unfold cutL
  rw [h]
  simp [HT.sIx]
theorem o_slice1n : sliceD (.tup (d :: l)) (some 1) none S = .ok (.tup l) S := by
  have h : HT.sIx (d :: l).length 0 (some 1) = 1 := by
    simp [HT.sIx]
  show R.chk _ _ = _
  rw [chk_pos (by rw [h]; simp), cut_1n]
theorem ok_iteI {p : Prop} [Decidable p] {a b : Int} : (if p then R.ok (D.int a) S else R.ok (D.int b) S) = R.ok (D.int (if p then a else b)) S := by split <;> rfl
theorem mx0 {e : Int} : (if 0 < e then e else 0) = ((e.toNat : Nat) : Int) := by split <;> omega
theorem gTup_pair {gs : FGs} {a b : D} : gTupD 2 gs (.tup [a, b]) δ S = gs [a, b] δ S := rfl
theorem isi_num {y : Nm} : isiD [numD y, .cls "Number"] S = .ok (.bl true) S := rfl
theorem isi_numI {y : Nm} : isiD [numD y, .ty "int"] S = .ok (.bl false) S := rfl
theorem o_neI {m : FM} {y z : Nm} : neI "Number" m (numD y) (numD z) S = (m [numD y, numD z] S).bind (boolR true) := rfl
theorem o_eqIn {m : FM} {y z : Nm} : eqI "Number" m (numD y) (numD z) S = (m [numD y, numD z] S).bind (boolR false) := rfl
theorem o_boolR {n b : Bool} : boolR n (.bl b) S = .ok (.bl (if n then !b else b)) S := rfl
end
instance : DecidableEq Nm := fun s t => decidable_of_iff (s.sh = t.sh ∧ s.side = t.side ∧ s.bits = t.bits ∧ s.scale = t.scale ∧ s.st = t.st) (by
  obtain ⟨a, b, c, d, e⟩ := s
  obtain ⟨a', b', c', d', e'⟩ := t
  simp)
section
variable {a b c d e f : D} {l : List D}
theorem at_1 : atI (a :: b :: l) 1 = some b := by rw [show (1 : Int) = 0 + 1 from rfl, atS (Int.le_refl 0), at0]
theorem at_2 : atI (a :: b :: c :: l) 2 = some c := by rw [show (2 : Int) = 1 + 1 from rfl, atS (by decide), at_1]
theorem at_3 : atI (a :: b :: c :: d :: l) 3 = some d := by rw [show (3 : Int) = 2 + 1 from rfl, atS (by decide), at_2]
theorem at_4 : atI (a :: b :: c :: d :: e :: l) 4 = some e := by rw [show (4 : Int) = 3 + 1 from rfl, atS (by decide), at_3]
theorem at_5 : atI (a :: b :: c :: d :: e :: f :: l) 5 = some f := by rw [show (5 : Int) = 4 + 1 from rfl, atS (by decide), at_4]
end
theorem ok_of_wp {r : R D} (h : wp r (fun d _ => d = .bl true) (fun _ _ => False)) : ∃ S', r = .ok (.bl true) S' := by
  cases r with
  | ok a S =>
    have h' : a = .bl true := h
    exact ⟨S, by rw [h']⟩
  | ex e S => exact h.elim
  | bad => exact h.elim
end DW
namespace DW
open PySem PySem.Spec PyProof.Rows L2
/-! ### ranks -/
abbrev Hs (s : Sh) : Int := 2 ^ (s.p - 1).toNat
def rv (s : Sh) (r : Int) : Int := if r < Hs s then r * sc s.lo else (Hs s + r % Hs s) * sc (s.lo + r / Hs s - 1)
section
variable {s : Sh} {b e r r' : Int}
theorem Hs_two (h : s.Ok) : 2 ≤ Hs s := (pow_half h.p1).2
theorem Hs_even (h : s.Ok) : Hs s % 2 = 0 := by
  have h1 := h.p1
  unfold Hs
  rw [show (s.p - 1).toNat = (s.p - 1).toNat - 1 + 1 by omega, Int.pow_succ]
  omega
theorem dm {m k H : Int} (h0 : 0 ≤ m) (h1 : m < H) : (m + k * H) / H = k ∧ (m + k * H) % H = m := by
  have hH : H ≠ 0 := by omega
  rw [Int.add_mul_ediv_right _ _ hH, Int.add_mul_emod_self_right, Int.ediv_eq_zero_of_lt h0 h1, Int.emod_eq_of_lt h0 h1]
  omega
theorem rv_of (h : s.Ok) (b0 : 0 ≤ b) (b1 : b ≤ 2 * Hs s) (l : s.lo ≤ e) (c : s.lo < e → Hs s ≤ b) : rv s (b + (e - s.lo) * Hs s) = b * sc e := by
  have h2 := Hs_two h
  have l1 := h.l1
  generalize hH : Hs s = H at *
  have key : ∀ m k : Int, 0 ≤ m → m < H → 1 ≤ k → rv s (m + k * H) = (H + m) * sc (s.lo + k - 1) := fun m k m0 m1 k1 => by
    have e2 := dm (k := k) m0 m1
    have : H ≤ k * H := by
      have := Int.mul_le_mul_of_nonneg_right k1 (show 0 ≤ H by omega)
      omega
    unfold rv
    rw [hH, if_neg (by omega), e2.1, e2.2]
  by_cases hb : b < H
  · have he : e = s.lo := by
      rcases Int.lt_or_le s.lo e with z | z
      · have := c z
        omega
      · omega
    subst he
    unfold rv
    rw [hH, Int.sub_self, Int.zero_mul, Int.add_zero, if_pos hb]
  · by_cases hb2 : b < 2 * H
    · have := key (b - H) (e - s.lo + 1) (by omega) (by omega) (by omega)
      rw [show b - H + (e - s.lo + 1) * H = b + (e - s.lo) * H by rw [Int.add_mul]; omega, show s.lo + (e - s.lo + 1) - 1 = e by omega, show H + (b - H) = b by omega] at this
      exact this
    · have hb3 : b = 2 * H := by omega
      have := key 0 (e - s.lo + 2) (by omega) (by omega) (by omega)
      rw [show 0 + (e - s.lo + 2) * H = b + (e - s.lo) * H by rw [Int.add_mul, hb3]; omega, show s.lo + (e - s.lo + 2) - 1 = e + 1 by omega, Int.add_zero, sc_next (show -1100 ≤ e by omega)] at this
      rw [this, hb3, Int.mul_comm 2 H, Int.mul_assoc]
theorem rk_rep (h : s.Ok) (h0 : 0 ≤ r) : ∃ b e, 0 ≤ b ∧ b < 2 * Hs s ∧ s.lo ≤ e ∧ (s.lo < e → Hs s ≤ b) ∧ r = b + (e - s.lo) * Hs s := by
  have h2 := Hs_two h
  generalize hH : Hs s = H at *
  by_cases c : r < H
  · exact ⟨r, s.lo, h0, by omega, by omega, fun z => by omega, by rw [Int.sub_self, Int.zero_mul]; omega⟩
  · have e1 := Int.mul_ediv_add_emod r H
    have e2 := Int.emod_nonneg r (show H ≠ 0 by omega)
    have e3 := Int.emod_lt_of_pos r (show 0 < H by omega)
    have e4 : 1 ≤ r / H := by
      have := (Int.le_ediv_iff_mul_le (show 0 < H by omega)).mpr (show 1 * H ≤ r by omega)
      exact this
    refine ⟨H + r % H, s.lo + r / H - 1, by omega, by omega, by omega, fun z => by omega, ?_⟩
    rw [show s.lo + r / H - 1 - s.lo = r / H - 1 by omega, Int.sub_mul, Int.mul_comm]
    omega
theorem rv_step (h : s.Ok) (h0 : 0 ≤ r) : ∃ b e, 0 ≤ b ∧ b < 2 * Hs s ∧ s.lo ≤ e ∧ (s.lo < e → Hs s ≤ b) ∧ r = b + (e - s.lo) * Hs s ∧ rv s r = b * sc e ∧ rv s (r + 1) = (b + 1) * sc e := by
  obtain ⟨b, e, b0, b1, l, c, rfl⟩ := rk_rep h h0
  refine ⟨b, e, b0, b1, l, c, rfl, rv_of h b0 (by omega) l c, ?_⟩
  rw [show b + (e - s.lo) * Hs s + 1 = b + 1 + (e - s.lo) * Hs s by omega]
  exact rv_of h (by omega) (by omega) l fun z => by have := c z; omega
theorem rv_lt1 (h : s.Ok) (h0 : 0 ≤ r) : rv s r < rv s (r + 1) := by
  obtain ⟨b, e, _, _, _, _, _, e1, e2⟩ := rv_step h h0
  rw [e1, e2, Int.add_mul, Int.one_mul]
  have := sc_pos e
  omega
theorem rv_le (h : s.Ok) (h0 : 0 ≤ r) (h1 : r ≤ r') : rv s r ≤ rv s r' := by
  obtain ⟨k, rfl⟩ : ∃ k : Nat, r' = r + k := ⟨(r' - r).toNat, by omega⟩
  clear h1
  induction k with
  | zero => simp
  | succ k ih =>
    have := rv_lt1 h (show 0 ≤ r + (k : Int) by omega)
    rw [show r + ((k + 1 : Nat) : Int) = r + k + 1 by omega]
    omega
def rkOf (x : Nm) : Int := x.bits + (x.scale - x.sh.lo) * Hs x.sh
theorem fin_rk {x : Nm} (f : x.Fin) : 0 ≤ rkOf x ∧ rkOf x < topRank x.sh ∧ szS x = rv x.sh (rkOf x) := by
  have hok := f.ok
  have h2 := Hs_two hok
  have hp := half_p hok
  have b1 := f.b1
  have b2 := f.b2
  have e1 := f.e1
  have e2 := f.e2
  rw [hp] at b2
  refine ⟨?_, ?_, ?_⟩
  · have := Int.mul_nonneg (show 0 ≤ x.scale - x.sh.lo by omega) (show 0 ≤ Hs x.sh by omega)
    unfold rkOf
    omega
  · have := Int.mul_le_mul_of_nonneg_right (show x.scale - x.sh.lo ≤ x.sh.hi - x.sh.lo by omega) (show 0 ≤ Hs x.sh by omega)
    unfold rkOf topRank
    rw [Int.add_mul]
    show _ < _ + 2 * Hs x.sh
    change x.bits < 2 * Hs x.sh at b2
    generalize (x.sh.hi - x.sh.lo) * Hs x.sh = A at *
    change _ ≤ A at this
    change _ < A + _
    omega
  · unfold szS rkOf
    exact (rv_of hok b1 (by change x.bits < 2 * Hs x.sh at b2; omega) e1 f.nm).symm
end
/-! ### rounding by ranks -/
def W5 (w : Str) : Prop := w = "nearest" ∨ w = "away" ∨ w = "zero" ∨ w = "up" ∨ w = "down"
theorem w5_d {w : Str} (h : W5 w) : (w = "nearest" ∨ w = "away") ∧ (∀ side, ¬ dnw w side ∧ ¬ upw w side) ∨ (w = "zero" ∨ w = "up" ∨ w = "down") := by
  have d1 : ¬ (Str.ofString "nearest" = Str.ofString "zero") := by decide +kernel
  have d2 : ¬ (Str.ofString "nearest" = Str.ofString "up") := by decide +kernel
  have d3 : ¬ (Str.ofString "nearest" = Str.ofString "down") := by decide +kernel
  have d4 : ¬ (Str.ofString "away" = Str.ofString "zero") := by decide +kernel
  have d5 : ¬ (Str.ofString "away" = Str.ofString "up") := by decide +kernel
  have d6 : ¬ (Str.ofString "away" = Str.ofString "down") := by decide +kernel
  rcases h with h | h | h
  · subst h
    refine .inl ⟨.inl rfl, fun side => ⟨?_, ?_⟩⟩
    · rintro (y | ⟨y, _⟩ | ⟨y, _⟩)
      · exact d1 y
      · exact d2 y
      · exact d3 y
    · rintro (⟨y, _⟩ | ⟨y, _⟩)
      · exact d2 y
      · exact d3 y
  · subst h
    refine .inl ⟨.inr rfl, fun side => ⟨?_, ?_⟩⟩
    · rintro (y | ⟨y, _⟩ | ⟨y, _⟩)
      · exact d4 y
      · exact d5 y
      · exact d6 y
    · rintro (⟨y, _⟩ | ⟨y, _⟩)
      · exact d5 y
      · exact d6 y
  · exact .inr h
instance {w : Str} {side : Int} : Decidable (dnw w side) := by unfold dnw; infer_instance
instance {w : Str} {side : Int} : Decidable (upw w side) := by unfold upw; infer_instance
def upq (w : Str) (side q a m S : Int) : Int := if S = a ∨ dnw w side then q else if upw w side then q + 1 else if 2 * S < m then q else if m < 2 * S then q + 1 else if w = "nearest" then (if q % 2 = 0 then q else q + 1) else q + 1
theorem upq_or {w : Str} {side q a m S : Int} : upq w side q a m S = q ∨ (upq w side q a m S = q + 1 ∧ S ≠ a) := by
  unfold upq
  by_cases h : S = a ∨ dnw w side
  · rw [if_pos h]; exact .inl rfl
  · rw [if_neg h]
    have h' : S ≠ a := fun z => h (.inl z)
    repeat' split
    all_goals first | exact .inl rfl | exact .inr ⟨rfl, h'⟩
theorem upq_eq {w : Str} {side q q' a m S a' m' S' : Int} (h1 : S = a ↔ S' = a') (h2 : 2 * S < m ↔ 2 * S' < m') (h3 : m < 2 * S ↔ m' < 2 * S') (h4 : q % 2 = q' % 2) : upq w side q a m S - q = upq w side q' a' m' S' - q' := by
  unfold upq
  simp only [h1, h2, h3, h4]
  repeat' split
  all_goals omega
theorem whole_q {v u : Int} {w : Str} {side : Int} (hv : 0 ≤ v) (hu : 0 < u) (hs : side = 0 ∨ side = 1) (hw : W5 w) : absI (wholeOf (if side = 1 then -v else v) u w) = upq w side (v / u) (v / u * u) ((2 * (v / u) + 1) * u) v := by
  obtain ⟨q, r, e, h0, h3, hq, hr⟩ := wholeOf_parts v hu
  have q0 : 0 ≤ q := by
    rw [← hq]
    exact Int.ediv_nonneg hv (Int.le_of_lt hu)
  have ez : v = q * u ↔ r = 0 := by rw [e, Int.mul_comm q u]; omega
  have e5 : (2 * q + 1) * u = 2 * (u * q) + u := by rw [Int.add_mul, Int.one_mul, Int.mul_assoc, Int.mul_comm q u]
  have el : 2 * v < (2 * q + 1) * u ↔ 2 * r < u := by rw [e5, e]; omega
  have eg : (2 * q + 1) * u < 2 * v ↔ u < 2 * r := by rw [e5, e]; omega
  rw [hq]
  by_cases hd : dnw w side
  · rw [whole_dn hv hu hs hd, hq]
    unfold upq
    rw [if_pos (.inr hd)]
  by_cases hp : upw w side
  · unfold upq
    rcases whole_up (w := w) (side := side) hv hu hp with ⟨y1, y2⟩ | ⟨y1, y2⟩
    · rw [y2, hq, if_pos (.inl (ez.mpr (by omega)))]
    · rw [y2, hq, if_neg (fun z => ?_), if_pos hp]
      rcases z with z | z
      · have := ez.mp z
        omega
      · exact hd z
  have wn : w = "nearest" ∨ w = "away" := by
    rcases w5_d hw with ⟨h, _⟩ | h
    · exact h
    · rcases dir_or h hs with z | z
      · exact absurd z hd
      · exact absurd z hp
  unfold upq
  simp only [ez, el, eg, hd, hp, or_false, if_false]
  have w1 : ¬ w = "down" := by rcases wn with rfl | rfl <;> decide
  have w2 : ¬ w = "up" := by rcases wn with rfl | rfl <;> decide
  have w3 : ¬ w = "zero" := by rcases wn with rfl | rfl <;> decide
  rcases hs with rfl | rfl
  · rw [if_neg (by decide)]
    unfold wholeOf
    rw [hq, hr]
    simp only [w1, w2, w3, or_false, if_false]
    by_cases c1 : r = 0
    · simp only [c1, if_true]
      unfold absI
      split <;> omega
    · have hv' : 0 < v := by
        have := Int.mul_nonneg (Int.le_of_lt hu) q0
        omega
      simp only [c1, if_false, hv', if_true]
      by_cases c2 : 2 * r = u
      · simp only [c2, if_true, Int.lt_irrefl, if_false]
        unfold absI
        by_cases c3 : w = "nearest"
        · simp only [c3, if_true]
          split <;> split <;> omega
        · simp only [c3, if_false]
          split <;> omega
      · simp only [c2, if_false]
        unfold absI
        repeat' split
        all_goals omega
  · rw [if_pos rfl]
    obtain ⟨eq, er⟩ := parts_neg hu e h0 h3
    unfold wholeOf
    rw [eq, er]
    simp only [w1, w2, w3, or_false, if_false]
    by_cases c1 : r = 0
    · simp only [c1, if_true]
      unfold absI
      split <;> omega
    · have hv' : ¬ 0 < -v := by omega
      have c4 : ¬ u - r = 0 := by omega
      simp only [c1, c4, if_false, hv', if_false]
      by_cases c2 : 2 * r = u
      · have c5 : 2 * (u - r) = u := by omega
        simp only [c2, c5, if_true, Int.lt_irrefl, if_false]
        unfold absI
        by_cases c3 : w = "nearest"
        · simp only [c3, if_true]
          repeat' split
          all_goals omega
        · simp only [c3, if_false]
          split <;> omega
      · have c5 : ¬ 2 * (u - r) = u := by omega
        simp only [c5, if_false]
        unfold absI
        repeat' split
        all_goals omega
def ltAt (s d t : Int) : Prop := s * 2 ^ (-t).toNat < d * 2 ^ t.toNat
theorem ltAt_1 {s d t : Int} (hs : 0 ≤ s) (hd : 0 < d) (h : ltAt s d t) : ltAt s d (t + 1) := by
  unfold ltAt at *
  rcases Int.lt_or_le t 0 with z | z
  · have e1 : (t + 1).toNat = 0 := by omega
    have e2 : t.toNat = 0 := by omega
    have e3 : (-t).toNat = (-(t + 1)).toNat + 1 := by omega
    rw [e1]
    rw [e2, e3, Int.pow_succ, ← Int.mul_assoc] at h
    have := Int.mul_nonneg hs (Int.le_of_lt (p2 (-(t + 1)).toNat))
    omega
  · have e1 : (-(t + 1)).toNat = 0 := by omega
    have e2 : (-t).toNat = 0 := by omega
    have e3 : (t + 1).toNat = t.toNat + 1 := by omega
    rw [e1, e3, Int.pow_succ, ← Int.mul_assoc]
    rw [e2] at h
    have := Int.mul_pos hd (p2 t.toNat)
    omega
theorem ltAt_le {s d t t' : Int} (hs : 0 ≤ s) (hd : 0 < d) (h : ltAt s d t) (ht : t ≤ t') : ltAt s d t' := by
  obtain ⟨k, rfl⟩ : ∃ k : Nat, t' = t + k := ⟨(t' - t).toNat, by omega⟩
  clear ht
  induction k with
  | zero => simpa using h
  | succ k ih =>
    have := ltAt_1 hs hd ih
    rw [show t + ((k + 1 : Nat) : Int) = t + k + 1 by omega]
    exact this
theorem halv_lt {s d o t : Int} (hs : 0 ≤ s) (hd : 0 < d) (h : HalvSpec s d o) : o < t ↔ ltAt s d t := by
  constructor
  · intro z
    exact ltAt_le hs hd h.2 (by omega)
  · intro z
    rcases Int.lt_or_le o t with y | y
    · exact y
    · have a := ltAt_le hs hd z y
      have b := h.1
      unfold ltAt at a
      omega
def rkW (s : Sh) (w : Str) (side F S d : Int) : Int := upq w side F (rv s F * d) ((rv s F + rv s (F + 1)) * d) S
structure RndR (sh : Sh) (w : Str) (side S d : Int) (x : Nm) (fl : List Str) (F : Int) : Prop where
  f0 : 0 ≤ F
  lo : rv sh F * d ≤ S
  hi : S < rv sh (F + 1) * d
  out : (topRank sh ≤ rkW sh w side F S d ∧ x = overN sh w side ∧ fl = (["inexact", "overflow"] : List Str)) ∨
    (rkW sh w side F S d < topRank sh ∧ x.Fin ∧ x.sh = sh ∧ x.side = side ∧ rkOf x = rkW sh w side F S d ∧ fl = if S = rv sh F * d then [] else if F < Hs sh then (["inexact", "underflow"] : List Str) else ["inexact"])
theorem rnd_rk {n d : Int} {sh : Sh} {w : Str} {sign : Int} {x : Nm} {fl : List Str} (hn : n ≠ 0) (hd : 0 < d) (hok : sh.Ok) (hw : W5 w) (h : RndIs n d sh w sign x fl) : ∃ F, RndR sh w (sideOf n) (big n) d x fl F := by
  obtain ⟨p1, p2', l1, l2, h1, h2⟩ := id hok
  rcases h with ⟨h, _⟩ | ⟨_, o, ho, hf⟩
  · exact absurd h hn
  obtain ⟨r1, r2, r3, r4, r5⟩ := rs_b (w := w) hn hd hok ho
  have hE : -1100 ≤ rsE sh o := by omega
  have hs := rs_scale' (n := n) (d := d) hE
  have hu : 0 < rsUnder d (rsE sh o) := Int.mul_pos hd (p2 _)
  have hv : 0 < rsOver (absI n) (rsE sh o) := Int.mul_pos (absI_pos hn) (p2 _)
  have hb1 := rs_below (sh := sh) ho hd (by omega)
  have hb2 : sh.lo < rsE sh o → Hs sh * rsUnder d (rsE sh o) ≤ rsOver (absI n) (rsE sh o) := fun y => rs_above (sh := sh) ho (by omega) y
  have hq := whole_q (v := rsOver (absI n) (rsE sh o)) (u := rsUnder d (rsE sh o)) (w := w) (side := sideOf n) (Int.le_of_lt hv) hu (side_01 n) hw
  change rsB n d (rsE sh o) w = _ at hq
  -- underflow
  have hund : rsE sh o = sh.lo → (o < sh.p - 1 + sh.lo ↔ rsOver (absI n) (rsE sh o) < Hs sh * rsUnder d (rsE sh o)) := fun e => by
    rw [halv_lt (Int.le_of_lt (absI_pos hn)) hd ho, e]
    unfold ltAt rsOver rsUnder Hs
    have z : sh.lo.toNat = 0 := by omega
    rw [z, Int.pow_zero, Int.mul_one]
    rcases Int.lt_or_le (sh.p - 1 + sh.lo) 0 with y | y
    · have e1 : (sh.p - 1 + sh.lo).toNat = 0 := by omega
      have e2 : (-sh.lo).toNat = (-(sh.p - 1 + sh.lo)).toNat + (sh.p - 1).toNat := by omega
      rw [e1, e2, p2_add, Int.pow_zero, Int.mul_one, ← Int.mul_assoc, Int.mul_comm _ d]
      exact ⟨fun k => Int.mul_lt_mul_of_pos_right k (p2 _), fun k => Int.lt_of_mul_lt_mul_right k (Int.le_of_lt (p2 _))⟩
    · have e1 : (-(sh.p - 1 + sh.lo)).toNat = 0 := by omega
      have e2 : (sh.p - 1).toNat = (sh.p - 1 + sh.lo).toNat + (-sh.lo).toNat := by omega
      rw [e1, e2, p2_add, Int.pow_zero, Int.mul_one, Int.mul_comm _ d, ← Int.mul_assoc]
      exact ⟨fun k => Int.mul_lt_mul_of_pos_right k (p2 _), fun k => Int.lt_of_mul_lt_mul_right k (Int.le_of_lt (p2 _))⟩
  have hund2 : sh.lo < rsE sh o → ¬ o < sh.p - 1 + sh.lo := fun e => by
    unfold rsE at e
    split at e <;> omega
  unfold rsFun at hf
  have hW : 0 < sc (rsE sh o) * d := Int.mul_pos (sc_pos _) hd
  have hH2 := Hs_two hok
  have hHe := Hs_even hok
  have hp := half_p hok
  change _ = 2 * Hs sh at hp
  generalize hEe : rsE sh o = E at *
  generalize rsB n d E w = b at *
  generalize rsOver (absI n) E = v at *
  generalize rsUnder d E = u at *
  generalize big n = S at *
  generalize hHH : Hs sh = H at *
  obtain ⟨q, r, e, q1, q2, q3, q4⟩ := wholeOf_parts v hu
  rw [q3] at hq
  have q0 : 0 ≤ q := by
    rw [← q3]
    exact Int.ediv_nonneg (Int.le_of_lt hv) (Int.le_of_lt hu)
  have qlt : q < 2 * H := by
    rw [hp] at hb1
    have : u * q < u * (2 * H) := by rw [Int.mul_comm u (2 * H)]; omega
    exact Int.lt_of_mul_lt_mul_left this (Int.le_of_lt hu)
  have qge : sh.lo < E → H ≤ q := fun z => by
    have := hb2 z
    have : u * H < u * (q + 1) := by rw [Int.mul_comm u H, Int.mul_add]; omega
    have := Int.lt_of_mul_lt_mul_left this (Int.le_of_lt hu)
    omega
  have ev1 : rv sh (q + (E - sh.lo) * H) = q * sc E := by
    have := rv_of (e := E) (b := q) hok q0 (by omega) r4 (by rw [hHH]; exact qge)
    rw [hHH] at this
    exact this
  have ev2 : rv sh (q + (E - sh.lo) * H + 1) = (q + 1) * sc E := by
    have := rv_of (e := E) (b := q + 1) hok (by omega) (by omega) r4 (by rw [hHH]; intro z; have := qge z; omega)
    rw [hHH] at this
    rw [← this]
    congr 1
    omega
  -- v * W = S * u
  have cmp : ∀ k : Int, (k * (sc E * d) ≤ S ↔ k * u ≤ v) ∧ (S < k * (sc E * d) ↔ v < k * u) ∧ (S = k * (sc E * d) ↔ v = k * u) := fun k => by
    generalize hWW : sc E * d = W at *
    have a : (k * W - S) * u = (k * u - v) * W := by
      rw [Int.sub_mul, Int.sub_mul, ← hs, Int.mul_assoc, Int.mul_comm W u, ← Int.mul_assoc]
    rcases Int.lt_trichotomy (k * u) v with z | z | z
    · have : (k * u - v) * W < 0 := Int.mul_neg_of_neg_of_pos (by omega) hW
      have : k * W - S < 0 := by
        rcases Int.lt_or_le (k * W - S) 0 with y | y
        · exact y
        · have := Int.mul_nonneg y (Int.le_of_lt hu)
          omega
      omega
    · have : (k * u - v) * W = 0 := by rw [z, Int.sub_self, Int.zero_mul]
      rw [this] at a
      rcases Int.mul_eq_zero.mp a with y | y <;> omega
    · have : 0 < (k * u - v) * W := Int.mul_pos (by omega) hW
      have : 0 < k * W - S := by
        rcases Int.lt_or_le 0 (k * W - S) with y | y
        · exact y
        · have := Int.mul_nonpos_of_nonpos_of_nonneg y (Int.le_of_lt hu)
          omega
      omega
  have cmp2 : ∀ k : Int, (2 * S < k * (sc E * d) ↔ 2 * v < k * u) ∧ (k * (sc E * d) < 2 * S ↔ k * u < 2 * v) := fun k => by
    generalize hWW : sc E * d = W at *
    have a : (k * W - 2 * S) * u = (k * u - 2 * v) * W := by
      rw [Int.sub_mul, Int.sub_mul, Int.mul_assoc 2 S, ← hs, Int.mul_assoc k, Int.mul_comm W u, ← Int.mul_assoc k, Int.mul_assoc 2 v]
    rcases Int.lt_trichotomy (k * u) (2 * v) with z | z | z
    · have : (k * u - 2 * v) * W < 0 := Int.mul_neg_of_neg_of_pos (by omega) hW
      have : k * W - 2 * S < 0 := by
        rcases Int.lt_or_le (k * W - 2 * S) 0 with y | y
        · exact y
        · have := Int.mul_nonneg y (Int.le_of_lt hu)
          omega
      omega
    · have : (k * u - 2 * v) * W = 0 := by rw [z, Int.sub_self, Int.zero_mul]
      rw [this] at a
      rcases Int.mul_eq_zero.mp a with y | y <;> omega
    · have : 0 < (k * u - 2 * v) * W := Int.mul_pos (by omega) hW
      have : 0 < k * W - 2 * S := by
        rcases Int.lt_or_le 0 (k * W - 2 * S) with y | y
        · exact y
        · have := Int.mul_nonpos_of_nonpos_of_nonneg y (Int.le_of_lt hu)
          omega
      omega
  have hR : rkW sh w (sideOf n) (q + (E - sh.lo) * H) S d = b + (E - sh.lo) * H := by
    unfold rkW
    rw [ev1, ev2, hq]
    have m1 : (q * sc E + (q + 1) * sc E) * d = (2 * q + 1) * (sc E * d) := by
      rw [← Int.add_mul, Int.mul_assoc]
      congr 1
      omega
    rw [m1, Int.mul_assoc q]
    have := upq_eq (w := w) (side := sideOf n) (q := q + (E - sh.lo) * H) (q' := q) (cmp q).2.2 (cmp2 (2 * q + 1)).1 (cmp2 (2 * q + 1)).2 (by
      obtain ⟨j, hj⟩ : ∃ j, H = 2 * j := ⟨H / 2, by omega⟩
      rw [hj, Int.mul_comm 2 j, ← Int.mul_assoc]
      omega)
    omega
  have bq : b = q ∨ b = q + 1 := by
    rw [hq]
    rcases upq_or (w := w) (side := sideOf n) (q := q) (a := q * u) (m := (2 * q + 1) * u) (S := v) with z | ⟨z, _⟩
    · exact .inl z
    · exact .inr z
  have fl_eq : (if ¬ b * u = v then (if o < sh.p - 1 + sh.lo then (["inexact", "underflow"] : List Str) else ["inexact"]) else []) = (if S = rv sh (q + (E - sh.lo) * H) * d then [] else if q + (E - sh.lo) * H < H then (["inexact", "underflow"] : List Str) else ["inexact"]) := by
    rw [ev1, Int.mul_assoc]
    have x1 : b * u = v ↔ S = q * (sc E * d) := by
      rw [(cmp q).2.2]
      constructor
      · intro z
        rcases bq with y | y
        · rw [← y, z]
        · rw [y, Int.add_mul, Int.one_mul, Int.mul_comm q u] at z
          omega
      · intro z
        have : b = q := by
          rw [hq]
          unfold upq
          rw [if_pos (.inl z)]
        rw [this, z]
    have x2 : o < sh.p - 1 + sh.lo ↔ q + (E - sh.lo) * H < H := by
      rcases Int.lt_or_le sh.lo E with z | z
      · have y1 := qge z
        have y2 := Int.mul_le_mul_of_nonneg_right (show 1 ≤ E - sh.lo by omega) (show 0 ≤ H by omega)
        have := hund2 z
        omega
      · have z' : E = sh.lo := by omega
        rw [hund z', z', Int.sub_self, Int.zero_mul, Int.add_zero]
        constructor
        · intro y
          have : u * q < u * H := by rw [Int.mul_comm u H]; omega
          exact Int.lt_of_mul_lt_mul_left this (Int.le_of_lt hu)
        · intro y
          have : u * (q + 1) ≤ u * H := Int.mul_le_mul_of_nonneg_left (by omega) (Int.le_of_lt hu)
          rw [Int.mul_add, Int.mul_comm u H] at this
          omega
    simp only [x1, x2]
    by_cases c : S = q * (sc E * d)
    · simp [c]
    · simp [c]
  have EH := Int.mul_nonneg (show 0 ≤ E - sh.lo by omega) (show 0 ≤ H by omega)
  have over : sh.hi < E ∨ (b = 2 * H ∧ sh.hi < E + 1) → topRank sh ≤ b + (E - sh.lo) * H := fun z => by
    unfold topRank
    change (sh.hi - sh.lo + 2) * Hs sh ≤ _
    rw [hHH]
    rcases z with z | ⟨z, y⟩
    · have y1 := qge (by omega)
      have y2 := Int.mul_le_mul_of_nonneg_right (show sh.hi - sh.lo + 1 ≤ E - sh.lo by omega) (show 0 ≤ H by omega)
      rw [Int.add_mul] at y2 ⊢
      omega
    · have y2 := Int.mul_le_mul_of_nonneg_right (show sh.hi - sh.lo ≤ E - sh.lo by omega) (show 0 ≤ H by omega)
      rw [Int.add_mul]
      omega
  have fin : ∀ b' E', (finN sh (sideOf n) b' E').Fin → b' + (E' - sh.lo) * H = b + (E - sh.lo) * H → b + (E - sh.lo) * H < topRank sh ∧ rkOf (finN sh (sideOf n) b' E') = b + (E - sh.lo) * H := fun b' E' f z => by
    have y : rkOf (finN sh (sideOf n) b' E') = b + (E - sh.lo) * H := by
      unfold rkOf
      show b' + (E' - sh.lo) * Hs sh = _
      rw [hHH]
      exact z
    have := (fin_rk f).2.1
    rw [y] at this
    exact ⟨this, y⟩
  refine ⟨q + (E - sh.lo) * H, ⟨by omega, ?_, ?_, ?_⟩⟩
  · rw [ev1, Int.mul_assoc, (cmp q).1, Int.mul_comm]
    omega
  · rw [ev2, Int.mul_assoc, (cmp (q + 1)).2.1, Int.add_mul, Int.mul_comm q u]
    omega
  · rw [hR]
    unfold rsFin at hf
    by_cases c : b = 2 ^ sh.p.toNat
    · rw [if_pos c] at hf
      rw [hp] at c
      split at hf
      · injection hf with f1 f2
        exact .inl ⟨over (.inr ⟨c, by omega⟩), f1.symm, f2.symm⟩
      · rename_i ho2
        injection hf with f1 f2
        rw [fl_eq] at f2
        have ff : (finN sh (sideOf n) (b / 2) (E + 1)).Fin := ⟨hok, side0 n, side1 n, by show 0 ≤ b / 2; omega, by show b / 2 < 2 ^ sh.p.toNat; rw [hp]; omega, by show sh.lo ≤ E + 1; omega, by show E + 1 ≤ sh.hi; omega, fun _ => by show Hs sh ≤ b / 2; rw [hHH]; omega, rfl⟩
        obtain ⟨y1, y2⟩ := fin _ _ ff (by rw [show E + 1 - sh.lo = E - sh.lo + 1 by omega, Int.add_mul]; omega)
        right
        rw [← f1]
        refine ⟨y1, ff, rfl, rfl, y2, ?_⟩
        rw [hHH]
        exact f2.symm
    · rw [if_neg c] at hf
      rw [hp] at c
      split at hf
      · rename_i ho2
        injection hf with f1 f2
        exact .inl ⟨over (.inl ho2), f1.symm, f2.symm⟩
      · rename_i ho2
        injection hf with f1 f2
        rw [fl_eq] at f2
        have ff : (finN sh (sideOf n) b E).Fin := ⟨hok, side0 n, side1 n, r1, by show b < 2 ^ sh.p.toNat; rw [hp]; omega, r4, by show E ≤ sh.hi; omega, fun z => by show Hs sh ≤ b; rw [hHH]; have := qge z; omega, rfl⟩
        obtain ⟨y1, y2⟩ := fin _ _ ff rfl
        right
        rw [← f1]
        refine ⟨y1, ff, rfl, rfl, y2, ?_⟩
        rw [hHH]
        exact f2.symm
end DW
namespace DW
open PySem PySem.Spec PyProof.Rows L2
/-! ### ranks of what is rounded -/
section
variable {s : Sh} {w : Str} {side S d S1 d1 S2 d2 F F1 F2 : Int} {x x1 x2 : Nm} {fl fl1 fl2 : List Str}
theorem fl_le (hok : s.Ok) (h1 : 0 < d1) (h2 : 0 < d2) (f1 : 0 ≤ F1) (f2 : 0 ≤ F2) (a : rv s F1 * d1 ≤ S1) (b : S2 < rv s (F2 + 1) * d2) (h : S1 * d2 ≤ S2 * d1) : F1 ≤ F2 := by
  rcases Int.lt_or_le F2 F1 with z | z
  · exfalso
    have e1 := rv_le hok (show 0 ≤ F2 + 1 by omega) (show F2 + 1 ≤ F1 by omega)
    have e2 := Int.mul_le_mul_of_nonneg_right a (Int.le_of_lt h2)
    have e3 := Int.mul_lt_mul_of_pos_right b h1
    have e4 := Int.mul_le_mul_of_nonneg_right (Int.mul_le_mul_of_nonneg_right e1 (Int.le_of_lt h1)) (Int.le_of_lt h2)
    rw [Int.mul_assoc _ d2 d1, Int.mul_comm d2 d1, ← Int.mul_assoc] at e3
    omega
  · exact z
theorem fl_uniq (hok : s.Ok) (h1 : 0 < d) (f1 : 0 ≤ F1) (f2 : 0 ≤ F2) (a1 : rv s F1 * d ≤ S) (b1 : S < rv s (F1 + 1) * d) (a2 : rv s F2 * d ≤ S) (b2 : S < rv s (F2 + 1) * d) : F1 = F2 := by
  have := fl_le hok h1 h1 f1 f2 a1 b2 (Int.le_refl _)
  have := fl_le hok h1 h1 f2 f1 a2 b1 (Int.le_refl _)
  omega
def crk (s : Sh) (w : Str) (side R : Int) : Int := if topRank s ≤ R then (if dnw w side then topRank s - 1 else topRank s) else R
theorem crk_mono {R R' : Int} (h : R ≤ R') : crk s w side R ≤ crk s w side R' := by
  unfold crk
  repeat' split
  all_goals omega
def mrk (x : Nm) : Int := if x.st = "infinite" then topRank x.sh else rkOf x
def srk (x : Nm) : Int := if x.side = 1 then -(mrk x) else mrk x
theorem mrk_fin (h : x.Fin) : mrk x = rkOf x := by
  unfold mrk
  rw [h.st, if_neg (by decide +kernel)]
theorem mrk_inf : mrk (infN s side) = topRank s := by
  unfold mrk
  exact if_pos rfl
theorem mrk_great (hok : s.Ok) (s1 : 0 ≤ side) (s2 : side ≤ 1) : mrk (greatN s side) = topRank s - 1 := by
  rw [mrk_fin (fin_great hok s1 s2)]
  unfold rkOf topRank
  have hp := half_p hok
  show 2 ^ s.p.toNat - 1 + (s.hi - s.lo) * Hs s = _
  rw [hp, Int.add_mul]
  change _ = _ + 2 * Hs s - 1
  change 2 * Hs s - 1 + _ = _
  generalize (s.hi - s.lo) * Hs s = A
  change _ = A + _ - _
  omega
theorem over_or : overN s w side = if dnw w side then greatN s side else infN s side := rfl
structure RndM (s : Sh) (w : Str) (side S d : Int) (x : Nm) (fl : List Str) (F : Int) : Prop where
  f0 : 0 ≤ F
  lo : rv s F * d ≤ S
  hi : S < rv s (F + 1) * d
  sh : x.sh = s
  sd : x.side = side
  or : x.Fin ∨ x = infN s side
  rk : mrk x = crk s w side (rkW s w side F S d)
  fl : fl = if topRank s ≤ rkW s w side F S d then (["inexact", "overflow"] : List Str) else if S = rv s F * d then [] else if F < Hs s then (["inexact", "underflow"] : List Str) else ["inexact"]
theorem RndR.m (hok : s.Ok) (s1 : 0 ≤ side) (s2 : side ≤ 1) (h : RndR s w side S d x fl F) : RndM s w side S d x fl F := by
  rcases h.out with ⟨a, rfl, c⟩ | ⟨a, f, b, c, e, g⟩
  · refine ⟨h.f0, h.lo, h.hi, ?_, ?_, ?_, ?_, ?_⟩
    · rw [over_or]
      split <;> rfl
    · rw [over_or]
      split <;> rfl
    · rw [over_or]
      split
      · exact .inl (fin_great hok s1 s2)
      · exact .inr rfl
    · unfold crk
      rw [if_pos a, over_or]
      split
      · exact mrk_great hok s1 s2
      · exact mrk_inf
    · rw [if_pos a, c]
  · refine ⟨h.f0, h.lo, h.hi, b, c, .inl f, ?_, ?_⟩
    · unfold crk
      rw [if_neg (by omega), mrk_fin f, e]
    · rw [if_neg (by omega), g]
theorem rnd_m {n sign : Int} (hn : n ≠ 0) (hd : 0 < d) (hok : s.Ok) (hw : W5 w) (h : RndIs n d s w sign x fl) : ∃ F, RndM s w (sideOf n) (big n) d x fl F := by
  obtain ⟨F, r⟩ := rnd_rk hn hd hok hw h
  exact ⟨F, r.m hok (side0 n) (side1 n)⟩
theorem rkW_mono (hok : s.Ok) (h1 : 0 < d1) (h2 : 0 < d2) (f1 : 0 ≤ F1) (f2 : 0 ≤ F2) (a1 : rv s F1 * d1 ≤ S1) (a2 : rv s F2 * d2 ≤ S2) (b2 : S2 < rv s (F2 + 1) * d2) (h : S1 * d2 ≤ S2 * d1) : rkW s w side F1 S1 d1 ≤ rkW s w side F2 S2 d2 := by
  have hF := fl_le hok h1 h2 f1 f2 a1 b2 h
  have o1 := upq_or (w := w) (side := side) (q := F1) (a := rv s F1 * d1) (m := (rv s F1 + rv s (F1 + 1)) * d1) (S := S1)
  have o2 := upq_or (w := w) (side := side) (q := F2) (a := rv s F2 * d2) (m := (rv s F2 + rv s (F2 + 1)) * d2) (S := S2)
  unfold rkW
  rcases Int.lt_or_le F1 F2 with z | z
  · omega
  · have e : F1 = F2 := by omega
    subst e
    generalize rv s F1 = A at *
    generalize rv s (F1 + 1) = B at *
    have k1 : S1 ≠ A * d1 → S2 ≠ A * d2 := fun y y' => by
      have : A * d1 < S1 := by omega
      have := Int.mul_lt_mul_of_pos_right this h2
      rw [y'] at h
      rw [Int.mul_assoc A d1 d2, Int.mul_comm d1 d2, ← Int.mul_assoc] at this
      omega
    have k2 : ¬ 2 * S1 < (A + B) * d1 → ¬ 2 * S2 < (A + B) * d2 := fun y y' => by
      have e1 := Int.mul_le_mul_of_nonneg_right (show (A + B) * d1 ≤ 2 * S1 by omega) (Int.le_of_lt h2)
      have e2 := Int.mul_lt_mul_of_pos_right y' h1
      rw [Int.mul_assoc _ d1 d2, Int.mul_comm d1 d2, ← Int.mul_assoc, Int.mul_assoc 2 S1] at e1
      rw [Int.mul_assoc 2 S2] at e2
      omega
    have k3 : (A + B) * d1 < 2 * S1 → (A + B) * d2 < 2 * S2 := fun y => by
      rcases Int.lt_or_le ((A + B) * d2) (2 * S2) with y' | y'
      · exact y'
      · exfalso
        have e1 := Int.mul_lt_mul_of_pos_right y h2
        have e2 := Int.mul_le_mul_of_nonneg_right y' (Int.le_of_lt h1)
        rw [Int.mul_assoc _ d1 d2, Int.mul_comm d1 d2, ← Int.mul_assoc, Int.mul_assoc 2 S1] at e1
        rw [Int.mul_assoc 2 S2] at e2
        omega
    unfold upq
    by_cases c1 : S1 = A * d1 ∨ dnw w side
    · rw [if_pos c1]
      repeat' split
      all_goals omega
    · rw [if_neg c1]
      have c2 : ¬ (S2 = A * d2 ∨ dnw w side) := fun y => by
        rcases y with y | y
        · exact k1 (fun q => c1 (.inl q)) y
        · exact c1 (.inr y)
      rw [if_neg c2]
      by_cases c3 : upw w side
      · rw [if_pos c3, if_pos c3]
        exact Int.le_refl _
      · rw [if_neg c3, if_neg c3]
        by_cases c4 : 2 * S1 < (A + B) * d1
        · rw [if_pos c4]
          repeat' split
          all_goals omega
        · rw [if_neg c4, if_neg (k2 c4)]
          by_cases c5 : (A + B) * d1 < 2 * S1
          · rw [if_pos c5, if_pos (k3 c5)]
            exact Int.le_refl _
          · rw [if_neg c5]
            repeat' split
            all_goals omega
theorem RndM.mono (hok : s.Ok) (h1 : 0 < d1) (h2 : 0 < d2) (r1 : RndM s w side S1 d1 x1 fl1 F1) (r2 : RndM s w side S2 d2 x2 fl2 F2) (h : S1 * d2 ≤ S2 * d1) : mrk x1 ≤ mrk x2 := by
  rw [r1.rk, r2.rk]
  exact crk_mono (rkW_mono hok h1 h2 r1.f0 r2.f0 r1.lo r2.lo r2.hi h)
end
end DW
namespace DW
open PySem PySem.Spec PyProof.Rows L2
/-! ### zip -/
def zipped : List D → List D → List D
  | a :: l, b :: m => .tup [a, b] :: zipped l m
  | _, _ => []
def zipI (l : List D) (S : Sto) : R Itm := match l with
  | [d, e] => match d.rseq S, e.rseq S with
    | some l, some m => .ok ⟨fun S => d.rseq S = some l ∧ e.rseq S = some m, zipped l m⟩ S
    | _, _ => .bad
  | _ => .bad
def iZipD (fr : FA) : FI := fun δ S => (fr δ S).bind zipI
section
variable {c : Cc} {X : Cx} {W : WX} {a a2 : Expr} {fr : FA} {pos : Pos}
end
/-! ### walking on: loops over what is written -/
section
variable {x : Option D} {δ : Dl} {S : Sto} {fr : FA} {l m acc : List D} {d e : D} {src : Sto → Prop} {vs : List Nat} {tt : FT} {fe : FE} {g : FG} {fb : FS} {i : Nat} {is : List Nat} {fa fc : FE}
theorem v_zip : iZipD fr (x :: δ) S = (fr (x :: δ) S).bind zipI := rfl
theorem v_zipL : zipI [.lst l, .lst m] S = .ok ⟨fun S => (D.lst l).rseq S = some l ∧ (D.lst m).rseq S = some m, zipped l m⟩ S := rfl
theorem s_lst : ((D.lst l).seq S = some l) = True := eq_true rfl
theorem s_tup : ((D.tup l).seq S = some l) = True := eq_true rfl
theorem s_scr : ((D.scr l).seq S = some l) = True := eq_true rfl
theorem s_rlst : ((D.lst l).rseq S = some l) = True := eq_true rfl
theorem s_rscr : ((D.scr l).rseq S = some l) = True := eq_true rfl
noncomputable def repL (d e : D) (S : Sto) : R (List D) := match d.lseq S, e with
  | some l, .int k => .chk (-(2 ^ 63) ≤ k ∧ k < 2 ^ 63 ∧ l.length * k.toNat ≤ sizeLine) (.ok (List.replicate k.toNat l).flatten S)
  | _, _ => .bad
theorem v_rep : repF fa fc (x :: δ) S = (fa (x :: δ) S).bind fun d S => (fc (x :: δ) S).bind fun e S => repL d e S := rfl
theorem v_repL {k : Int} : repL (.lst l) (.int k) S = .chk (-(2 ^ 63) ≤ k ∧ k < 2 ^ 63 ∧ l.length * k.toNat ≤ sizeLine) (.ok (List.replicate k.toNat l).flatten S) := rfl
noncomputable def catL (d e : D) (S : Sto) : R (List D) := match d.lseq S, e.lseq S with
  | some l, some m => .chk (l.length + m.length ≤ sizeLine) (.ok (l ++ m) S)
  | _, _ => .bad
theorem v_cat : catF fa fc (x :: δ) S = (fa (x :: δ) S).bind fun d S => (fc (x :: δ) S).bind fun e S => catL d e S := rfl
theorem v_catL : catL (.lst l) (.lst m) S = .chk (l.length + m.length ≤ sizeLine) (.ok (l ++ m) S) := rfl
def allL (l : List D) (S : Sto) : R D := match allB l with
  | some bs => .ok (.bl (bs.all id)) S
  | none => .bad
theorem o_all : allD [.lst l] S = allL l S := rfl
theorem allB_c {b : Bool} : allB (.bl b :: l) = (allB l).map (b :: ·) := rfl
theorem o_all_n : allL [] S = .ok (.bl true) S := rfl
theorem o_all_c {b : Bool} : allL (.bl b :: l) S = (allL l S).bind fun d S => .ok (.bl (b && (match d with | .bl c => c | _ => false))) S := by
  unfold allL
  rw [allB_c]
  cases allB l <;> rfl
end
/-! ### each of a list with each of another -/
inductive AllR {α β : Type} (P : α → β → Prop) : List α → List β → Prop
  | nil : AllR P [] []
  | cons {a : α} {b : β} {l : List α} {m : List β} (h : P a b) (t : AllR P l m) : AllR P (a :: l) (b :: m)
theorem AllR.length {α β : Type} {P : α → β → Prop} {l : List α} {m : List β} (h : AllR P l m) : m.length = l.length := by
  induction h with
  | nil => rfl
  | cons _ _ ih => simp [ih]
theorem AllR.get {α β : Type} {P : α → β → Prop} {l : List α} {m : List β} (h : AllR P l m) : ∀ (i : Nat) (a : α), l[i]? = some a → ∃ b, m[i]? = some b ∧ P a b := by
  induction h with
  | nil => intro i a e; simp at e
  | cons p _ ih =>
    intro i a e
    cases i with
    | zero =>
      simp at e
      subst e
      exact ⟨_, rfl, p⟩
    | succ i =>
      simp at e
      simpa using ih i a e
noncomputable def lmR (g : D → List D → Sto → R D) (r : Sto → R (List D)) (x : D) (S : Sto) : R D := match x.rseq S with
  | some _ => (r S).bind fun vs S => g x vs S
  | none => .bad
theorem v_lm {g : D → List D → Sto → R D} {fo : FE} {fr : FA} {x : Option D} {δ : Dl} {S : Sto} : eLm g fo fr (x :: δ) S = (fo (x :: δ) S).bind (lmR g fun S => fr (x :: δ) S) := rfl
theorem lm_top {g : D → List D → Sto → R D} {r : Sto → R (List D)} {T : Sto} {l : List D} : lmR g r (.ref T.length) (T ++ [.lst l]) = (r (T ++ [.lst l])).bind fun vs S => g (.ref T.length) vs S := by
  unfold lmR
  rw [top_rseq]
theorem app_top {T : Sto} {l : List D} {y : D} : appD (.ref T.length) [y] (T ++ [.lst l]) = .chk (l.length < sizeLine) (.ok .non (T ++ [.lst (l ++ [y])])) := by
  unfold appD
  dsimp only
  rw [top_get]
  dsimp only
  rw [show (T ++ [Ob.lst l]).set T.length (Ob.lst (l ++ [y])) = T ++ [Ob.lst (l ++ [y])] by simp]
end DW
namespace DW
open PySem PySem.Spec PyProof.Rows L2
/-! ### what is rounded: alike, to itself -/
section
variable {s : Sh} {w w' : Str} {n d side sd : Int} {x y x' : Nm} {fl fl' : List Str}
def FinInf (s : Sh) (x : Nm) : Prop := x.sh = s ∧ 0 ≤ x.side ∧ x.side ≤ 1 ∧ (x.Fin ∨ x = infN s x.side)
theorem rnd_zero {sign : Int} (h : RndIs 0 d s w sign x fl) : x = finN s sign 0 s.lo ∧ fl = [] := by
  rcases h with ⟨_, a, b⟩ | ⟨h, _⟩
  · exact ⟨a, b⟩
  · exact absurd rfl h
def Mir (w w' : Str) : Prop := (w = "nearest" ∧ w' = "nearest") ∨ (w = "away" ∧ w' = "away") ∨ (w = "zero" ∧ w' = "zero") ∨ (w = "up" ∧ w' = "down") ∨ (w = "down" ∧ w' = "up")
theorem Mir.ways (h : Mir w w') : (dnw w 0 ↔ dnw w' 1) ∧ (upw w 0 ↔ upw w' 1) ∧ (w = "nearest" ↔ w' = "nearest") := by
  unfold dnw upw
  rcases h with ⟨rfl, rfl⟩ | ⟨rfl, rfl⟩ | ⟨rfl, rfl⟩ | ⟨rfl, rfl⟩ | ⟨rfl, rfl⟩
  all_goals
    refine ⟨?_, ?_, ?_⟩ <;> decide +kernel
end
/-! ### the order of what is rounded -/
section
variable {s : Sh} {w : Str} {n1 d1 n2 d2 : Int} {x1 x2 : Nm} {fl1 fl2 : List Str}
end
/-! ### the five ways -/
section
variable {s : Sh} {w : Str} {n d side S F : Int} {x : Nm} {fl : List Str}
theorem RndM.num (r : RndM s w side S d x fl F) : ∃ R, mrk x = (if topRank s ≤ R then (if dnw w side then topRank s - 1 else topRank s) else R) ∧ (dnw w side → R = F) ∧ (upw w side → ¬ dnw w side → R = if S = rv s F * d then F else F + 1) ∧ (R = F ∨ (R = F + 1 ∧ S ≠ rv s F * d)) ∧ (fl = [] ↔ ¬ topRank s ≤ R ∧ S = rv s F * d) := by
  refine ⟨rkW s w side F S d, r.rk, fun h => ?_, fun h h' => ?_, upq_or, ?_⟩
  · unfold rkW upq
    rw [if_pos (.inr h)]
  · unfold rkW upq
    by_cases c : S = rv s F * d
    · rw [if_pos (.inl c), if_pos c]
    · rw [if_neg (fun z => z.elim c h'), if_pos h, if_neg c]
  · rw [r.fl]
    by_cases c1 : topRank s ≤ rkW s w side F S d
    · simp [c1]
    · by_cases c2 : S = rv s F * d
      · simp [c1, c2]
      · simp only [c1, c2, if_false, not_false_eq_true, and_false, iff_false]
        split <;> simp
theorem vif {F T R : Int} (a : F < T) (b : R = F ∨ R = F + 1) : (if T ≤ R then T else R) = R := by split <;> omega
theorem five_fin {X0 X1 D U r0 r1 rd ru T F S A : Int} (e0 : X0 = (if T ≤ r0 then T else r0)) (e1 : X1 = (if T ≤ r1 then T else r1)) (eD : D = (if T ≤ rd then T - 1 else rd)) (eU : U = (if T ≤ ru then T else ru)) (h1 : rd = F) (h2 : ru = (if S = A then F else F + 1))
    (h3 : r0 = F ∨ (r0 = F + 1 ∧ S ≠ A)) (h4 : r1 = F ∨ (r1 = F + 1 ∧ S ≠ A)) : D ≤ X0 ∧ D ≤ X1 ∧ D ≤ U ∧ X0 ≤ U ∧ X1 ≤ U ∧ U - D ≤ 1 ∧ (U = D ↔ (¬ T ≤ r0 ∧ S = A) ∧ (¬ T ≤ r1 ∧ S = A) ∧ (¬ T ≤ rd ∧ S = A) ∧ (¬ T ≤ ru ∧ S = A)) := by
  subst h1
  rcases Int.lt_or_le rd T with c | c
  · rw [vif c (h3.imp id And.left)] at e0
    rw [vif c (h4.imp id And.left)] at e1
    rw [if_neg (Int.not_le.mpr c)] at eD
    subst e0 e1 eD
    by_cases cS : S = A
    · rw [if_pos cS] at h2
      rw [vif c (.inl h2)] at eU
      subst eU
      have h3 := h3.resolve_right fun z => z.2 cS
      have h4 := h4.resolve_right fun z => z.2 cS
      subst h2 h3 h4
      exact ⟨Int.le_refl _, Int.le_refl _, Int.le_refl _, Int.le_refl _, Int.le_refl _, by omega, fun _ => ⟨⟨by omega, cS⟩, ⟨by omega, cS⟩, ⟨by omega, cS⟩, ⟨by omega, cS⟩⟩, fun _ => rfl⟩
    · rw [if_neg cS] at h2
      rw [vif c (.inr h2)] at eU
      subst eU
      have h3 := h3.imp id And.left
      have h4 := h4.imp id And.left
      exact ⟨by omega, by omega, by omega, by omega, by omega, by omega, fun z => by omega, fun z => absurd z.1.2 cS⟩
  · have g0 : T ≤ r0 := by rcases h3 with z | ⟨z, _⟩ <;> omega
    have g1 : T ≤ r1 := by rcases h4 with z | ⟨z, _⟩ <;> omega
    have g2 : T ≤ ru := by rw [h2]; split <;> omega
    rw [if_pos g0] at e0
    rw [if_pos g1] at e1
    rw [if_pos g2] at eU
    rw [if_pos c] at eD
    subst e0 e1 eU eD
    exact ⟨by omega, by omega, by omega, by omega, by omega, by omega, fun z => by omega, fun z => absurd g0 z.1.1⟩
theorem five {x0 x1 x2 x3 x4 : Nm} {f0 f1 f2 f3 f4 : List Str} (hd : 0 < d) (hok : s.Ok) (r0 : RndIs n d s "nearest" 0 x0 f0) (r1 : RndIs n d s "away" 0 x1 f1) (r2 : RndIs n d s "zero" 0 x2 f2) (r3 : RndIs n d s "up" 0 x3 f3) (r4 : RndIs n d s "down" 0 x4 f4) :
    (srk x4 ≤ srk x0 ∧ srk x4 ≤ srk x1 ∧ srk x4 ≤ srk x2 ∧ srk x4 ≤ srk x3) ∧ (srk x0 ≤ srk x3 ∧ srk x1 ≤ srk x3 ∧ srk x2 ≤ srk x3) ∧ srk x3 - srk x4 ≤ 1 ∧ (srk x3 = srk x4 ↔ f0 = [] ∧ f1 = [] ∧ f2 = [] ∧ f3 = [] ∧ f4 = []) ∧ (0 < n → srk x2 = srk x4) ∧ (¬ 0 < n → srk x2 = srk x3) := by
  by_cases hz : n = 0
  · subst hz
    obtain ⟨rfl, rfl⟩ := rnd_zero r0
    obtain ⟨rfl, rfl⟩ := rnd_zero r1
    obtain ⟨rfl, rfl⟩ := rnd_zero r2
    obtain ⟨rfl, rfl⟩ := rnd_zero r3
    obtain ⟨rfl, rfl⟩ := rnd_zero r4
    simp
  · obtain ⟨F, m0⟩ := rnd_m hz hd hok (by simp [W5]) r0
    obtain ⟨F1, m1⟩ := rnd_m hz hd hok (by simp [W5]) r1
    obtain ⟨F2, m2⟩ := rnd_m hz hd hok (by simp [W5]) r2
    obtain ⟨F3, m3⟩ := rnd_m hz hd hok (by simp [W5]) r3
    obtain ⟨F4, m4⟩ := rnd_m hz hd hok (by simp [W5]) r4
    have e1 := fl_uniq hok hd m0.f0 m1.f0 m0.lo m0.hi m1.lo m1.hi
    have e2 := fl_uniq hok hd m0.f0 m2.f0 m0.lo m0.hi m2.lo m2.hi
    have e3 := fl_uniq hok hd m0.f0 m3.f0 m0.lo m0.hi m3.lo m3.hi
    have e4 := fl_uniq hok hd m0.f0 m4.f0 m0.lo m0.hi m4.lo m4.hi
    subst e1 e2 e3 e4
    obtain ⟨R0, k0, _, _, u0, g0⟩ := m0.num
    obtain ⟨R1, k1, _, _, u1, g1⟩ := m1.num
    obtain ⟨R2, k2, d2, _, u2, g2⟩ := m2.num
    obtain ⟨R3, k3, d3, p3, u3, g3⟩ := m3.num
    obtain ⟨R4, k4, d4, p4, u4, g4⟩ := m4.num
    rw [g0, g1, g2, g3, g4]
    unfold srk
    rw [m0.sd, m1.sd, m2.sd, m3.sd, m4.sd]
    have z0 : ∀ sd, ¬ dnw "nearest" sd := fun sd => ((w5_d (w := "nearest") (by simp [W5])).resolve_right (by decide +kernel)).2 sd |>.1
    have z1 : ∀ sd, ¬ dnw "away" sd := fun sd => ((w5_d (w := "away") (by simp [W5])).resolve_right (by decide +kernel)).2 sd |>.1
    have z2 : ∀ sd, dnw "zero" sd := fun sd => .inl rfl
    rw [if_neg (z0 _)] at k0
    rw [if_neg (z1 _)] at k1
    rw [if_pos (z2 _)] at k2
    have dd2 := d2 (z2 _)
    clear d2
    generalize hsd : sideOf n = sd at *
    rcases Int.lt_or_le 0 n with hn | hn
    · have es : sd = 0 := by rw [← hsd]; unfold sideOf; rw [if_neg (Int.not_lt.mpr (Int.le_of_lt hn))]
      subst es
      have y3 : upw "up" 0 := .inl ⟨rfl, rfl⟩
      have y3' : ¬ dnw "up" 0 := by decide +kernel
      have y4 : dnw "down" 0 := .inr (.inr ⟨rfl, rfl⟩)
      have p3' := p3 y3 y3'
      have d4' := d4 y4
      rw [if_neg y3'] at k3
      rw [if_pos y4] at k4
      have q := five_fin k0 k1 k4 k3 d4' p3' u0 u1
      have e : mrk x2 = mrk x4 := by rw [k2, k4, dd2, d4']
      have e' : R2 = R4 := by rw [dd2, d4']
      subst e'
      simp only [show ¬ (0 : Int) = 1 by decide, if_false]
      obtain ⟨q1, q2, q3, q4, q5, q6, q7⟩ := q
      clear k0 k1 k2 k3 k4 u0 u1 u2 u3 u4 g0 g1 g2 g3 g4
      refine ⟨⟨q1, q2, by omega, q3⟩, ⟨q4, q5, by omega⟩, q6, ?_, fun _ => e, fun z => absurd hn z⟩
      rw [q7]
      exact ⟨fun ⟨a, b, c, e⟩ => ⟨a, b, c, e, c⟩, fun ⟨a, b, c, e, f⟩ => ⟨a, b, c, e⟩⟩
    · have es : sd = 1 := by rw [← hsd]; unfold sideOf; rw [if_pos (Int.lt_iff_le_and_ne.mpr ⟨hn, hz⟩)]
      subst es
      have y3 : upw "down" 1 := .inr ⟨rfl, rfl⟩
      have y3' : ¬ dnw "down" 1 := by decide +kernel
      have y4 : dnw "up" 1 := .inr (.inl ⟨rfl, rfl⟩)
      have p4' := p4 y3 y3'
      have d3' := d3 y4
      rw [if_neg y3'] at k4
      rw [if_pos y4] at k3
      have q := five_fin k0 k1 k3 k4 d3' p4' u0 u1
      have e : mrk x2 = mrk x3 := by rw [k2, k3, dd2, d3']
      have e' : R2 = R3 := by rw [dd2, d3']
      subst e'
      simp only [if_true]
      obtain ⟨q1, q2, q3, q4, q5, q6, q7⟩ := q
      clear k0 k1 k2 k3 k4 u0 u1 u2 u3 u4 g0 g1 g2 g3 g4
      refine ⟨⟨by omega, by omega, by omega, by omega⟩, ⟨by omega, by omega, by omega⟩, by omega, ?_, fun z => by omega, fun z => by omega⟩
      have : (-mrk x3 = -mrk x4) ↔ (mrk x4 = mrk x3) := by omega
      rw [this, q7]
      exact ⟨fun ⟨a, b, c, e⟩ => ⟨a, b, c, c, e⟩, fun ⟨a, b, c, f, e⟩ => ⟨a, b, c, e⟩⟩
end
end DW
namespace DW
open PySem PySem.Spec PyProof.Rows L2
/-! ### the number of a rank -/
section
variable {s : Sh} {r sd : Int}
end
/-! ### fractions of so many parts of the least number -/
section
variable {s : Sh} {w : Str} {side fine k : Int} {x : Nm} {fl : List Str}
end
/-! ### more walking -/
theorem in_2 {u a b : Str} {S : Sto} : inD (.str u) (.tup [.str a, .str b]) S = .ok (.bl (decide (u = a ∨ u = b))) S := by
  have := o_inTS (u := u) (ss := [a, b]) (S := S)
  simpa using this
theorem in_3 {u a b c : Str} {S : Sto} : in1D (.str u) (.tup [.str a, .str b, .str c]) S = .ok (.bl (decide (u = a ∨ u = b ∨ u = c))) S := by
  have := o_inTS (u := u) (ss := [a, b, c]) (S := S)
  simpa [inD] using this
theorem o_notIn {d e : D} {S : Sto} : notInD d e S = (in1D d e S).bind notR := rfl
theorem isi_i {i : Int} {S : Sto} : isiD [.int i, .ty "int"] S = .ok (.bl true) S := rfl
theorem isi_b {i : Int} {S : Sto} : isiD [.int i, .ty "bool"] S = .ok (.bl false) S := rfl
theorem isi_t {l : List D} {S : Sto} : isiD [.tup l, .ty "tuple"] S = .ok (.bl true) S := rfl
theorem isi_s {u : Str} {S : Sto} : isiD [.str u, .ty "str"] S = .ok (.bl true) S := rfl
theorem isi_l {l : List D} {S : Sto} : isiD [.lst l, .ty "list"] S = .ok (.bl true) S := rfl
theorem isi_bi {b : Bool} {S : Sto} : isiD [.bl b, .ty "bool"] S = .ok (.bl true) S := rfl
section
variable {s : Sh} {w : Str} {side fine k r : Int} {x : Nm} {fl : List Str}
end
end DW
namespace DW
open PySem PySem.Spec PyProof.Rows L2
/-! ### a walk that looks at what is run, not at what comes behind -/
inductive Lk {α : Type} (Q : α → Sto → Prop) (E : Xc → Sto → Prop) : Type
  | a | b
inductive LkS (N : Dl → Sto → Prop) (T : D → Sto → Prop) (E : Xc → Dl → Sto → Prop) : Type
  | a | b
def wq {α : Type} (r : R α) (Q : α → Sto → Prop) (E : Xc → Sto → Prop) (_ : Lk Q E) : Prop := wp r Q E
def wqS (r : RS) (N : Dl → Sto → Prop) (T : D → Sto → Prop) (E : Xc → Dl → Sto → Prop) (_ : LkS N T E) : Prop := wpS r N T E
section
variable {α β : Type} {r : R α} {f : α → Sto → R β} {Q : α → Sto → Prop} {Qb : β → Sto → Prop} {E : Xc → Sto → Prop} {a : α} {s S : Sto} {e : Xc} {p : Prop}
theorem wq_of : wp r Q E = wq r Q E .a := rfl
theorem q_ok : wq (R.ok a s) Q E .a = Q a s := rfl
theorem q_ex : wq (R.ex e s : R α) Q E .a = E e s := rfl
theorem q_bad : wq (R.bad : R α) Q E .a = False := rfl
theorem q_bind : wq (r.bind f) Qb E .a = wq r (fun a s => wq (f a s) Qb E .a) E .a := wp_bind
theorem q_chk : wq (R.chk p r) Q E .a = (p ∧ wq r Q E .a) := wp_chk
theorem q_ite [Decidable p] {r' : R α} : wq (if p then r else r') Q E .a = if p then wq r Q E .a else wq r' Q E .a := wp_ite
theorem q_noX : wq r.noX Q E .a = wq r Q (fun _ _ => False) .a := wp_noX
end
section
variable {α : Type} {r : R α} {q : RS} {δ : Dl} {s S : Sto} {f : α → Sto → RS} {g : Dl → Sto → RS} {N : Dl → Sto → Prop} {T : D → Sto → Prop} {E : Xc → Dl → Sto → Prop} {p : Prop} {d : D} {e : Xc}
theorem qs_of : wpS q N T E = wqS q N T E .a := rfl
theorem qs_go : wqS (r.go δ f) N T E .a = wq r (fun a s => wqS (f a s) N T E .a) (fun e s => E e δ s) .a := wpS_go
theorem qs_seq : wqS (q.seq g) N T E .a = wqS q (fun δ s => wqS (g δ s) N T E .a) T E .a := wpS_seq
theorem qs_nx : wqS (.nx δ s) N T E .a = N δ s := rfl
theorem qs_rt : wqS (.rt d s) N T E .a = T d s := rfl
theorem qs_ex : wqS (.ex e δ s) N T E .a = E e δ s := rfl
theorem qs_bad : wqS .bad N T E .a = False := rfl
theorem qs_chk : wqS (chkS p q) N T E .a = (p ∧ wqS q N T E .a) := wpS_chk
theorem qs_ite [Decidable p] {q' : RS} : wqS (if p then q else q') N T E .a = if p then wqS q N T E .a else wqS q' N T E .a := wpS_ite
theorem qs_toN {r : R Dl} : wqS (toN r) N T E .a = wq r N (fun _ _ => False) .a := wpS_toN
theorem qs_goT {r : R Dl} {f : Dl → Sto → RS} : wqS (r.goT f) N T E .a = wq r (fun δ S => wqS (f δ S) N T E .a) (fun _ _ => False) .a := wpS_goT
theorem q_fn {n : Nat} {fb : FS} {ds : List D} {Q : D → Sto → Prop} {E : Xc → Sto → Prop} : wq (fnD n fb ds S) Q E .a = wqS (fb (ds.map some ++ List.replicate (n - ds.length) none) S) (fun _ S => Q .non S) Q (fun e _ S => E e S) .a := wp_fin
end
section
variable {δ : Dl} {S : Sto} {f g : FS} {fa fb fe : FE} {ft ga gb : FT} {fr fk : FA} {i j k n : Nat} {fl fh : FO} {fi : FI}
theorem c_e2 {gg : D → D → Sto → R D} {Q : D → Sto → Prop} {E : Xc → Sto → Prop} : wq (e2 gg fa fb δ S) Q E .a = wq (fa δ S) (fun a s => wq ((fun a S => (fb δ S).bind fun b S => gg a b S) a s) Q E .a) E .a := q_bind
theorem c_e1 {gg : D → Sto → R D} {Q : D → Sto → Prop} {E : Xc → Sto → Prop} : wq (e1 gg fa δ S) Q E .a = wq (fa δ S) (fun a s => wq ((gg) a s) Q E .a) E .a := q_bind
theorem c_eA {gg : List D → Sto → R D} {Q : D → Sto → Prop} {E : Xc → Sto → Prop} : wq (eA gg fr δ S) Q E .a = wq (fr δ S) (fun a s => wq ((gg) a s) Q E .a) E .a := q_bind
theorem c_fA {gg : List D → Sto → R (List D)} {Q : (List D) → Sto → Prop} {E : Xc → Sto → Prop} : wq (fA gg fr δ S) Q E .a = wq (fr δ S) (fun a s => wq ((gg) a s) Q E .a) E .a := q_bind
theorem c_aC  {Q : (List D) → Sto → Prop} {E : Xc → Sto → Prop} : wq (aCons fa fr δ S) Q E .a = wq (fa δ S) (fun a s => wq ((fun a S => (fr δ S).bind fun l S => .ok (a :: l) S) a s) Q E .a) E .a := q_bind
theorem c_call {m : FM} {src : List SrcD} {Q : D → Sto → Prop} {E : Xc → Sto → Prop} : wq (eCall m n k src fr fk δ S) Q E .a = wq (fr δ S) (fun a s => wq ((fun vs S => (fk δ S).bind fun zs S => .chk (vs.length = n ∧ zs.length = k) (m (srcD vs zs src) S)) a s) Q E .a) E .a := q_bind
theorem c_me {cn mn : Str} {m : FM} {src : List SrcD} {Q : D → Sto → Prop} {E : Xc → Sto → Prop} : wq (eMe cn mn m n src fa fr δ S) Q E .a = wq (fa δ S) (fun a s => wq ((meR cn mn m n src fun S => fr δ S) a s) Q E .a) E .a := q_bind
theorem c_frz  {Q : D → Sto → Prop} {E : Xc → Sto → Prop} : wq (eFrz fr δ S) Q E .a = wq (fr δ S) (fun a s => wq ((fun l S => .ok (.lst l) S) a s) Q E .a) E .a := q_bind
theorem c_mut  {Q : D → Sto → Prop} {E : Xc → Sto → Prop} : wq (eMut fr δ S) Q E .a = wq (fr δ S) (fun a s => wq ((fun l S => .ok (.ref S.length) (S ++ [.lst l])) a s) Q E .a) E .a := q_bind
theorem c_ifE  {Q : D → Sto → Prop} {E : Xc → Sto → Prop} : wq (eIf ft fa fb δ S) Q E .a = wq (ft δ S) (fun a s => wq ((fun b S => if b = true then fa δ S else fb δ S) a s) Q E .a) E .a := q_bind
theorem c_tst  {Q : Bool → Sto → Prop} {E : Xc → Sto → Prop} : wq (tst fa δ S) Q E .a = wq (fa δ S) (fun a s => wq ((asB) a s) Q E .a) E .a := q_bind
theorem c_tand  {Q : Bool → Sto → Prop} {E : Xc → Sto → Prop} : wq (tAndD ga gb δ S) Q E .a = wq (ga δ S) (fun a s => wq ((fun a S => if a = true then gb δ S else .ok false S) a s) Q E .a) E .a := q_bind
theorem c_tor  {Q : Bool → Sto → Prop} {E : Xc → Sto → Prop} : wq (tOrD ga gb δ S) Q E .a = wq (ga δ S) (fun a s => wq ((fun a S => if a = true then .ok true S else gb δ S) a s) Q E .a) E .a := q_bind
theorem c_tnot  {Q : Bool → Sto → Prop} {E : Xc → Sto → Prop} : wq (tNotD ga δ S) Q E .a = wq (ga δ S) (fun a s => wq ((fun a S => .ok (!a) S) a s) Q E .a) E .a := q_bind
theorem c_comp {p : Pt} {vs : List Nat} {tt : FT} {Q : (List D) → Sto → Prop} {E : Xc → Sto → Prop} : wq (fComp fi p vs tt fe δ S) Q E .a = wq (fi δ S) (fun a s => wq ((fun it S => compL it.src p vs tt fe δ it.items [] S) a s) Q E .a) E .a := q_bind
theorem c_seqI  {Q : Itm → Sto → Prop} {E : Xc → Sto → Prop} : wq (iSeq fa δ S) Q E .a = wq (fa δ S) (fun a s => wq ((seqI) a s) Q E .a) E .a := q_bind
theorem c_rng1  {Q : Itm → Sto → Prop} {E : Xc → Sto → Prop} : wq (iRange1 fr δ S) Q E .a = wq (fr δ S) (fun a s => wq ((rng1) a s) Q E .a) E .a := q_bind
theorem c_rng2  {Q : Itm → Sto → Prop} {E : Xc → Sto → Prop} : wq (iRange2 fr δ S) Q E .a = wq (fr δ S) (fun a s => wq ((rng2) a s) Q E .a) E .a := q_bind
theorem c_enum  {Q : Itm → Sto → Prop} {E : Xc → Sto → Prop} : wq (iEnumD fr δ S) Q E .a = wq (fr δ S) (fun a s => wq ((enumI) a s) Q E .a) E .a := q_bind
theorem c_zip  {Q : Itm → Sto → Prop} {E : Xc → Sto → Prop} : wq (iZipD fr δ S) Q E .a = wq (fr δ S) (fun a s => wq ((zipI) a s) Q E .a) E .a := q_bind
theorem c_mk {fz : Bool} {cn : Str} {m : FM} {src : List SrcD} {Q : D → Sto → Prop} {E : Xc → Sto → Prop} : wq (eMkB fz cn m n k src fr fk δ S) Q E .a = wq (fr δ S) (fun a s => wq ((fun vs S => (fk δ S).bind fun zs S => .chk (vs.length = n ∧ zs.length = k) (mkB fz cn m src vs zs S)) a s) Q E .a) E .a := q_bind
theorem c_slice  {Q : D → Sto → Prop} {E : Xc → Sto → Prop} : wq (eSlice fa fl fh δ S) Q E .a = wq (fa δ S) (fun a s => wq ((fun d S => (fl δ S).bind fun lo S => (fh δ S).bind fun hi S => sliceD d lo hi S) a s) Q E .a) E .a := q_bind
theorem c_oS  {Q : (Option Int) → Sto → Prop} {E : Xc → Sto → Prop} : wq (oSome fa δ S) Q E .a = wq (fa δ S) (fun a s => wq ((asI) a s) Q E .a) E .a := q_bind
theorem c_rep  {Q : (List D) → Sto → Prop} {E : Xc → Sto → Prop} : wq (repF fa fb δ S) Q E .a = wq (fa δ S) (fun a s => wq ((fun d S => (fb δ S).bind fun e S => repL d e S) a s) Q E .a) E .a := q_bind
theorem c_cat  {Q : (List D) → Sto → Prop} {E : Xc → Sto → Prop} : wq (catF fa fb δ S) Q E .a = wq (fa δ S) (fun a s => wq ((fun d S => (fb δ S).bind fun e S => catL d e S) a s) Q E .a) E .a := q_bind
theorem c_lm {gg : D → List D → Sto → R D} {Q : D → Sto → Prop} {E : Xc → Sto → Prop} : wq (eLm gg fa fr δ S) Q E .a = wq (fa δ S) (fun a s => wq ((lmR gg fun S => fr δ S) a s) Q E .a) E .a := q_bind
theorem c_set  {N : Dl → Sto → Prop} {T : D → Sto → Prop} {E : Xc → Dl → Sto → Prop} : wqS (sSet i fa δ S) N T E .a = wq (fa δ S) (fun a s => wqS ((fun d S => .nx (δ.set i (some d)) S) a s) N T E .a) (fun e s => E e δ s) .a := qs_go
theorem c_expr  {N : Dl → Sto → Prop} {T : D → Sto → Prop} {E : Xc → Dl → Sto → Prop} : wqS (sExpr fa δ S) N T E .a = wq (fa δ S) (fun a s => wqS ((fun _ S => .nx δ S) a s) N T E .a) (fun e s => E e δ s) .a := qs_go
theorem c_ret  {N : Dl → Sto → Prop} {T : D → Sto → Prop} {E : Xc → Dl → Sto → Prop} : wqS (sRet fa δ S) N T E .a = wq (fa δ S) (fun a s => wqS ((fun d S => .rt d S) a s) N T E .a) (fun e s => E e δ s) .a := qs_go
theorem c_if  {N : Dl → Sto → Prop} {T : D → Sto → Prop} {E : Xc → Dl → Sto → Prop} : wqS (sIf ft f g δ S) N T E .a = wq (ft δ S) (fun a s => wqS ((fun b S => if b = true then f δ S else g δ S) a s) N T E .a) (fun e s => E e δ s) .a := qs_go
theorem c_par  {N : Dl → Sto → Prop} {T : D → Sto → Prop} {E : Xc → Dl → Sto → Prop} : wqS (sPar i j fr δ S) N T E .a = wq (fr δ S) (fun a s => wqS ((par2 i j δ) a s) N T E .a) (fun e s => E e δ s) .a := qs_go
theorem c_par3  {N : Dl → Sto → Prop} {T : D → Sto → Prop} {E : Xc → Dl → Sto → Prop} : wqS (sPar3 i j k fr δ S) N T E .a = wq (fr δ S) (fun a s => wqS ((par3 i j k δ) a s) N T E .a) (fun e s => E e δ s) .a := qs_go
theorem c_asg {gg : FG} {N : Dl → Sto → Prop} {T : D → Sto → Prop} {E : Xc → Dl → Sto → Prop} : wqS (sAsg fa gg δ S) N T E .a = wq (fa δ S) (fun a s => wqS ((fun d S => toN (gg d δ S)) a s) N T E .a) (fun e s => E e δ s) .a := qs_go
theorem c_put {gg : D → D → D → Sto → R Unit} {fd fk fv : FE} {N : Dl → Sto → Prop} {T : D → Sto → Prop} {E : Xc → Dl → Sto → Prop} : wqS (sPut gg fd fk fv δ S) N T E .a = wq (fv δ S) (fun a s => wqS ((fun v S => (fd δ S).go δ fun d S => (fk δ S).go δ fun k S => (gg d k v S).go δ fun _ S => .nx δ S) a s) N T E .a) (fun e s => E e δ s) .a := qs_go
theorem c_fput {cn fn : Str} {fd fv : FE} {N : Dl → Sto → Prop} {T : D → Sto → Prop} {E : Xc → Dl → Sto → Prop} : wqS (sFput cn fn fd fv δ S) N T E .a = wq (fv δ S) (fun a s => wqS ((fun v S => (fd δ S).go δ fun d S => (fputD cn fn d v S).go δ fun _ S => .nx δ S) a s) N T E .a) (fun e s => E e δ s) .a := qs_go
theorem c_for {gg : FG} {fc : FS} {N : Dl → Sto → Prop} {T : D → Sto → Prop} {E : Xc → Dl → Sto → Prop} : wqS (sFor fi gg fc δ S) N T E .a = wq (fi δ S) (fun a s => wqS ((fun it S => forL it.src gg fc it.items δ S) a s) N T E .a) (fun e s => E e δ s) .a := qs_go
theorem c_and {Q : D → Sto → Prop} {E : Xc → Sto → Prop} : wq (eAnd fa fb δ S) Q E .a = wq (fa δ S) (fun a s => wq (andR (fun S => fb δ S) a s) Q E .a) E .a := by
  rw [← q_bind]
  congr 1
  unfold eAnd
  congr 1
  funext a S
  cases a <;> first | rfl | (rename_i b; cases b <;> rfl)
theorem c_or {Q : D → Sto → Prop} {E : Xc → Sto → Prop} : wq (eOr fa fb δ S) Q E .a = wq (fa δ S) (fun a s => wq (orR' (fun S => fb δ S) a s) Q E .a) E .a := by
  rw [← q_bind]
  congr 1
  unfold eOr
  congr 1
  funext a S
  cases a <;> first | rfl | (rename_i b; cases b <;> rfl)
theorem c_chain {gg gg' : D → D → Sto → R D} {Q : D → Sto → Prop} {E : Xc → Sto → Prop} : wq (eChain gg gg' fa fb fe δ S) Q E .a = wq (fa δ S) (fun a s => wq ((fb δ s).bind fun b S => (gg a b S).bind (andR fun S => (fe δ S).bind fun w S => gg' b w S)) Q E .a) E .a := by
  rw [← q_bind]
  congr 1
  unfold eChain
  congr 1
  funext a S
  congr 1
  funext b S
  congr 1
  funext z S
  cases z <;> first | rfl | (rename_i b; cases b <;> rfl)
theorem c_alt {p : Dl → Sto → Bool} {Q : D → Sto → Prop} {E : Xc → Sto → Prop} : wq (eAlt p fa fb δ S) Q E .a = if p δ S = true then wq (fa δ S) Q E .a else wq (fb δ S) Q E .a := q_ite
theorem c_aug {gg : D → D → Sto → R D} {x : Option D} {N : Dl → Sto → Prop} {T : D → Sto → Prop} {E : Xc → Dl → Sto → Prop} : wqS (sAug i fa gg (x :: δ) S) N T E .a = wq (eVar i (x :: δ) S) (fun a s => wqS ((fa (x :: δ) s).go (x :: δ) (aug2 i (x :: δ) gg a)) N T E .a) (fun e s => E e (x :: δ) s) .a := by
  rw [v_aug]
  exact qs_go
theorem c_seq {N : Dl → Sto → Prop} {T : D → Sto → Prop} {E : Xc → Dl → Sto → Prop} : wqS (sSeq f g δ S) N T E .a = wqS (f δ S) (fun δ s => wqS (g δ s) N T E .a) T E .a := qs_seq
theorem c_next {N : Dl → Sto → Prop} {T : D → Sto → Prop} {E : Xc → Dl → Sto → Prop} : wqS (sNext δ S) N T E .a = N δ S := rfl
theorem c_retN {N : Dl → Sto → Prop} {T : D → Sto → Prop} {E : Xc → Dl → Sto → Prop} : wqS (sRetN δ S) N T E .a = T .non S := rfl
theorem c_bad {N : Dl → Sto → Prop} {T : D → Sto → Prop} {E : Xc → Dl → Sto → Prop} : wqS (sBad δ S) N T E .a = False := rfl
theorem l_c {d : D} : eC d δ S = .ok d S := rfl
theorem l_aN : aNil δ S = .ok [] S := rfl
theorem l_yes : tYesD δ S = .ok true S := rfl
theorem l_oN : oNone δ S = .ok none S := rfl
theorem l_d0 : eDictM0 δ S = .ok (.ref S.length) (S ++ [.dct [] []]) := rfl
theorem l_dF : eDict0 δ S = .ok (.dct [] []) S := rfl
end
end DW
namespace DW
open PySem PySem.Spec PyProof.Rows L2
/-! ### == of tuples and lists that hold instances, where they are equal -/
structure SubR (X : Cx) (n : Nat) (A : Around) : Prop where
  room : Rm n A
  fr : A.frames = X.A.frames
theorem SubR.in1 {X : Cx} {n : Nat} {A : Around} (s : SubR X (n + 1) A) : SubR X n A.in1 := ⟨s.room.in1, s.fr⟩
theorem SubR.mono {X : Cx} {n m : Nat} {A : Around} (s : SubR X n A) (h : m ≤ n) : SubR X m A := ⟨s.room.mono h, s.fr⟩
def LI (X : Cx) (c : Cc) (pins : List (Addr × Obj)) (σ : L2.St) (S : Sto) (ρ : List Addr) (G H : Hp) (s' : Shared) : Prop := ∃ ρ' G' H', Inv X pins σ H' s' ∧ Rep c ρ' S G' ∧ Go c ρ G H ρ' G' H'
def EqD (X : Cx) (c : Cc) (n : Nat) (P : D → D → Prop) : Prop :=
  ∀ (A : Around) (pins : List (Addr × Obj)) (s : Shared) (σ : L2.St) (H : Hp) (x y : V) (u v : Value) (ρ : List Addr) (S : Sto) (G : Hp) (d e : D), SubR X n A → Inv X pins σ H s → RelV x u → RelV y v → Sub c G H → Rep c ρ S G → Dat c ρ G d x → Dat c ρ G e y → P d e →
    wpAny (model X.prog X.w) A (eqBool u v) (fun r s' => r = true ∧ LI X c pins σ S ρ G H s') X.xe s
def RcD (X : Cx) (c : Cc) (op : CmpOp) (b : Bool) (n : Nat) (P : D → D → Prop) : Prop :=
  ∀ (A : Around) (pins : List (Addr × Obj)) (s : Shared) (σ : L2.St) (H : Hp) (x y : V) (u v : Value) (ρ : List Addr) (S : Sto) (G : Hp) (d e : D), SubR X n A → Inv X pins σ H s → RelV x u → RelV y v → Sub c G H → Rep c ρ S G → Dat c ρ G d x → Dat c ρ G e y → P d e →
    wpAny (model X.prog X.w) A (richCompare op u v) (fun r s' => r = .bool b ∧ LI X c pins σ S ρ G H s') X.xe s
section
variable {X : Cx} {c : Cc} {n m : Nat} {P P' : D → D → Prop}
theorem EqD.mono (h : EqD X c n P) (hn : n ≤ m) : EqD X c m P := fun A pins s σ H x y u v ρ S G d e sb => h A pins s σ H x y u v ρ S G d e (sb.mono hn)
theorem EqD.or (h : EqD X c n P) (h' : EqD X c n P') : EqD X c n (fun d e => P d e ∨ P' d e) := fun A pins s σ H x y u v ρ S G d e sb I rx ry sg rp hd he q => by
  rcases q with q | q
  · exact h A pins s σ H x y u v ρ S G d e sb I rx ry sg rp hd he q
  · exact h' A pins s σ H x y u v ρ S G d e sb I rx ry sg rp hd he q
def PFlat (d e : D) : Prop := ∃ x y, DV d = some x ∧ DV e = some y ∧ flatV x = true ∧ flatV y = true ∧ eqV x y = true
def PTup (P : D → D → Prop) (d e : D) : Prop := ∃ l k, d = .tup l ∧ e = .tup k ∧ AllR P l k
def PLst (P : D → D → Prop) (d e : D) : Prop := ∃ l k, d = .lst l ∧ e = .lst k ∧ AllR P l k
theorem RcD.eqD (h : RcD X c .Eq true n P) (hr : ∀ ρ G d e x y, P d e → Dat c ρ G d x → Dat c ρ G e y → ∃ a b, x = .ref a ∧ y = .ref b) : EqD X c n P := fun A pins s σ H x y u v ρ S G d e sb I rx ry sg rp hd he q => by
  obtain ⟨a, b, rfl, rfl⟩ := hr _ _ _ _ _ _ q hd he
  cases rx
  cases ry
  by_cases hab : a = b
  · subst hab
    exact SeqAt.EqAt.same (A := A) (s := s) (.ref a) X.prog X.w X.xe _ ⟨rfl, ρ, G, H, I, rp, Go.refl sg⟩
  · refine GQ.eqBool_refG hab (wpAny_mono (h A pins s σ H (.ref a) (.ref b) _ _ ρ S G d e sb I rfl rfl sg rp hd he q) (fun r s' q => ?_) fun _ _ x => x)
    obtain ⟨hr', q⟩ := q
    exact ⟨true, hr', rfl, q⟩
def PIns (cn : Str) (mm : FM) (d e : D) : Prop := (∃ ns l ns' l', d = .ins cn ns l ∧ e = .ins cn ns' l') ∧ ∀ S, mm [d, e] S = .ok (.bl true) S
def PE (cn : Str) (mm : FM) : Nat → D → D → Prop
  | 0, d, e => PFlat d e ∨ PIns cn mm d e
  | k + 1, d, e => PE cn mm k d e ∨ PTup (PE cn mm k) d e ∨ PLst (PE cn mm k) d e
end
end DW
namespace DWN
open PySem PySem.SeqAt AutoSeq1 MeetsSeq MeetsSeq2 MeetsSeq3 SeqRoads2
end DWN
namespace DW
open PySem PySem.Spec PyProof.Rows L2
section
variable {X : Cx} {c : Cc} {n : Nat} {P : D → D → Prop}
theorem RcD.or {op : CmpOp} {b : Bool} {k : Nat} {P' : D → D → Prop} (h : RcD X c op b k P) (h' : RcD X c op b k P') : RcD X c op b k (fun d e => P d e ∨ P' d e) := fun A pins s σ H x y u v ρ S G d e sb I rx ry sg rp hd he q => by
  rcases q with q | q
  · exact h A pins s σ H x y u v ρ S G d e sb I rx ry sg rp hd he q
  · exact h' A pins s σ H x y u v ρ S G d e sb I rx ry sg rp hd he q
end
end DW
namespace DW
open PySem PySem.Spec PyProof.Rows L2
/-! ### a rounded number judged by its fourths -/
section
variable {n d e v : Int}
end
theorem ratio {A B S W k : Int} (hB : 0 < B) (hW : 0 < W) (h : A * W = S * B) : (A < k * B ↔ S < k * W) ∧ (A = k * B ↔ S = k * W) ∧ (k * B < A ↔ k * W < S) := by
  have a : (k * W - S) * B = (k * B - A) * W := by
    rw [Int.sub_mul, Int.sub_mul, h, Int.mul_right_comm]
  rcases Int.lt_trichotomy (k * B) A with z | z | z
  · have : (k * B - A) * W < 0 := Int.mul_neg_of_neg_of_pos (by omega) hW
    have : k * W - S < 0 := by
      rcases Int.lt_or_le (k * W - S) 0 with y | y
      · exact y
      · have := Int.mul_nonneg y (Int.le_of_lt hB)
        omega
    omega
  · have : (k * B - A) * W = 0 := by rw [z, Int.sub_self, Int.zero_mul]
    rw [this] at a
    rcases Int.mul_eq_zero.mp a with y | y <;> omega
  · have : 0 < (k * B - A) * W := Int.mul_pos (by omega) hW
    have : 0 < k * W - S := by
      rcases Int.lt_or_le 0 (k * W - S) with y | y
      · exact y
      · have := Int.mul_nonpos_of_nonpos_of_nonneg y (Int.le_of_lt hB)
        omega
    omega
section
variable {n d e v : Int}
end
end DW
namespace DW
open PySem PySem.Spec PyProof.Rows L2
/-! ### decimals -/
def decKs : List Str := ["amount", "shift", "side"]
def decD (a t sd : Int) : D := .ins "Decimal" decKs [.int a, .int t, .int sd]
section
variable {a t sd : Int} {S : Sto}
theorem dec_amount : fldD "Decimal" "amount" (decD a t sd) S = .ok (.int a) S := rfl
theorem dec_shift : fldD "Decimal" "shift" (decD a t sd) S = .ok (.int t) S := rfl
theorem dec_side : fldD "Decimal" "side" (decD a t sd) S = .ok (.int sd) S := rfl
theorem isi_dec : isiD [decD a t sd, .cls "Decimal"] S = .ok (.bl true) S := rfl
end
def dOver (a t sd : Int) : Int := if sd = 1 then -(a * 10 ^ t.toNat) else a * 10 ^ t.toNat
def dUnder (t : Int) : Int := 10 ^ (-t).toNat
structure DecOk (a t sd : Int) : Prop where
  a0 : 0 ≤ a
  a1 : a < 10 ^ 2000
  t0 : -20000 ≤ t
  t1 : t ≤ 20000
  s0 : 0 ≤ sd
  s1 : sd ≤ 1
section
variable {a t sd : Int}
theorem DecOk.sa (h : DecOk a t sd) : Sz a 6670 := Sz.of_lt h.a0 (Int.lt_trans h.a1 (Sz.ten (n := 2000)).lt)
theorem DecOk.prod (h : DecOk a t sd) : Sz (a * 10 ^ t.toNat) 80000 := (h.sa.mul (Sz.ten (n := t.toNat))).mono (by have := h.t1; omega)
theorem DecOk.over (h : DecOk a t sd) : Sz (dOver a t sd) 80000 := by
  unfold dOver
  split
  · exact h.prod.neg
  · exact h.prod
theorem DecOk.under (h : DecOk a t sd) : 1 ≤ dUnder t ∧ Sz (dUnder t) 80000 := ⟨Int.pow_pos (by decide), (Sz.ten (n := (-t).toNat)).mono (by have := h.t0; omega)⟩
end
/-! ### str of whole numbers of up to 4300 figures -/
section
variable {c : Cc} {X : Cx}
noncomputable def strW : List D → Sto → R D
  | [.int i], S => .chk (i.natAbs < 10 ^ 4300) (.ok (.str (toString i)) S)
  | _, _ => .bad
theorem o_strW {i : Int} {S : Sto} : strW [.int i] S = .chk (i.natAbs < 10 ^ 4300) (.ok (.str (toString i)) S) := rfl
end
/-! ### how many figures -/
theorem o_lenS {u : Str} {S : Sto} : lenD [.str u] S = .chk (u.length ≤ sizeLine) (.ok (.int u.length) S) := rfl
def figN (v : Int) : Nat := (Str.ofString (toString v)).length
end DW
namespace DW
open PySem PySem.Spec PyProof.Rows L2
/-! ### repr of data -/
mutual
/-- ints of at most 4300 figures, no dicts -/
def shwW : PyData → Prop
  | .none => True
  | .bool _ => True
  | .int i => i.natAbs < 10 ^ 4300
  | .str _ => True
  | .list xs => shwAllW xs
  | .tuple xs => shwAllW xs
  | .dict _ => False
def shwAllW : List PyData → Prop
  | [] => True
  | x :: xs => shwW x ∧ shwAllW xs
end
section
variable {prog : Program} {w : World} {h₀ : Heap}
theorem call_int_reprW {A : Around} {E : Value → Shared → Prop} {s : Shared} {a : Int} {t : Tok} {Q : Value → Shared → Prop} (hn : s.heap.NoDigits) (hlt : a.natAbs < 10 ^ 4300)
    (h1 : Q (.str (toString a) s.toks) { s with toks := s.toks + 1 }) : wpAny (model prog w) A (call (.builtin "int.__repr__") [.int a t]) Q E s := by
  refine wpAny_call_entry F.slot_int_repr (typeIs_int s a t) F.entry_int_repr ?_ (F.args_int_repr_1 _)
  unfold Builtin.«int.__repr__»
  show wpAny _ _ (do let r ← Builtin.overDigitLimit? a; _) _ _ s
  refine wpAny_bind (overDigitLimit_any hn (fun _ => ?_) (fun hge => absurd hlt (Nat.not_lt.mpr hge)))
  exact wpAny_bind (wpAny_mkStr (wpAny_pure ⟨_, rfl, h1⟩) (int_text_fits10 hlt))
theorem pyReprObj_intW {A : Around} {E : Value → Shared → Prop} {s : Shared} {a : Int} {t : Tok} {Q : Value → Shared → Prop} (hn : s.heap.NoDigits) (hlt : a.natAbs < 10 ^ 4300) (hu : A.units < cLine)
    (h1 : Q (.str (toString a) s.toks) { s with toks := s.toks + 1 }) : wpAny (model prog w) A (pyReprObj (.int a t)) Q E s :=
  wpAny_pyReprObj_slot hu (typeIs_int s a t) F.slot_int_repr.toG (call_int_reprW hn hlt ⟨_, _, rfl, h1⟩)
theorem reprK_int {as : List Addr} {d : Nat} {a : Int} {t : Tok} (hn : h₀.NoDigits) (hlt : a.natAbs < 10 ^ 4300) : ReprK prog w as h₀ d (.int a t) (toString a) := fun base hb A g E s Q hg hcl hu hk hQ => by
  rw [pyReprUnder_leaf (v := .int a t) (by omega) (fun _ e => nomatch e)]
  unfold pyRepr
  exact wpAny_bind (pyReprObj_intW (hn.keeps hk) hlt (by omega) (wpAny_pure (hQ s.heap _ fun _ _ e => e)))
mutual
theorem reprK_of : ∀ {v : Value} {d : PyData} {as : List Addr}, Reads h₀ v d as → h₀.NoDigits → shwW d → d.shown.length ≤ sizeLine → ∃ bs, ReadAtMost h₀ d.depth bs ∧ ReprK prog w bs h₀ d.depth v d.shown
  | _, _, _, .none, _, _, _ => ⟨[], (fun _ h => nomatch h), by simp only [PyData.shown]; exact .of_is ReprIs.none _ _ _⟩
  | _, _, _, .bool b, _, _, _ => ⟨[], (fun _ h => nomatch h), by simp only [PyData.shown]; exact .of_is (ReprIs.bool b) _ _ _⟩
  | _, _, _, .int i t, hn, hs, _ => ⟨[], (fun _ h => nomatch h), by
      simp only [shwW] at hs
      simp only [PyData.shown]
      exact reprK_int hn hs⟩
  | _, _, _, .str x t, _, _, hz => ⟨[], (fun _ h => nomatch h), by simp only [PyData.shown]; exact .of_is (ReprIs.str x t (by simpa only [PyData.shown] using hz)) _ _ _⟩
  | _, _, _, .list (a := a) (vs := vs) (xs := xs) h1 h2 h3 h4, hn, hs, hz => by
    have hz' : (listText (PyData.shownAll xs)).length ≤ sizeLine := by simpa only [PyData.shown] using hz
    simp only [shwW] at hs
    obtain ⟨bs, hb, hk⟩ := reprK_all h4 hn hs (fun t ht => Nat.le_trans (listText_mem_le ht) hz')
    have r : Reads h₀ (.ref a) (.list xs) _ := .list h1 h2 h3 h4
    have hna : a ∉ bs := not_mem_of_deeper r (by simp only [PyData.depth]; omega) hb
    refine ⟨a :: bs, ReadAtMost.cons r (by simp only [PyData.depth]; omega) hb, ?_⟩
    simp only [PyData.depth, PyData.shown]
    obtain ⟨l⟩ := vs
    cases l with
    | nil =>
      have h4' : ReadsAll h₀ [] xs _ := h4
      cases h4'
      simp only [PyData.shownAll, listText_nil]
      exact ReprK.listEmpty h1 h2 h3
    | cons x l => exact ReprK.list h1 h2 h3 hna (by simpa using hk.length_eq) (fun i y e => hk.item i y (by simpa using e))
  | _, _, _, .tuple (a := a) (xs := xs) h1 h2 h3 h4, hn, hs, hz => by
    have hz' : (tupleText (PyData.shownAll xs)).length ≤ sizeLine := by simpa only [PyData.shown] using hz
    simp only [shwW] at hs
    obtain ⟨bs, hb, hk⟩ := reprK_all h4 hn hs (fun t ht => Nat.le_trans (tupleText_mem_le ht) hz')
    have r : Reads h₀ (.ref a) (.tuple xs) _ := .tuple h1 h2 h3 h4
    have hna : a ∉ bs := not_mem_of_deeper r (by simp only [PyData.depth]; omega) hb
    refine ⟨a :: bs, ReadAtMost.cons r (by simp only [PyData.depth]; omega) hb, ?_⟩
    simp only [PyData.depth, PyData.shown]
    exact ReprK.tuple h1 h2 h3 hna hk
  | _, _, _, .dict h1 h2 h3 h4 h5, _, hs, _ => by simp only [shwW] at hs
theorem reprK_all : ∀ {vs : List Value} {ds : List PyData} {as : List Addr}, ReadsAll h₀ vs ds as → h₀.NoDigits → shwAllW ds → (∀ t ∈ PyData.shownAll ds, t.length ≤ sizeLine) → ∃ bs, ReadAtMost h₀ (PyData.depthAll ds) bs ∧ ReprAllK prog w bs h₀ (PyData.depthAll ds) vs (PyData.shownAll ds)
  | _, _, _, .nil, _, _, _ => ⟨[], (fun _ h => nomatch h), by simp only [PyData.shownAll]; exact .nil⟩
  | _, _, _, .cons (d := d) (ds := ds) r rs, hn, hs, hz => by
    simp only [shwAllW] at hs
    obtain ⟨b1, hb1, k1⟩ := reprK_of r hn hs.1 (hz _ (by simp only [PyData.shownAll]; exact List.mem_cons_self ..))
    obtain ⟨b2, hb2, k2⟩ := reprK_all rs hn hs.2 (fun t ht => hz t (by simp only [PyData.shownAll]; exact List.mem_cons_of_mem _ ht))
    refine ⟨b1 ++ b2, ?_, ?_⟩
    · intro b hm
      simp only [PyData.depthAll]
      rcases List.mem_append.mp hm with hm | hm
      · obtain ⟨d', as', r', hd'⟩ := hb1 b hm
        exact ⟨d', as', r', Nat.le_trans hd' (Nat.le_max_left _ _)⟩
      · obtain ⟨d', as', r', hd'⟩ := hb2 b hm
        exact ⟨d', as', r', Nat.le_trans hd' (Nat.le_max_right _ _)⟩
    · simp only [PyData.depthAll, PyData.shownAll]
      exact .cons ((k1.more fun b hb => List.mem_append_left _ hb).level_le (Nat.le_max_left _ _)) (k2.more_le (fun b hb => List.mem_append_right _ hb) (Nat.le_max_right _ _))
end
end
mutual
def rpLen : PyData → Nat
  | .none => 5
  | .bool _ => 5
  | .int _ => 4400
  | .str x => (reprText x).length
  | .list xs => rpLenAll xs + 3
  | .tuple xs => rpLenAll xs + 3
  | .dict _ => 0
def rpLenAll : List PyData → Nat
  | [] => 0
  | x :: xs => rpLen x + 2 + rpLenAll xs
end
mutual
def rpFit : PyData → Prop
  | .none => True
  | .bool _ => True
  | .int i => Sz i 14000
  | .str _ => True
  | .list xs => rpFitAll xs
  | .tuple xs => rpFitAll xs
  | .dict _ => False
def rpFitAll : List PyData → Prop
  | [] => True
  | x :: xs => rpFit x ∧ rpFitAll xs
end
mutual
theorem rpFit_sh : ∀ {p : PyData}, rpFit p → shwW p
  | .none, _ => by simp only [shwW]
  | .bool _, _ => by simp only [shwW]
  | .int i, h => by
    simp only [rpFit] at h
    simp only [shwW]
    exact Nat.lt_of_lt_of_le h (by decide +kernel)
  | .str _, _ => by simp only [shwW]
  | .list xs, h => by
    simp only [rpFit] at h
    simp only [shwW]
    exact rpFit_all h
  | .tuple xs, h => by
    simp only [rpFit] at h
    simp only [shwW]
    exact rpFit_all h
  | .dict _, h => by
    simp only [rpFit] at h
theorem rpFit_all : ∀ {ps : List PyData}, rpFitAll ps → shwAllW ps
  | [], _ => by simp only [shwAllW]
  | p :: ps, h => by
    simp only [rpFitAll] at h
    simp only [shwAllW]
    exact ⟨rpFit_sh h.1, rpFit_all h.2⟩
end
mutual
theorem rpLen_le : ∀ {p : PyData}, rpFit p → p.shown.length ≤ rpLen p
  | .none, _ => by
    simp only [PyData.shown, rpLen]
    decide
  | .bool b, _ => by
    simp only [PyData.shown, rpLen]
    cases b <;> decide
  | .int i, h => by
    simp only [rpFit] at h
    simp only [PyData.shown, rpLen]
    have := int_text_length_le10 (a := i) (k := 4300) (by decide) (Nat.lt_of_lt_of_le h (by decide +kernel))
    show (Str.ofString (toString i)).length ≤ _
    rw [PySem.ofString_length]
    omega
  | .str _, _ => by
    simp only [PyData.shown, rpLen]
    exact Nat.le_refl _
  | .list xs, h => by
    simp only [rpFit] at h
    simp only [PyData.shown, rpLen]
    have := listText_len_le (PyData.shownAll xs)
    have := rpLenAll_le h
    rw [PyData.shownAll_length] at *
    omega
  | .tuple xs, h => by
    simp only [rpFit] at h
    simp only [PyData.shown, rpLen]
    have := tupleText_len_le (PyData.shownAll xs)
    have := rpLenAll_le h
    rw [PyData.shownAll_length] at *
    omega
  | .dict _, h => by
    simp only [rpFit] at h
theorem rpLenAll_le : ∀ {ps : List PyData}, rpFitAll ps → ((PyData.shownAll ps).map (·.length)).sum + 2 * ps.length ≤ rpLenAll ps
  | [], _ => by simp [PyData.shownAll, rpLenAll]
  | p :: ps, h => by
    simp only [rpFitAll] at h
    have a := rpLen_le h.1
    have b := rpLenAll_le h.2
    simp only [PyData.shownAll, rpLenAll, List.map_cons, List.sum_cons, List.length_cons]
    omega
end
end DW
namespace DW
open PySem PySem.Spec PyProof.Rows L2
/-! ### methods by keywords -/
noncomputable def eMeK (cn mn : Str) (m : FM) (n k : Nat) (src : List SrcD) (fo : FE) (fr fk : FA) : FE := fun δ S => (fo δ S).bind fun x S => match x.fields S cn with
  | some (ns, _) => .chk (mn ∉ ns) ((fr δ S).bind fun vs S => (fk δ S).bind fun zs S => .chk (vs.length = n ∧ zs.length = k) (m (srcD (x :: vs) zs src) S))
  | none => .bad
section
variable {c : Cc} {X : Cx} {W : WX} {k n : Nat} {ps ks : List Str} {cn mn qual : Str} {C : Addr} {st : Stmt} {dvs : List V} {kvs : List (Str × V)} {pos apos : Pos} {o e : Expr} {es : List Expr} {kws : List Keyword} {fo : FE} {fr fk : FA} {m : FM} {src : List Src}
end
/-! ### a field, and something done to it -/
noncomputable def sFaug (n f : Str) (fd fv : FE) (g : D → D → Sto → R D) : FS := fun δ S => (fd δ S).go δ fun d S => (fldD n f d S).go δ fun a S => (fv δ S).go δ fun y S => (g a y S).go δ fun z S => (fputD n f d z S).go δ fun _ S => .nx δ S
section
variable {c : Cc} {X : Cx} {W : WX} {n f : Str} {C : Addr} {a e : Expr} {fa fe : FE} {pos : Pos} {gg : D → D → Sto → R D} {op : Operator}
end
end DW
namespace DW
open PySem PySem.Spec PyProof.Rows L2
/-! ### fractions of twos in lowest terms -/
def lwN (n : Int) : Nat → Int × Int
  | 0 => (n, 1)
  | h + 1 => if n % 2 = 0 then lwN (n / 2) h else (n, 2 ^ (h + 1))
def lw (n e : Int) : Int × Int := lwN (n * 2 ^ e.toNat) (-e).toNat
def belw (x : Nm) : Int := if x.bits = Hs x.sh ∧ x.sh.lo < x.scale then 1 else 2
def qlow (x : Nm) : Int := ((4 * x.bits - belw x).toNat : Int)
def frD (p : Int × Int) : D := .tup [.int p.1, .int p.2]
def lims (x : Nm) : D := .tup [frD (lw (qlow x) (x.scale - 2)), frD (lw (4 * x.bits + 2) (x.scale - 2)), .bl (decide (x.bits % 2 = 0))]
end DW
namespace DW
open PySem PySem.Spec PyProof.Rows L2
/-! ### methods of numbers and decimals -/
noncomputable def meKR (cn mn : Str) (m : FM) (n k : Nat) (src : List SrcD) (r : Sto → R (List D)) (z : Sto → R (List D)) (a : D) (S : Sto) : R D := match a.fields S cn with
  | some (ns, _) => .chk (mn ∉ ns) ((r S).bind fun vs S => (z S).bind fun zs S => .chk (vs.length = n ∧ zs.length = k) (m (srcD (a :: vs) zs src) S))
  | none => .bad
section
variable {δ : Dl} {S : Sto} {fa fe : FE} {fr fk : FA} {n k : Nat}
theorem c_meK {cn mn : Str} {m : FM} {src : List SrcD} {Q : D → Sto → Prop} {E : Xc → Sto → Prop} : wq (eMeK cn mn m n k src fa fr fk δ S) Q E .a = wq (fa δ S) (fun a s => wq (meKR cn mn m n k src (fun S => fr δ S) (fun S => fk δ S) a s) Q E .a) E .a := q_bind
theorem c_faug {cn fn : Str} {gg : D → D → Sto → R D} {fd fv : FE} {N : Dl → Sto → Prop} {T : D → Sto → Prop} {E : Xc → Dl → Sto → Prop} : wqS (sFaug cn fn fd fv gg δ S) N T E .a = wq (fd δ S) (fun a s => wqS ((fun d S => (fldD cn fn d S).go δ fun a S => (fv δ S).go δ fun y S => (gg a y S).go δ fun z S => (fputD cn fn d z S).go δ fun _ S => .nx δ S) a s) N T E .a) (fun e s => E e δ s) .a := qs_go
theorem me_any {cn mn : Str} {m : FM} {src : List SrcD} {r : Sto → R (List D)} {a : D} {ns : List Str} {l : List D} {Q : D → Sto → Prop} {E : Xc → Sto → Prop} (hf : a.fields S cn = some (ns, l)) (h : mn ∉ ns) : wq (meR cn mn m n src r a S) Q E .a = wq (r S) (fun vs S => wq (R.chk (vs.length = n) (m (srcD (a :: vs) [] src) S)) Q E .a) E .a := by
  unfold meR
  rw [hf]
  dsimp only
  rw [chk_pos h]
  exact q_bind
theorem meK_any {cn mn : Str} {m : FM} {src : List SrcD} {r z : Sto → R (List D)} {a : D} {ns : List Str} {l : List D} {Q : D → Sto → Prop} {E : Xc → Sto → Prop} (hf : a.fields S cn = some (ns, l)) (h : mn ∉ ns) : wq (meKR cn mn m n k src r z a S) Q E .a = wq (r S) (fun vs S => wq ((z S).bind fun zs S => .chk (vs.length = n ∧ zs.length = k) (m (srcD (a :: vs) zs src) S)) Q E .a) E .a := by
  unfold meKR
  rw [hf]
  dsimp only
  rw [chk_pos h]
  exact q_bind
def isV (cn : Str) (r : R D) : Bool := match r with
  | .ok d S => (d.fields S cn).isSome
  | _ => false
theorem isC_v {cn : Str} : isC cn fa δ S = isV cn (fa δ S) := by
  unfold isC isV
  cases fa δ S <;> rfl
theorem isV_nn {x : Nm} : isV "Number" (.ok (numD x) S) = true := rfl
theorem isV_nd {x : Nm} : isV "Decimal" (.ok (numD x) S) = false := rfl
theorem isV_dd {a t sd : Int} : isV "Decimal" (.ok (decD a t sd) S) = true := rfl
theorem isV_dn {a t sd : Int} : isV "Number" (.ok (decD a t sd) S) = false := rfl
theorem meN_shape {x : Nm} {m : FM} {src : List SrcD} {r : Sto → R (List D)} {Q : D → Sto → Prop} {E : Xc → Sto → Prop} : wq (meR "Number" "shape" m n src r (numD x) S) Q E .a = wq (r S) (fun vs S => wq (R.chk (vs.length = n) (m (srcD (numD x :: vs) [] src) S)) Q E .a) E .a := me_any rfl (by decide)
theorem meN_sign {x : Nm} {m : FM} {src : List SrcD} {r : Sto → R (List D)} {Q : D → Sto → Prop} {E : Xc → Sto → Prop} : wq (meR "Number" "sign" m n src r (numD x) S) Q E .a = wq (r S) (fun vs S => wq (R.chk (vs.length = n) (m (srcD (numD x :: vs) [] src) S)) Q E .a) E .a := me_any rfl (by decide)
theorem meN_kind {x : Nm} {m : FM} {src : List SrcD} {r : Sto → R (List D)} {Q : D → Sto → Prop} {E : Xc → Sto → Prop} : wq (meR "Number" "kind" m n src r (numD x) S) Q E .a = wq (r S) (fun vs S => wq (R.chk (vs.length = n) (m (srcD (numD x :: vs) [] src) S)) Q E .a) E .a := me_any rfl (by decide)
theorem meN_need_finite {x : Nm} {m : FM} {src : List SrcD} {r : Sto → R (List D)} {Q : D → Sto → Prop} {E : Xc → Sto → Prop} : wq (meR "Number" "need_finite" m n src r (numD x) S) Q E .a = wq (r S) (fun vs S => wq (R.chk (vs.length = n) (m (srcD (numD x :: vs) [] src) S)) Q E .a) E .a := me_any rfl (by decide)
theorem meN_parts {x : Nm} {m : FM} {src : List SrcD} {r : Sto → R (List D)} {Q : D → Sto → Prop} {E : Xc → Sto → Prop} : wq (meR "Number" "parts" m n src r (numD x) S) Q E .a = wq (r S) (fun vs S => wq (R.chk (vs.length = n) (m (srcD (numD x :: vs) [] src) S)) Q E .a) E .a := me_any rfl (by decide)
theorem meN_value {x : Nm} {m : FM} {src : List SrcD} {r : Sto → R (List D)} {Q : D → Sto → Prop} {E : Xc → Sto → Prop} : wq (meR "Number" "value" m n src r (numD x) S) Q E .a = wq (r S) (fun vs S => wq (R.chk (vs.length = n) (m (srcD (numD x :: vs) [] src) S)) Q E .a) E .a := me_any rfl (by decide)
theorem meN_rank {x : Nm} {m : FM} {src : List SrcD} {r : Sto → R (List D)} {Q : D → Sto → Prop} {E : Xc → Sto → Prop} : wq (meR "Number" "rank" m n src r (numD x) S) Q E .a = wq (r S) (fun vs S => wq (R.chk (vs.length = n) (m (srcD (numD x :: vs) [] src) S)) Q E .a) E .a := me_any rfl (by decide)
theorem meN_word {x : Nm} {m : FM} {src : List SrcD} {r : Sto → R (List D)} {Q : D → Sto → Prop} {E : Xc → Sto → Prop} : wq (meR "Number" "word" m n src r (numD x) S) Q E .a = wq (r S) (fun vs S => wq (R.chk (vs.length = n) (m (srcD (numD x :: vs) [] src) S)) Q E .a) E .a := me_any rfl (by decide)
theorem meN_stepped {x : Nm} {m : FM} {src : List SrcD} {r : Sto → R (List D)} {Q : D → Sto → Prop} {E : Xc → Sto → Prop} : wq (meR "Number" "stepped" m n src r (numD x) S) Q E .a = wq (r S) (fun vs S => wq (R.chk (vs.length = n) (m (srcD (numD x :: vs) [] src) S)) Q E .a) E .a := me_any rfl (by decide)
theorem meN_up {x : Nm} {m : FM} {src : List SrcD} {r : Sto → R (List D)} {Q : D → Sto → Prop} {E : Xc → Sto → Prop} : wq (meR "Number" "up" m n src r (numD x) S) Q E .a = wq (r S) (fun vs S => wq (R.chk (vs.length = n) (m (srcD (numD x :: vs) [] src) S)) Q E .a) E .a := me_any rfl (by decide)
theorem meN_down {x : Nm} {m : FM} {src : List SrcD} {r : Sto → R (List D)} {Q : D → Sto → Prop} {E : Xc → Sto → Prop} : wq (meR "Number" "down" m n src r (numD x) S) Q E .a = wq (r S) (fun vs S => wq (R.chk (vs.length = n) (m (srcD (numD x :: vs) [] src) S)) Q E .a) E .a := me_any rfl (by decide)
theorem meN_negated {x : Nm} {m : FM} {src : List SrcD} {r : Sto → R (List D)} {Q : D → Sto → Prop} {E : Xc → Sto → Prop} : wq (meR "Number" "negated" m n src r (numD x) S) Q E .a = wq (r S) (fun vs S => wq (R.chk (vs.length = n) (m (srcD (numD x :: vs) [] src) S)) Q E .a) E .a := me_any rfl (by decide)
theorem meD_digits {a t sd : Int} {m : FM} {src : List SrcD} {r : Sto → R (List D)} {Q : D → Sto → Prop} {E : Xc → Sto → Prop} : wq (meR "Decimal" "digits" m n src r (decD a t sd) S) Q E .a = wq (r S) (fun vs S => wq (R.chk (vs.length = n) (m (srcD (decD a t sd :: vs) [] src) S)) Q E .a) E .a := me_any rfl (by decide)
theorem meD_tens {a t sd : Int} {m : FM} {src : List SrcD} {r : Sto → R (List D)} {Q : D → Sto → Prop} {E : Xc → Sto → Prop} : wq (meR "Decimal" "tens" m n src r (decD a t sd) S) Q E .a = wq (r S) (fun vs S => wq (R.chk (vs.length = n) (m (srcD (decD a t sd :: vs) [] src) S)) Q E .a) E .a := me_any rfl (by decide)
theorem meD_sign {a t sd : Int} {m : FM} {src : List SrcD} {r : Sto → R (List D)} {Q : D → Sto → Prop} {E : Xc → Sto → Prop} : wq (meR "Decimal" "sign" m n src r (decD a t sd) S) Q E .a = wq (r S) (fun vs S => wq (R.chk (vs.length = n) (m (srcD (decD a t sd :: vs) [] src) S)) Q E .a) E .a := me_any rfl (by decide)
theorem meD_value {a t sd : Int} {m : FM} {src : List SrcD} {r : Sto → R (List D)} {Q : D → Sto → Prop} {E : Xc → Sto → Prop} : wq (meR "Decimal" "value" m n src r (decD a t sd) S) Q E .a = wq (r S) (fun vs S => wq (R.chk (vs.length = n) (m (srcD (decD a t sd :: vs) [] src) S)) Q E .a) E .a := me_any rfl (by decide)
theorem meD_plain {a t sd : Int} {m : FM} {src : List SrcD} {r : Sto → R (List D)} {Q : D → Sto → Prop} {E : Xc → Sto → Prop} : wq (meR "Decimal" "plain" m n src r (decD a t sd) S) Q E .a = wq (r S) (fun vs S => wq (R.chk (vs.length = n) (m (srcD (decD a t sd :: vs) [] src) S)) Q E .a) E .a := me_any rfl (by decide)
end
end DW
namespace DW
open PySem PySem.Spec PyProof.Rows L2
/-! ### a fraction not below 0 rounded, its sign beside -/
def turnW (v u sd : Int) (w : Str) : Int :=
  if v % u = 0 then v / u
  else if w = "up" ∨ w = "down" then v / u + (if w = "up" ↔ sd = 0 then 1 else 0)
  else if w = "zero" ∨ 2 * (v % u) < u then v / u
  else if 2 * (v % u) = u ∧ w = "nearest" then v / u + v / u % 2
  else v / u + 1
section
variable {v u v' u' : Int}
theorem div_ratio (hu : 0 < u) (hu' : 0 < u') (h : v * u' = v' * u) : v / u = v' / u' ∧ (v % u) * u' = (v' % u') * u := by
  have e1 := Int.mul_ediv_add_emod v u
  have r0 := Int.emod_nonneg v (show u ≠ 0 by omega)
  have r1 := Int.emod_lt_of_pos v hu
  have q : v / u = v' / u' := by
    refine Int.le_antisymm ?_ ?_
    · refine (Int.le_ediv_iff_mul_le hu').mpr ?_
      have := Int.ediv_mul_le v (show u ≠ 0 by omega)
      have := Int.mul_le_mul_of_nonneg_right this (show 0 ≤ u' by omega)
      rw [h, Int.mul_right_comm] at this
      exact Int.le_of_mul_le_mul_right this hu
    · refine (Int.le_ediv_iff_mul_le hu).mpr ?_
      have := Int.ediv_mul_le v' (show u' ≠ 0 by omega)
      have := Int.mul_le_mul_of_nonneg_right this (show 0 ≤ u by omega)
      rw [← h, Int.mul_right_comm] at this
      exact Int.le_of_mul_le_mul_right this hu'
  refine ⟨q, ?_⟩
  rw [Int.emod_def, Int.emod_def, ← q, Int.sub_mul, Int.sub_mul, h, Int.mul_right_comm u, Int.mul_right_comm u', Int.mul_comm u u']
end
/-! ### powers of ten in a fraction -/
def ordF (v u : Int) : Int := if u * 10 ^ ((figN v : Int) - figN u).toNat ≤ v * 10 ^ (-((figN v : Int) - figN u)).toNat then (figN v : Int) - figN u else (figN v : Int) - figN u - 1
def V0 (x : Nm) : Int := x.bits * 2 ^ x.scale.toNat
def U0 (x : Nm) : Int := 2 ^ (-x.scale).toNat
def exV (x : Nm) (t : Int) : Int := V0 x * 10 ^ (-t).toNat
def exU (x : Nm) (t : Int) : Int := U0 x * 10 ^ t.toNat
def flW (b : Prop) [Decidable b] : D := if b then .tup [] else .tup [.str "inexact"]
def wfT (x : Nm) (n : Nat) : Int := ordF (V0 x) (U0 x) + 1 - n
def wfW (x : Nm) (n : Nat) (w : Str) : Int := turnW (exV x (wfT x n)) (exU x (wfT x n)) x.side w
def wfA (x : Nm) (n : Nat) (w : Str) : Int := if x.bits = 0 then 0 else if wfW x n w = 10 ^ n then wfW x n w / 10 else wfW x n w
def wfP (x : Nm) (n : Nat) (w : Str) : Int := if x.bits = 0 then 0 else if wfW x n w = 10 ^ n then wfT x n + 1 else wfT x n
def wfF (x : Nm) (n : Nat) : D := if x.bits = 0 then .tup [] else flW (exV x (wfT x n) % exU x (wfT x n) = 0)
end DW
namespace DW
open PySem PySem.Spec PyProof.Rows L2
/-! ### lists behind what is drawn by -/
section
variable {d d' : Dw} {l : List D} {Z : Sto} {o o2 : Ob} {g : D → List D → Sto → R D} {r : Sto → R (List D)} {y : D} {i : Int}
theorem lm_r2 : lmR g r (.ref 2) (d.s (.lst l :: Z)) = (r (d.s (.lst l :: Z))).bind fun vs S => g (.ref 2) vs S := rfl
theorem lm_r3 : lmR g r (.ref 3) (d.s (o :: .lst l :: Z)) = (r (d.s (o :: .lst l :: Z))).bind fun vs S => g (.ref 3) vs S := rfl
theorem lm_r4 : lmR g r (.ref 4) (d.s (o :: o2 :: .lst l :: Z)) = (r (d.s (o :: o2 :: .lst l :: Z))).bind fun vs S => g (.ref 4) vs S := rfl
theorem app_r2 : appD (.ref 2) [y] (d.s (.lst l :: Z)) = .chk (l.length < sizeLine) (.ok .non (d.s (.lst (l ++ [y]) :: Z))) := rfl
theorem app_r3 : appD (.ref 3) [y] (d.s (o :: .lst l :: Z)) = .chk (l.length < sizeLine) (.ok .non (d.s (o :: .lst (l ++ [y]) :: Z))) := rfl
theorem app_r4 : appD (.ref 4) [y] (d.s (o :: o2 :: .lst l :: Z)) = .chk (l.length < sizeLine) (.ok .non (d.s (o :: o2 :: .lst (l ++ [y]) :: Z))) := rfl
theorem ix_r2 : ixD (.ref 2) (.int i) (d.s (.lst l :: Z)) = optR (atI l i) (d.s (.lst l :: Z)) := by
  show (match atI l i with | some d => R.ok d _ | none => .bad) = _
  cases atI l i <;> rfl
theorem ix_r3 : ixD (.ref 3) (.int i) (d.s (o :: .lst l :: Z)) = optR (atI l i) (d.s (o :: .lst l :: Z)) := by
  show (match atI l i with | some d => R.ok d _ | none => .bad) = _
  cases atI l i <;> rfl
theorem ix_r4 : ixD (.ref 4) (.int i) (d.s (o :: o2 :: .lst l :: Z)) = optR (atI l i) (d.s (o :: o2 :: .lst l :: Z)) := by
  show (match atI l i with | some d => R.ok d _ | none => .bad) = _
  cases atI l i <;> rfl
theorem ds_len {d : Dw} {Z : Sto} : (d.s Z).length = Z.length + 2 := rfl
theorem ds_app {d : Dw} {Z Y : Sto} : d.s Z ++ Y = d.s (Z ++ Y) := rfl
end
/-! ### what repr tells of: depth, length -/
def rpQ (k L : Nat) (d : D) : Prop := ∃ p, pyD d = some p ∧ rpFit p ∧ p.depth ≤ k ∧ rpLen p ≤ L
theorem rpQ.mono {k L k' L' : Nat} {d : D} (h : rpQ k L d) (hk : k ≤ k') (hL : L ≤ L') : rpQ k' L' d := by
  obtain ⟨p, a, b, c, e⟩ := h
  exact ⟨p, a, b, Nat.le_trans c hk, Nat.le_trans e hL⟩
end DW
namespace DW
open PySem PySem.Spec PyProof.Rows L2
/-! ### str and len of own instances -/
section
variable {A : Around} {E : Value → Shared → Prop} {s : Shared} {K : PySem.W.Frag} {x C f : Addr} {ox : Obj} {od : Option Obj} {name : Str}
theorem csp_K {M : Model} {args : List Value} {Q : Option Value → Shared → Prop} (X : K.In s.heap) (I : PySem.W.InstAt s.heap x ox C od) (hs : PySem.W.findIn K (.ref C) name = some (some (.ref f))) (hf : PySem.W.isFn K (.ref f) = true)
    (h : wpAny M A (call (.ref f) (.ref x :: args)) (fun v => Q (some v)) E s) : wpAny M A (callSpecial? (.ref x) name args) Q E s := by
  simp only [callSpecial?]
  refine wpAny_bind (wpAny_bind (I.type.here ((PySem.W.looks_findIn X hs).here ?_)))
  refine wpAny_holding (wpAny_bind ((PySem.W.bind_fn X _ (beq_iff_eq.mp hf)).here ?_))
  exact wpAny_bind (wpAny_mono h (fun v s' h' => wpAny_pure h') fun _ _ h' => h')
end
section
variable {c : Cc} {X : Cx} {C : Addr} {k : Nat} {qual mn : Str} {st : Stmt} {dvs : List V} {kvs : List (Str × V)} {ps : List Str} {m : FM}
theorem run_own {A' : Around} {f : Addr} {fd : FuncData} {a : Addr} {pins : List (Addr × Obj)} {σ : L2.St} {H : Hp} {s : Shared} {P : V → Hp → Prop} (g : FnG X.prog X.w c.K X.mg X.base k f fd ps (spD c ps.length m)) (hr : Rm k A') (I : Inv X pins σ H s)
    (e0 : Env0 X.prog X.w c.K X.mg X.base A' X.stack s H) (hb : KB c.K fd ps 1 [] (fun vs zs => srcV vs zs [.p 0])) (hK : X.K = c.K) (h : spD c ps.length m [.ref a] H P (fun _ _ _ => False)) :
    wpAny (model X.prog X.w) A' (call (.ref f) [.ref a]) (fun v s' => ∃ z H', Inv X pins σ H' s' ∧ RelV z v ∧ P z H') X.xe s := by
  have kin : c.K.In s.heap := by rw [← hK]; exact I.kIn
  obtain ⟨rs, bb, r2⟩ := hb s [.ref a] [] [.ref a] [] kin (.cons rfl .nil) .nil rfl rfl
  refine wpAny_call (codeAny_mono (g.run A' X.stack s H ⟨[.ref a], []⟩ rs _ _ _ hr e0 bb r2 h) fun r s' hq => ?_)
  cases r with
  | error e => exact (XE.of_call (W := WN) I (fun cls d H' h => h) hq).elim fun a ⟨B, sI, pins, σ, H, cls, d, e, I, nb, up, sky, na, os, ag, w⟩ => w.elim
  | ok fl =>
    cases fl with
    | ret w =>
      obtain ⟨z, H', I', rz, q⟩ := I.after hq
      exact ⟨z, H', I', rz, q⟩
    | next => exact hq.elim
    | brk => exact hq.elim
    | cont => exact hq.elim
def strOnly : D → Sto → R D
  | .str x, S => .ok (.str x) S
  | _, _ => .bad
noncomputable def ownS (cn : Str) (m : FM) : List D → Sto → R D
  | [d], S => match d.fields S cn with
    | some _ => ((m [d] S).noX).bind strOnly
    | none => .bad
  | _, _ => .bad
def lenOnly : D → Sto → R D
  | .int i, S => if 0 ≤ i ∧ i < 2 ^ 63 then .ok (.int i) S else .bad
  | _, _ => .bad
noncomputable def ownL (cn : Str) (m : FM) : List D → Sto → R D
  | [d], S => match d.fields S cn with
    | some _ => ((m [d] S).noX).bind lenOnly
    | none => .bad
  | _, _ => .bad
def rOwn (c : Cc) (C : Addr) (n : Nat) (m : FM) (P : V → Prop) : List V → Hp → VK → Prop := fun xs H Q => ∃ a dx fs, xs = [.ref a] ∧ H a = some (.ins C dx fs) ∧ spD c n m [.ref a] H (fun v H' => P v ∧ Q v H') (fun _ _ _ => False)
theorem own_then {cn : Str} {P : V → Prop} {g : D → Sto → R D} (hC : c.cl cn = some C) (hl : ps.length = 1) (hg : ∀ d S (Q : D → Sto → Prop) (E : Xc → Sto → Prop), wp (g d S) Q E → Q d S ∧ ∀ ρ G v, Dat c ρ G d v → P v) {ρ : List Addr} {S : Sto} {G H : Hp} {d : D} {v : V} {Q : VK} {W : Value → Option Addr → Hp → Prop} (sb : Sub c G H) (r : Rep c ρ S G) (h1 : Dat c ρ G d v)
    {ns : List Str} {l : List D} (e : d.fields S cn = some (ns, l)) (q : wp (((m [d] S).noX).bind g) (kE c ρ G H Q) (kX c ρ G H W)) : rOwn c C ps.length m P [v] H Q := by
  obtain ⟨a, xs, dx, z1, z2, z3, z4⟩ := fields_at r hC h1 e
  refine ⟨a, dx, _, by rw [z1], sb _ _ z2, hl.symm ▸ rfl, [d], S, ρ, G, sb, .cons (by rw [← z1]; exact h1) .nil, r, ?_⟩
  rw [wp_bind, wp_noX] at q
  refine wp_mono q (fun d' S' q' v' ρ' G' H' r' e' dv => ?_) fun _ _ z => z.elim
  obtain ⟨k1, k2⟩ := hg d' S' _ _ q'
  exact ⟨k2 ρ' G' v' dv, k1 v' ρ' G' H' r' e' dv⟩
theorem len_ownK {prog : Program} {w : World} {A : Around} {E : Value → Shared → Prop} {s : Shared} {K : PySem.W.Frag} {x C f : Addr} {ox : Obj} {od : Option Obj} {Q : Value → Shared → Prop} (X : K.In s.heap) (I : PySem.W.InstAt s.heap x ox C od) (hs : PySem.W.findIn K (.ref C) "__len__" = some (some (.ref f))) (hf : PySem.W.isFn K (.ref f) = true)
    (hcall : wpAny (model prog w) A.in1 (call (.ref f) [.ref x]) (fun r s' => ∃ n u, r = .int n u ∧ 0 ≤ n ∧ n < 2 ^ 63 ∧ Q (.int n s'.toks) { s' with toks := s'.toks + 1 }) E s) : wpAny (model prog w) A (call (.builtin "len") [.ref x]) Q E s := by
  refine Calls.call_function_entry kind_len plain_len entry_len (args_len1 _) ?_
  unfold Builtin.«len»
  refine wpAny_bind (m := oneArg "len" _) (wpAny_pure ?_)
  refine wpAny_bind (m := callSpecial? (.ref x) (Str.ofString "__len__")) (csp_K X I hs hf (wpAny_mono hcall (fun r s' hr => ?_) fun _ _ y => y))
  obtain ⟨n, u, rfl, h0, h1, hq⟩ := hr
  refine wpAny_bind (wpAny_holding (wpAny_pure ?_))
  refine wpAny_bind (wpAny_letGo ?_)
  show wpAny _ _ (if n < 0 then _ else _) _ _ _
  rw [if_neg (by omega)]
  show wpAny _ _ (if n ≥ 2 ^ 63 then _ else _) _ _ _
  rw [if_neg (by omega)]
  exact wpAny_bind (wpAny_mkInt (wpAny_pure ⟨_, rfl, hq⟩))
theorem cal_lenI {cn : Str} (hC : c.cl cn = some C) (G : MethG X.prog X.w c X.mg X.base k C "__len__" qual st dvs kvs ps m) (hl : ps.length = 1) (hr : Rm (k + 1) X.A) (hb : ∀ f fd, FD c.K "__len__" qual st dvs kvs f fd → KB c.K fd ps 1 [] (fun vs zs => srcV vs zs [.p 0])) (hK : X.K = c.K := by rfl) : Cal c X (.builtin "len") (ownL cn m) := by
  obtain ⟨f, fd, F, hm, g⟩ := G
  refine ⟨rOwn c C ps.length m (fun v => ∃ i : Int, v = .int i ∧ 0 ≤ i ∧ i < 2 ^ 63), fun pins s σ H xs us Q I r h => ?_, fun ρ S G H ds vs Q W sb r h q => ?_⟩
  · obtain ⟨a, dx, fs, rfl, ha, hsp⟩ := h
    obtain ⟨u, rfl, ru⟩ := vals1 r
    cases ru
    obtain ⟨mA, J, _⟩ := ins_get I.hok ha
    obtain ⟨od, J, _⟩ := J.look
    rw [← hK] at hm
    have e0 : Env0 X.prog X.w c.K X.mg X.base X.A.in1 X.stack s H := by rw [← hK]; exact I.env0.in1
    refine len_ownK (f := f) I.kIn J hm.at_ hm.fn (wpAny_mono (run_own g hr.in1 I e0 (hb f fd F) hK hsp) (fun v s' z => ?_) fun _ _ e => e)
    obtain ⟨z, H', I', rz, ⟨i, ei, i0, i1⟩, q⟩ := z
    subst ei
    obtain ⟨t, rfl⟩ := id rz
    exact ⟨i, t, rfl, i0, i1, .int i, H', I'.tok _, ⟨_, rfl⟩, q⟩
  · unfold ownL at q
    split at q
    · obtain ⟨v, rfl, h1⟩ := h.one
      split at q
      · rename_i e
        refine own_then hC hl (fun d S Q E w => ?_) sb r h1 e q
        cases d with
        | int i =>
          unfold lenOnly at w
          dsimp only at w
          split at w
          · rename_i hi
            refine ⟨w, fun ρ G v dv => ?_⟩
            simp only [Dat] at dv
            exact ⟨i, dv, hi.1, hi.2⟩
          · exact w.elim
        | _ => exact w.elim
      · exact q.elim
    · exact q.elim
end
/-! ### f-strings -/
noncomputable def fmtD : D → Sto → R D
  | .str y, S => .chk (y.length ≤ sizeLine) (.ok (.str y) S)
  | .int i, S => .chk (i.natAbs.log2 < 1920) (.ok (.str (toString i)) S)
  | _, _ => .bad
noncomputable def jsA (g : Str → Sto → R D) (acc : Str) : D → Sto → R D
  | .str y, S => .chk ((acc ++ y).length ≤ sizeLine) (g (acc ++ y) S)
  | _, _ => .bad
noncomputable def jsL : List FE → Str → FE
  | [], acc => fun _ S => .ok (.str acc) S
  | f :: fs, acc => fun δ S => (f δ S).bind (jsA (fun acc S => jsL fs acc δ S) acc)
structure FmtCls (K : PySem.W.Frag) (C : Addr) : Prop where
  fm : PySem.W.findIn K (.ref C) "__format__" = some (some (.builtin "object.__format__"))
  ob : PySem.W.mroIn K C (.type "object") = some true
section
variable {c : Cc} {X : Cx} {W : WX} {e : Expr} {fa : FE} {pos : Pos}
inductive DJ (c : Cc) (X : Cx) (W : WX) : List Expr → List FE → Prop where
  | nil : DJ c X W [] []
  | cons {e : Expr} {f : FE} {es : List Expr} {fs : List FE} (h : DE c X W e f) (r : DJ c X W es fs) : DJ c X W (e :: es) (f :: fs)
theorem c_js {f : FE} {fs : List FE} {acc : Str} {δ : Dl} {S : Sto} {Q : D → Sto → Prop} {E : Xc → Sto → Prop} : wq (jsL (f :: fs) acc δ S) Q E .a = wq (f δ S) (fun a s => wq (jsA (fun acc S => jsL fs acc δ S) acc a s) Q E .a) E .a := q_bind
theorem c_js0 {acc : Str} {δ : Dl} {S : Sto} : jsL [] acc δ S = .ok (.str acc) S := rfl
theorem o_jsA {g : Str → Sto → R D} {acc y : Str} {S : Sto} : jsA g acc (.str y) S = .chk ((acc ++ y).length ≤ sizeLine) (g (acc ++ y) S) := rfl
theorem o_fmtS {y : Str} {S : Sto} : fmtD (.str y) S = .chk (y.length ≤ sizeLine) (.ok (.str y) S) := rfl
theorem o_fmtI {i : Int} {S : Sto} : fmtD (.int i) S = .chk (i.natAbs.log2 < 1920) (.ok (.str (toString i)) S) := rfl
theorem o_ownSN {x : Nm} {m : FM} {S : Sto} : ownS "Number" m [numD x] S = ((m [numD x] S).noX).bind strOnly := rfl
theorem o_ownSD {a t sd : Int} {m : FM} {S : Sto} : ownS "Decimal" m [decD a t sd] S = ((m [decD a t sd] S).noX).bind strOnly := rfl
theorem o_ownLD {a t sd : Int} {m : FM} {S : Sto} : ownL "Decimal" m [decD a t sd] S = ((m [decD a t sd] S).noX).bind lenOnly := rfl
theorem o_strOnly {y : Str} {S : Sto} : strOnly (.str y) S = .ok (.str y) S := rfl
theorem o_lenOnly {i : Int} {S : Sto} : lenOnly (.int i) S = if 0 ≤ i ∧ i < 2 ^ 63 then .ok (.int i) S else .bad := rfl
end
end DW
namespace DW
open PySem PySem.Spec PyProof.Rows L2
/-! ### what is rounded to a number, by nearest -/
def InB (x : Nm) (n d : Int) : Prop := if x.bits % 2 = 0 then qlow x * 2 ^ (x.scale - 2).toNat * d ≤ n * 2 ^ (-(x.scale - 2)).toNat ∧ n * 2 ^ (-(x.scale - 2)).toNat ≤ (4 * x.bits + 2) * 2 ^ (x.scale - 2).toNat * d
  else qlow x * 2 ^ (x.scale - 2).toNat * d < n * 2 ^ (-(x.scale - 2)).toNat ∧ n * 2 ^ (-(x.scale - 2)).toNat < (4 * x.bits + 2) * 2 ^ (x.scale - 2).toNat * d
instance {x : Nm} {n d : Int} : Decidable (InB x n d) := by unfold InB; infer_instance
/-! ### the text of a number -/
noncomputable def s1A (g : Str → D → Sto → R D) (r : Sto → R D) : D → Sto → R D
  | .str a, S => (r S).bind fun y S => g a y S
  | _, _ => .bad
theorem c_S1 {fo fe : FE} {δ : Dl} {S : Sto} {g : Str → D → Sto → R D} {Q : D → Sto → Prop} {E : Xc → Sto → Prop} : wq (eS1 g fo fe δ S) Q E .a = wq (fo δ S) (fun a s => wq (s1A g (fun S => fe δ S) a s) Q E .a) E .a := by
  have e : eS1 g fo fe δ S = (fo δ S).bind (s1A g fun S => fe δ S) := by
    unfold eS1
    congr 1
    funext a S
    cases a <;> rfl
  rw [e]
  exact q_bind
theorem o_s1A {g : Str → D → Sto → R D} {r : Sto → R D} {a : Str} {S : Sto} : s1A g r (.str a) S = (r S).bind fun y S => g a y S := rfl
theorem o_join2 {a x y : Str} {S : Sto} : joinD a (.lst [.str x, .str y]) S = .chk (([x, y].map (·.length)).sum + 2 * a.length ≤ 16777216) (.ok (.str (Txt.join a [x, y])) S) := rfl
theorem o_join4 {a x y z w : Str} {S : Sto} : joinD a (.lst [.str x, .str y, .str z, .str w]) S = .chk (([x, y, z, w].map (·.length)).sum + 4 * a.length ≤ 16777216) (.ok (.str (Txt.join a [x, y, z, w])) S) := rfl
theorem lims_ix0 {x : Nm} {S : Sto} : ixD (lims x) (.int 0) S = .ok (frD (lw (qlow x) (x.scale - 2))) S := tup_ix0
theorem lims_ix1 {x : Nm} {S : Sto} : ixD (lims x) (.int 1) S = .ok (frD (lw (4 * x.bits + 2) (x.scale - 2))) S := tup_ix1
theorem lims_ix2 {x : Nm} {S : Sto} : ixD (lims x) (.int 2) S = .ok (.bl (decide (x.bits % 2 = 0))) S := tup_ix2
theorem fr_ix0 {p : Int × Int} {S : Sto} : ixD (frD p) (.int 0) S = .ok (.int p.1) S := tup_ix0
theorem fr_ix1 {p : Int × Int} {S : Sto} : ixD (frD p) (.int 1) S = .ok (.int p.2) S := tup_ix1
theorem gTup_fr {gs : FGs} {p : Int × Int} {δ : Dl} {S : Sto} : gTupD 2 gs (frD p) δ S = gs [.int p.1, .int p.2] δ S := rfl
theorem o_slice1L {d : D} {l : List D} {S : Sto} : sliceD (.lst (d :: l)) (some 1) none S = .ok (.lst l) S := by
  show R.ok (D.lst (cutL (d :: l) (some 1) none)) S = _
  rw [cut_1n]
end DW
namespace DW
open PySem PySem.Spec PyProof.Rows L2
/-! ### the end with tables of code objects -/
abbrev tab0 : Obj := { cls := .none, data := .fields #[] }
structure TabH (K : PySem.W.Frag) (h : Heap) (p : Addr × Addr) : Prop where
  hd : PySem.W.CodeHd h p.1 p.2
  tb : h.get? p.2 = some tab0
  nk : K.lookup p.2 = none
theorem lawGT {P : Program} {w : World} {c : Cc} {mg mb : Str → Option Value} {k : Nat} {fa a : Addr} {fd : FuncData} {x : Str} {m : FM} {t : Shared} {vals : List Value} {ns : List Int} {cs : List (Addr × Addr)}
    (kin : c.K.In t.heap) (gl : t.heap.Ns mainGlobals mg) (bl : t.heap.Ns builtinsNs mb) (bb : ∀ y : Str, y ≠ "__name__" → mb y = bootBuiltins y) (lim : t.heap.NoLimit) (gn : t.gens = #[])
    (hT : ∀ p ∈ cs, TabH c.K t.heap p) (hc : ∀ p ∈ c.T, ∃ q ∈ cs, q.2 = p.1)
    (hbm : ∃ (bm : Addr) (ob : Obj), mg "__builtins__" = some (.ref bm) ∧ bm ≠ builtinsNs ∧ t.heap.get? bm = some ob ∧ ob.cls = .type "module" ∧ ob.dict = some builtinsNs ∧ ob.data = .plain)
    (la : t.heap.get? a = some { cls := .type "list", data := .seq vals.toArray }) (ia : IntsAre vals ns) (sz : ns.length ≤ sizeLine) (rm : Rm k callerA)
    (F : ∀ base : Heap, c.K.In base → base.Ns mainGlobals mg → (∀ p ∈ cs, LamX.TabB base mg p.1 p.2) → FnG P w c.K mg base k fa fd [x] (spD c 1 m)) (bnd : ∀ (s : Shared) (u : Value), BindsTo s fd ⟨[u], []⟩ [(x, u)])
    (hm : ∃ S', m [.scr (ns.map D.int)] [] = .ok (.bl true) S') :
    codeAny (model P w) callerA (.call (.ref fa) ⟨[.ref a], []⟩) (fun r s' => r = .ok (.ret (.bool true)) ∧ OldK t.heap s'.heap ∧ s'.os = t.os ∧ AllBare s'.gens) t := by
  have iv := vals_ints ia
  have il := ia.length
  have dat : ∀ {ρ : List Addr} {G : Hp} (l : List Int), DatAll c ρ G (l.map D.int) (l.map V.int) := fun {ρ G} l => by
    induction l with
    | nil => exact .nil
    | cons i l ih => exact .cons (by simp only [Dat]) ih
  have isT : ∀ b : Addr, b ∈ cs.map (·.2) → t.heap.get? b = some tab0 := fun b hb => by
    obtain ⟨p, hp, e⟩ := List.mem_map.mp hb
    rw [← e]
    exact (hT p hp).tb
  have noK : ∀ b : Addr, b ∈ cs.map (·.2) → c.K.lookup b = none := fun b hb => by
    obtain ⟨p, hp, e⟩ := List.mem_map.mp hb
    rw [← e]
    exact (hT p hp).nk
  have aT : a ∉ cs.map (·.2) := fun z => by
    have q := isT a z
    rw [la] at q
    cases q
  have main : ∀ H : Hp, (∀ b, b ∈ cs.map (·.2) → H b = some (.tbl #[])) → (∀ b, H b ≠ none → b ∉ cs.map (·.2) → b = a ∧ ∃ o xs, H b = some (.frz o (.lst xs))) → SqL c.K H a (ns.map V.int) → HOk P w H t.heap → (H a ≠ none → c.K.lookup a = none) →
      codeAny (model P w) callerA (.call (.ref fa) ⟨[.ref a], []⟩) (fun r s' => r = .ok (.ret (.bool true)) ∧ OldK t.heap s'.heap ∧ s'.os = t.os ∧ AllBare s'.gens) t := by
    intro H tabs rest sq hok nok
    have hid : ∀ {b : Addr} {o : Obj}, t.heap.get? b = some o → H b = none → (hidT t.heap H).get? b = some o := fun e n => hidT_get e n
    -- what is neither a list nor an empty record is not hidden
    have bare : ∀ {b : Addr} {o : Obj}, t.heap.get? b = some o → (∀ vs n, o.data ≠ .seq vs n) → o.data ≠ .fields #[] → H b = none := fun {b o} e h1 h2 => by
      by_cases z : H b = none
      · exact z
      · exfalso
        by_cases zb : b ∈ cs.map (·.2)
        · rw [isT b zb] at e
          cases e
          exact h2 rfl
        · rw [(rest b z zb).1, la] at e
          cases e
          exact h1 _ _ rfl
    have free : ∀ {b : Addr} {o : Obj} {es : Array DictEntry} {ep : Nat}, t.heap.get? b = some o → o.data = .dict es ep → H b = none := fun {b o es ep} e d => bare e (fun vs n z => by rw [d] at z; cases z) fun z => by rw [d] at z; cases z
    have ns' : ∀ {b : Addr} {f : Str → Option Value}, t.heap.Ns b f → (hidT t.heap H).Ns b f := fun {b f} ⟨o, es, ep, e, d, r⟩ => ⟨o, es, ep, hid e (free e d), d, r⟩
    have kin' : c.K.In (hidT t.heap H) := fun b o e => hid (kin b o e) (by
      by_cases z : H b = none
      · exact z
      · exfalso
        by_cases zb : b ∈ cs.map (·.2)
        · rw [noK b zb] at e
          cases e
        · have zb := (rest b z zb).1
          rw [zb] at e z
          rw [nok z] at e
          cases e)
    have mod : Mod c.K mg (hidT t.heap H) := ⟨kin', ns' gl, ⟨mb, ns' bl, bb⟩, let ⟨mc, h1, h2⟩ := lim; ⟨mc, ns' h1, h2⟩⟩
    have env : Env0 P w c.K mg (hidT t.heap H) callerA [] t H := ⟨rfl, mod, fun b o e => of_hidT e, Nat.le_of_eq (hidT_size _ _), trivial, fun b hb => absurd (show b ∈ ([] : List Addr) from hb) (by simp), hok, .of_eq gn⟩
    have TB : ∀ p ∈ cs, LamX.TabB (hidT t.heap H) mg p.1 p.2 := fun p hp => by
      have T := hT p hp
      refine ⟨?_, ?_, fun z => ?_⟩
      · obtain ⟨o, us, file, tf, flags, tg, inF, text, tt, e1, r1, r2, r3, r⟩ := T.hd
        refine ⟨o, us, file, tf, flags, tg, inF, text, tt, hid e1 (bare e1 (fun vs n z => ?_) fun z => ?_), r1, r2, r3, r⟩
        · rw [r2] at z
          cases z
        · rw [r2] at z
          cases z
          simp at r3
      · obtain ⟨bm, ob, b1, b2, b3, b4, b5, b6⟩ := hbm
        refine ⟨bm, ob, b1, b2, fun q => ?_, fun q => ?_, hid b3 (bare b3 (fun vs n z => by rw [b6] at z; cases z) fun z => by rw [b6] at z; cases z), b4, b5, b6⟩
        · obtain ⟨o, es, ep, e, d, _⟩ := gl
          rw [q, e] at b3
          cases b3
          rw [d] at b6
          cases b6
        · rw [q, T.tb] at b3
          cases b3
          cases b6
      · obtain ⟨o, es, ep, e, d, _⟩ := gl
        rw [z, T.tb] at e
        cases e
        cases d
    have sub : Sub c (fun b => if b ∈ cs.map (·.2) then none else H b) H := ⟨fun b o e => by
      split at e
      · cases e
      · exact e, fun b o e => by
      split at e
      · cases e
      · rename_i nb
        obtain ⟨_, ob, xs, y⟩ := rest b (by rw [e]; simp) nb
        rw [y] at e
        cases e
        (first | assumption | exact ⟨(by intro _ z; cases z), (by intro _ _ z; unfold LamX.CodeO at z; cases z)⟩), fun p hp => by
      obtain ⟨q, hq, e⟩ := hc p hp
      have hb : p.1 ∈ cs.map (·.2) := List.mem_map.mpr ⟨q, hq, e⟩
      refine ⟨if_pos hb, #[], tabs _ hb, True.intro, fun pos cv z => ?_⟩
      have z : codeAmong pos [] = some cv := z
      simp [codeAmong] at z⟩
    have prom : spD c 1 m [.ref a] H (fun v _ => v = .bl true) fun _ _ _ => False := by
      obtain ⟨S', e⟩ := hm
      refine ⟨rfl, [.scr (ns.map D.int)], [], [], _, sub, .cons ?_ .nil, ⟨List.nodup_nil, rfl, fun n o z => by simp at z⟩, ?_⟩
      · simp only [Dat]
        refine ⟨a, ns.map V.int, rfl, ?_, dat ns⟩
        rcases sq with sq | sq
        · refine .inl ⟨by simp, ?_⟩
          rcases sq with sq | ⟨o, sq⟩
          · exact .inl ((if_neg aT).trans sq)
          · exact .inr ⟨o, (if_neg aT).trans sq⟩
        · exact .inr sq
      · rw [e]
        intro v ρ' G' H' _ _ dv
        simpa only [Dat] using dv
    refine codeAny_mono ((F _ kin' (ns' gl) TB).run callerA [] t H ⟨[.ref a], []⟩ [.ref a] [.ref a] _ _ rm env (bnd t (.ref a)) (.cons rfl .nil) prom) fun r s' h => ?_
    cases r with
    | error e =>
      obtain ⟨_, _, _, _, _, _, _, _, _, _, _, _, no⟩ := h
      exact no.elim
    | ok fl =>
      cases fl with
      | next => exact h.elim
      | brk => exact h.elim
      | cont => exact h.elim
      | ret u =>
        obtain ⟨v, H', os, bare', un, hok', rv, q⟩ := h
        have q : v = .bl true := q
        rw [q] at rv
        have ru : u = Value.bool true := rv
        rw [ru]
        have key : ∀ b o, b ∉ cs.map (·.2) → t.heap.get? b = some o → s'.heap.get? b = some o := fun b o nb e => by
          by_cases z : H b = none
          · exact un.keep b o e z (by intro y; exact absurd (show b ∈ ([] : List Addr) from y) (by simp)) (by simp)
          · obtain ⟨_, ob, xs, y⟩ := rest b z nb
            have y2 := un.frzs b ob _ y
            obtain ⟨e1, _⟩ := hok b _ y
            obtain ⟨e2, _⟩ := hok' b _ y2
            rw [e] at e1
            cases e1
            exact e2
        have grown : ∀ b ∈ cs.map (·.2), ∃ more : Array Value, s'.heap.get? b = some { cls := .none, data := .fields more } := fun b hb => by
          obtain ⟨more, z⟩ := un.tbls b #[] (tabs b hb)
          exact ⟨_, hok' b _ z⟩
        refine ⟨rfl, ⟨fun b o e => ?_, fun b o e => ?_⟩, os, bare'⟩
        · by_cases hb : b ∈ cs.map (·.2)
          · obtain ⟨more, hm⟩ := grown b hb
            obtain ⟨p, hp, ep⟩ := List.mem_map.mp hb
            rw [isT b hb] at e
            cases e
            have tb := (hT p hp).tb
            have hd := (hT p hp).hd
            rw [ep] at tb hd
            exact .inr (.inl ⟨(hd.tab tb).isCodeTable, rfl, #[], more, rfl, by rw [Array.empty_append]; exact hm⟩)
          · exact .inl (key b o hb e)
        · by_cases hb : b ∈ cs.map (·.2)
          · obtain ⟨more, hm⟩ := grown b hb
            exact ⟨_, hm⟩
          · exact ⟨o, key b o hb e⟩
  cases hk : c.K.lookup a with
  | some o =>
    have e := kin a o hk
    rw [la] at e
    cases e
    refine main (fun b => if b ∈ cs.map (·.2) then some (.tbl #[]) else none) (fun b hb => if_pos hb) (fun b z nb => absurd (if_neg nb) z) (.inr ⟨_, vals.toArray, _, hk, rfl, rfl, rfl, by rw [List.size_toArray, il]; exact sz, by simpa using iv⟩) (fun b u z => ?_) fun z => absurd (show (if a ∈ cs.map (·.2) then some (HO.tbl #[]) else none) = none from if_neg aT) z
    dsimp only at z
    split at z
    · rename_i hb
      cases z
      exact isT b hb
    · cases z
  | none =>
    refine main (fun b => if b ∈ cs.map (·.2) then some (.tbl #[]) else if b = a then some (.frz { cls := .type "list", data := .seq vals.toArray } (.lst (ns.map V.int))) else none) (fun b hb => if_pos hb) (fun b z nb => ?_) (.inl (.inr ⟨_, (if_neg aT).trans (if_pos rfl)⟩)) (fun b u z => ?_) fun _ => hk
    · rw [if_neg nb] at z ⊢
      by_cases hb : b = a
      · exact ⟨hb, _, _, if_pos hb⟩
      · exact absurd (if_neg hb) z
    · dsimp only at z
      split at z
      · rename_i hb
        cases z
        exact isT b hb
      · split at z
        · rename_i hb
          cases z
          rw [hb]
          exact ⟨la, by rw [List.length_map]; exact sz, vals, _, iv, la⟩
        · cases z
theorem walkGT {l : PySem.W.OpenLaw} {n k : Nat} {q : Program} {loose : List Str} {XP : (Str → Option Value) → Heap → Prop} {YP : World → Heap → Prop} {d : DefRec} {K : Params → PySem.W.Frag} {m : FM} {x : Str}
    (hn : l.most = some n) (hn2 : n ≤ sizeLine) (hdf : d.params.defaults = []) (hr : Rm k callerA) (hY : ∀ (w : World) (h : Heap), YP w h → (K w.params).In h)
    (F : ∀ (w : World) (mg : Str → Option Value) (fa : Addr) (h : Heap), (K w.params).In h → h.Ns mainGlobals mg → mg d.name = some (.ref fa) → (∀ (e : DefRec) (y : Str) (c P : Addr), (recsOf q).find? (fun e => e.name == y) = some e → PySem.W.tabIn (K w.params) y = some (c, P) → PySem.W.CodeHd h c P ∧ h.get? P = some tab0) →
      ∃ (c : Cc) (cs : List (Addr × Addr)) (fd : FuncData), c.K = K w.params ∧ (∀ p ∈ cs, TabH (K w.params) h p) ∧ (∀ p ∈ c.T, ∃ q ∈ cs, q.2 = p.1) ∧ (∀ (s : Shared) (u : Value), BindsTo s fd ⟨[u], []⟩ [(x, u)]) ∧
        ∀ base : Heap, (K w.params).In base → base.Ns mainGlobals mg → (∀ p ∈ cs, LamX.TabB base mg p.1 p.2) → FnG l.prog w (K w.params) mg base k fa fd [x] (spD c 1 m))
    (hm : ∀ ns : List Int, ns.length ≤ n → ∃ S', m [.scr (ns.map D.int)] [] = .ok (.bl true) S') :
    PySem.W.WalkO q loose XP YP l.row.toRowW d [] (fun f vs => PySem.call f vs) := by
  refine Att.attach_call hn hdf fun w s₀ s₁ mg mb fa o pm cd doc a vs ns G Y ho hd hcd hmg hobj hints hlen hg => ?_
  obtain ⟨c, cs, fd, hK, hT, hc, hb, hF⟩ := F w mg fa _ (hY w _ Y) G.T.g hmg fun e y c P h1 h2 => PySem.W.tab_of G.T (hY w _ Y) h1 h2
  rw [← hK] at hT hF
  exact lawGT (c := c) (hK ▸ hY w _ Y) G.T.g G.T.b G.T.builtins G.T.nolimit hg hT hc G.T.bmain hobj hints (Nat.le_trans hlen hn2) hr hF hb (hm ns hlen)
end DW
/-! ### exceptions of own classes: made, their fields written, read, asked for their class -/
namespace PySem
namespace DWX
open PySem.W PySem.Calls PyProof.Rows
structure XMk (K : Frag) (C : Addr) (B newId initId : String) (bmB : List Value) : Prop where
  qi : excInitIn K C bmB newId = true
  ov : excOver K C bmB = true
  sa : findIn K (.ref C) "__setattr__" = some (some (.builtin "object.__setattr__"))
  hh : hasDictIn K C = true
  exC : subIn K (.ref C) (.type "BaseException") = some true
  tyC : typeIn K (.ref C) = some (.type "type")
  kC : keepIn K (.ref C) = true
section
open Builtin Builtin.ObjectAttr
variable {prog : Program} {w : World} {A : Around} {E : Value → Shared → Prop} {R : Result → Shared → Prop} {hp : Heap} {g : Array GenState} {d : Drawn} {t : Nat} {os : OsState} {B : String} {bmB : List Value}
theorem osaN {K : Frag} {name : Str} {tk : Tok} {v : Value} {x C : Addr} {fv : Array Value} (SF : StoreFacts B bmB "object.__setattr__" "object")
    (X : K.In hp) (hx : hp.get? x = some { cls := .ref C, data := .fields fv }) (ov : excOver K C bmB = true) (hh : hasDictIn K C = true) (ha : findIn K (.ref C) name = some none)
    (hq : ∀ h' tk' dx, (∀ b o, b ≠ x → hp.get? b = some o → h'.get? b = some o) → hp.objs.size ≤ dx → dx ≠ x → h'.get? x = some { cls := .ref C, dict := some dx, data := .fields fv } →
      h'.Ns1 dx (fun y => if y = name then some v else none) → R (.ok (.ret .none)) ⟨h', g, d, tk', os⟩) :
    codeAny (model prog w) A (.call (.builtin "object.__setattr__") ⟨[.ref x, .str name tk, v], []⟩) R ⟨hp, g, d, t, os⟩ := by
  have I : InstAt hp x { cls := .ref C, data := .fields fv } C none := ⟨hx, rfl, rfl, trivial⟩
  have hxs : x ≠ hp.objs.size := Nat.ne_of_lt (Heap.lt_size hx)
  obtain ⟨cd, hc, hd'⟩ := any_some hh
  have hcls : Looks (model prog w) hp (classData C) cd := looks_clsIn X hc
  refine osa_openX (s := ⟨hp, g, d, t, os⟩) (r := none) SF X I ov (by unfold takerIn; rw [ha] <;> rfl) fun b => ?_
  obtain ⟨nm, bs, mro, ns, qn, hd, sn, sb, ab, col, del⟩ := cd
  dsimp only at hd'
  subst hd'
  dsimp only
  unfold storeInOwnDict ownDictForStores
  repeat (first | with_reducible refine PySem.HandSPX.store_in_new ?_ ?_ | with_reducible refine wpAny_loadPart_at hx ?_ | with_reducible refine hcls.at ?_ | wp_step)
  · exact ⟨_, #[], _, (Heap.get?_update_ne _ _ _ _ hxs.symm).trans (Heap.get?_push_at rfl rfl), rfl, fun e he => absurd he (by simp), fun _ => rfl⟩
  · intro h' tk' hn' hs
    have hx₁ : (hp.push { cls := .type "dict", data := .dict #[] }).get? x = some { cls := .ref C, data := .fields fv } := Heap.get?_push_of_some _ hx
    refine hq h' tk' hp.objs.size (fun b o hb ho => ?_) (Nat.le_refl _) hxs.symm ?_ hn'
    · exact (hs.2 b (Nat.ne_of_lt (Heap.lt_size ho))).trans ((Heap.get?_update_ne _ _ _ _ hb).trans (Heap.get?_push_of_some _ ho))
    · exact (hs.2 x hxs).trans (Heap.get?_update_self _ hx₁ rfl)
theorem osaO {K : Frag} {name : Str} {tk : Tok} {v : Value} {x C dx : Addr} {fv : Array Value} {m0 : Str → Option Value} {nl : List Str} (SF : StoreFacts B bmB "object.__setattr__" "object")
    (X : K.In hp) (hx : hp.get? x = some { cls := .ref C, dict := some dx, data := .fields fv }) (hns : hp.Ns1 dx m0) (hw : Within m0 nl) (hz : nl.length ≤ 1000) (ov : excOver K C bmB = true) (hh : hasDictIn K C = true) (ha : findIn K (.ref C) name = some none)
    (hq : ∀ h' tk', (∀ b o, b ≠ dx → hp.get? b = some o → h'.get? b = some o) → h'.Ns1 dx (fun y => if y = name then some v else m0 y) → R (.ok (.ret .none)) ⟨h', g, d, tk', os⟩) :
    codeAny (model prog w) A (.call (.builtin "object.__setattr__") ⟨[.ref x, .str name tk, v], []⟩) R ⟨hp, g, d, t, os⟩ := by
  obtain ⟨oD, esD, epD, hoD, hdD, _⟩ := hns.count hw
  have I : InstAt hp x { cls := .ref C, dict := some dx, data := .fields fv } C (some oD) := ⟨hx, rfl, rfl, hoD⟩
  obtain ⟨cd, hc, hd'⟩ := any_some hh
  have hcls : Looks (model prog w) hp (classData C) cd := looks_clsIn X hc
  refine osa_openX (s := ⟨hp, g, d, t, os⟩) (r := none) SF X I ov (by unfold takerIn; rw [ha] <;> rfl) fun b => ?_
  obtain ⟨nm, bs, mro, ns, qn, hd, sn, sb, ab, col, del⟩ := cd
  dsimp only at hd'
  subst hd'
  dsimp only
  unfold storeInOwnDict ownDictForStores
  repeat (first | with_reducible refine PySem.OEX.store_in_old hns hw hz ?_ | with_reducible refine wpAny_loadPart_at hx ?_ | with_reducible refine hcls.at ?_ | wp_step)
  intro h' tk' hn' hs
  exact hq h' tk' (fun b o hb ho => (hs.2 b hb).trans ho) hn'
end
end DWX
end PySem
namespace DW
open PySem PySem.Spec PyProof.Rows L2 PySem.DWX
theorem fnG_raw {P : Program} {w : World} {K : PySem.W.Frag} {mg : Str → Option Value} {base : Heap} {k : Nat} {f : Addr} {fd : FuncData} {x qual : Str} {params : Arguments} {body : List Stmt} {scope : Scope} {dvs : List V} {kws : List (Str × V)} {N ps : List Str} {t : TS}
    (F : FunD K x qual params body scope dvs kws f fd) (S : FnScope N ps scope)
    (hb : ∀ (cdv : Value) (A : Around) (outer : List Env) (s : Shared) (H : Hp) (E : XK), Rm k (A.deeper (envOfC qual scope s.heap.objs.size f cdv)) → PSs (cxOf (CX P w) P w K mg base N qual scope f cdv A outer s H E) body t) :
    FnG P w K mg base (k + 1) f fd ps (fun vs H Q _ => vs.length = ps.length ∧ t { nx := fun _ H' => Q .non H', rt := Q } (L2.start N vs) H) := by
  obtain ⟨oc, od, dV, kV, doc, pm, an, cdv, ct, osl, rfl, lk, hcd, _, _⟩ := F.ex
  refine ⟨fun vs H Q E h => h.1, fun A outer s H args us vs Q E hr e0 hbd r hsp => ?_⟩
  obtain ⟨hl, hwp⟩ := hsp
  have KX : K.In s.heap := e0.mod.kin.keeps fun b o e => (e0.bs b o e).1
  have kinds : ∀ y ∈ ps.zip us, scope.names.lookup y.1 = some .local ∨ (scope.names.lookup y.1 = some .cell ∧ ((cellsFrom (s.heap.objs.size + 1) scope.names []).lookup y.1).isSome = true) := fun ⟨n, v⟩ hy => by
    rcases S.par n (List.of_mem_zip hy).1 with q | q
    · exact .inl q
    · exact .inr ⟨q, PySem.W.cellsFrom_some _ _ _ (.inl q)⟩
  refine codeAny_call_function hr.depth (KX _ _ lk) rfl S.co S.gen rfl (PySem.W.codeRec_of KX hcd) (hbd _ _ _ _ ?_)
  refine wpAny_newFunctionEnv_cells S.kind kinds fun env he s1 z => ?_
  subst he
  refine ⟨(e0.mod.nolimit.keeps fun b o e => (e0.bs b o e).1).keeps z.toInCall.keep, codeAny_func ?_⟩
  have I : Inv (cxOf (CX P w) P w K mg base N qual scope f cdv A outer s H E) [] (L2.start N vs) H s1 := inv_start S hr.hd e0 hl r z
  have fin : ∀ {σ' : L2.St} {H' : Hp} {v : V} {u : Value} {s' : Shared}, Inv (cxOf (CX P w) P w K mg base N qual scope f cdv A outer s H E) [] σ' H' s' → RelV v u → Q v H' → CE outer P w H s Q u s' :=
    fun {σ' H' v u s'} J rv q => ⟨v, H', J.os, J.bare, J.base, J.hok, rv, q⟩
  refine wpAny_mono ((hb cdv A outer s H E (hr.deeper _)).run [] s1 (L2.start N vs) H { nx := fun _ H' => Q .non H', rt := Q } I hwp) (fun fl s' hs => ?_) fun e s' hs => hs
  cases fl with
  | ret u =>
    obtain ⟨v, σ', H', J, rv, q⟩ := hs
    exact fin J rv q
  | next =>
    obtain ⟨σ', H', J, q⟩ := hs
    exact fin (v := V.non) (u := Value.none) J rfl q
  | brk =>
    obtain ⟨_, _, _, q⟩ := hs
    exact q.elim
  | cont =>
    obtain ⟨_, _, _, q⟩ := hs
    exact q.elim
def XSt (K : PySem.W.Frag) (C : Addr) (f : Str) : Prop := ∃ (B : String) (bmB : List Value), StoreFacts B bmB "object.__setattr__" "object" ∧ PySem.W.excOver K C bmB = true ∧ PySem.W.hasDictIn K C = true ∧ PySem.W.findIn K (.ref C) "__setattr__" = some (some (.builtin "object.__setattr__")) ∧ PySem.W.findIn K (.ref C) f = some none
section
variable {X : Cx} {pins : List (Addr × Obj)} {σ : L2.St} {H : Hp} {s : Shared} {a C dx : Addr} {f : Str} {y : V} {u : Value} {fs : List (Str × V)} {Q : Unit → Shared → Prop} {E : Value → Shared → Prop} {A : Around}
theorem ostN (T : XSt X.K C f) (I : Inv X pins σ H s) (e : H a = some (exo a C none)) (ry : RelV y u)
    (h : ∀ dx s', H dx = none → dx ≠ a → Inv X pins σ (upd (upd H dx (exd dx [(f, y)])) a (exo a C (some dx))) s' → Q () s') : wpAny (model X.prog X.w) A (setAttr (.ref a) f u) Q E s := by
  obtain ⟨B, bmB, SF, ov, hh, sa, hno⟩ := T
  obtain ⟨t1, ho⟩ := exo_at I.hok e
  obtain ⟨hp, g, d, t, os⟩ := s
  refine PySem.W.set_plain I.kIn (ox := { cls := .ref C, dict := none, data := .fields #[.ref t1, .none, .none, .none, .bool false, .none] }) (od := none) ⟨ho, rfl, rfl, trivial⟩ sa ?_
  refine osaN SF I.kIn ho ov hh hno (fun h' tk' dx k dn dne hx hn => ?_)
  have hnd : H dx = none := I.hok.fresh dn
  have nd : ∀ {b : Addr} {o : Obj}, hp.get? b = some o → b ≠ dx := fun {b o} q => Nat.ne_of_lt (Nat.lt_of_lt_of_le (Heap.lt_size q) dn)
  have na : ∀ {b : Addr}, H b = none → b ≠ a := fun {b} n z => by
    rw [z, e] at n
    cases n
  have Un1 : Un X.fs [] H (upd (upd H dx (exd dx [(f, y)])) a (exo a C (some dx))) hp h' := {
    keep := fun b o q n _ _ => k b o (na n) q
    slot := fun b o q n _ _ => ⟨o.slots, k b o (na n) q⟩
    free := fun b o q n _ => by rw [upd_ne (na n), upd_ne (nd q)]; exact n
    there := fun b o q _ => by
      by_cases hb : b = a
      · exact ⟨_, by rw [hb]; exact hx⟩
      · exact ⟨o, k b o hb q⟩
    tups := fun b xs q => by rw [upd_ne (at_ne e q exo_tup), upd_ne (ne_of_none q hnd)]; exact q
    frzs := fun b o v q => by rw [upd_ne (at_ne e q exo_frz), upd_ne (ne_of_none q hnd)]; exact q
    tbls := fun b ps q => ⟨#[], by rw [upd_ne (at_ne e q exo_tbl), upd_ne (ne_of_none q hnd), q]; simp⟩ }
  refine h dx _ hnd dne (I.un (t' := tk') Un1 fun b o q => ?_)
  by_cases hb : b = a
  · subst hb
    rw [upd_same] at q
    cases q
    exact exo_ok hx
  · rw [upd_ne hb] at q
    by_cases hd : b = dx
    · subst hd
      rw [upd_same] at q
      cases q
      exact exd_ok hn (relO_put (fs := []) ry fun g => True.intro)
    · rw [upd_ne hd] at q
      exact (I.hok b o q).stay (fun c v hc z => k c v (by
          rcases hc with hc | hc
          · rw [hc]
            exact hb
          · exact at_ne e hc exo_own) z)
        (fun c hc => by rw [upd_ne (at_ne e hc exo_own), upd_ne (ne_of_none hc hnd)]; exact hc) (fun c xs hc => by rw [upd_ne (at_ne e hc exo_tup), upd_ne (ne_of_none hc hnd)]; exact hc)
theorem ostO (T : XSt X.K C f) (I : Inv X pins σ H s) (e : H a = some (exo a C (some dx))) (ed : H dx = some (exd dx fs)) (hl : fs.length ≤ 900) (ry : RelV y u)
    (h : ∀ s', Inv X pins σ (upd H dx (exd dx ((f, y) :: fs))) s' → Q () s') : wpAny (model X.prog X.w) A (setAttr (.ref a) f u) Q E s := by
  obtain ⟨B, bmB, SF, ov, hh, sa, hno⟩ := T
  obtain ⟨t1, ho⟩ := exo_at I.hok e
  obtain ⟨mA, hns, rel⟩ := exd_at I.hok ed
  have hw := within_of rel
  obtain ⟨hp, g, d, t, os⟩ := s
  obtain ⟨oD, _, _, hoD, _, _⟩ := hns.count hw
  refine PySem.W.set_plain I.kIn (ox := { cls := .ref C, dict := some dx, data := .fields #[.ref t1, .none, .none, .none, .bool false, .none] }) (od := some oD) ⟨ho, rfl, rfl, hoD⟩ sa ?_
  refine osaO SF I.kIn ho hns hw (by rw [List.length_map]; omega) ov hh hno (fun h' tk' k hn => ?_)
  have hd : ∃ o, h'.get? dx = some o := by
    obtain ⟨o, _, _, e', _⟩ := hn
    exact ⟨o, e'⟩
  exact h _ (I.write (t' := tk') (x := dx) (e := dx) (o := exd dx ((f, y) :: fs)) (by rw [ed]; exact True.intro) (.inl rfl) k hd (exd_ok hn (relO_put ry rel)))
end
def tOX (K : PySem.W.Frag) (f : Str) (to te : TE) : TS := fun D σ H => te σ H fun y H1 => to σ H1 fun x H2 => ∃ a C : Addr, x = .ref a ∧ XSt K C f ∧
  ((H2 a = some (exo a C none) ∧ ∀ dx, H2 dx = none → dx ≠ a → D.nx σ (upd (upd H2 dx (exd dx [(f, y)])) a (exo a C (some dx)))) ∨
    ∃ (dx : Addr) (fs : List (Str × V)), H2 a = some (exo a C (some dx)) ∧ H2 dx = some (exd dx fs) ∧ fs.length ≤ 900 ∧ D.nx σ (upd H2 dx (exd dx ((f, y) :: fs))))
section
variable {X : Cx} {o e : Expr} {es : List Expr} {to te : TE} {ta : TA} {f x : Str} {p p' p1 p2 pos : Pos}
theorem ps_ox (ho : L2.PE X o to) (he : L2.PE X e te) (hs : swapsWith e (some (.Attribute o f p')) pos.line X.env = pure false := by rfl) : PS X (.Assign [.Attribute o f p'] e pos) (tOX X.K f to te) := by
  refine ⟨fun pins s σ H D I h => ?_⟩
  refine plainObj_wpAny_Assign_Attribute (thn (he.run pins s σ H _ I h) fun v s1 ⟨y, H1, I1, r1, q1⟩ => thn (ho.run pins s1 σ H1 _ I1 q1) fun u s2 ⟨x, H2, I2, r2, a, C, ex, T, q⟩ => ?_) hs
  subst ex
  obtain rfl : u = Value.ref a := r2
  rcases q with ⟨ea, q⟩ | ⟨dx, fs, ea, ed, hl, q⟩
  · exact ostN T I2 ea r1 fun dx s' n ne J => ⟨σ, _, J, q dx n ne⟩
  · exact ostO T I2 ea ed hl r1 fun s' J => ⟨σ, _, J, q⟩
theorem pmkX {B newId initId : String} {bmB : List Value} {C fI : Addr} {k : Nat} {fd : FuncData} {ps : List Str} {sp : Sp} (FB : ExcBaseFacts B newId initId bmB) (M : XMk X.K C B newId initId bmB) (iC : PySem.W.findIn X.K (.ref C) "__init__" = some (some (.ref fI))) (tI : PySem.W.typeIn X.K (.ref fI) = some (.type "function"))
    (F1 : FnG X.prog X.w X.K X.mg X.base k fI fd ps sp) (hr : Rm (k + 1) X.A) (hb : Binds X.K fd ps []) (hg : Gl X x) (hm : X.mg x = some (.ref C)) (ha : PA X (e :: es) ta)
    (hdb : (x == ("__debug__" : Str)) = false := by decide) (he : starEach (e :: es) X.env = (false, eval e X.env) :: starEach es X.env := by rfl) (hpl : (backTo pos (starEach es X.env)).any (·.1) = false := by rfl) :
    PMk X (.Call (.Name x p) (e :: es) [] pos) (tMkO C sp [] ta) := by
  intro pins s σ H Q I h
  refine wpAny_Call_Name_kw (ld_glob I hg hm ?_ hdb)
  refine PySem.W.callWith_K (h₀ := X.base) I.ok.mod.kin M.kC (thn (ha.run pos pins s σ H _ I h) fun us s1 ⟨vs, H1, I1, r1, hz, q1⟩ => ⟨I1.kIn, ?_⟩) he hpl
  show wpAny _ _ (call (.ref C) us) _ _ _
  obtain ⟨hp, g, dr, tk, os⟩ := s1
  obtain ⟨nm, N', qn, bs, bm, hdct, sn, sub, ab, col, dd, k0, k1, k2, k3, k5, hC, hT⟩ := PySem.W.excInit_of I1.kIn M.qi
  have hsz : hp.objs.size ≤ hp.objs.size + 1 := Nat.le_succ _
  have hn : H1 (hp.objs.size + 1) = none := I1.hok.fresh hsz
  have hq := q1 (hp.objs.size + 1) hn
  have kk : ∀ b o, hp.get? b = some o → ((hp.push (PySem.W.kdv_tup us)).push (PySem.HandSPX.excO C hp.objs.size)).get? b = some o := fun b o e => Heap.get?_push_of_some _ (Heap.get?_push_of_some _ e)
  have hget : ((hp.push (PySem.W.kdv_tup us)).push (PySem.HandSPX.excO C hp.objs.size)).get? (hp.objs.size + 1) = some (PySem.HandSPX.excO C hp.objs.size) := by heap_get
  have I2 : Inv X pins σ (upd H1 (hp.objs.size + 1) (exo (hp.objs.size + 1) C none)) ⟨(hp.push (PySem.W.kdv_tup us)).push (PySem.HandSPX.excO C hp.objs.size), g, dr, tk, os⟩ :=
    I1.laid (t' := tk) (a := hp.objs.size + 1) (o := exo (hp.objs.size + 1) C none) (h' := (hp.push (PySem.W.kdv_tup us)).push (PySem.HandSPX.excO C hp.objs.size)) kk hsz (exo_ok hget)
  rw [List.append_nil] at hq
  have r2 : Vals (V.ref (hp.objs.size + 1) :: vs) (Value.ref (hp.objs.size + 1) :: us) := .cons rfl r1
  have hl : ((Value.ref (hp.objs.size + 1) :: us) ++ []).length = ps.length := by
    have e := r2.length
    rw [F1.len _ _ _ _ hq] at e
    rw [List.append_nil]
    exact e.symm
  have hus : us.length ≤ sizeLine := by
    rw [← Paired.length r1, sizeLine_eq]
    omega
  have bnd := hb _ (Value.ref (hp.objs.size + 1) :: us) I2.kIn hl
  rw [List.append_nil] at bnd
  refine wpAny_call (PySem.HandSPX.call_own FB hT hC (PySem.W.looks_findIn I1.kIn iC) (fun self => PySem.W.bind_fn I1.kIn self tI) hus
    (codeAny_mono (F1.run _ X.stack _ _ ⟨Value.ref (hp.objs.size + 1) :: us, []⟩ (Value.ref (hp.objs.size + 1) :: us) _ _ (fun _ _ _ => False) (hr.make C us []) (I2.env0.make C us []) bnd r2 hq) fun r s' hq' => ?_))
  cases r with
  | error er =>
    obtain ⟨_, _, _, _, _, _, _, _, _, _, _, _, no⟩ := hq'
    exact no.elim
  | ok fl =>
    cases fl with
    | ret u =>
      obtain ⟨v, H2, os2, bare2, un2, hok2, rv, ev, d, fs, ea, ed, hd1, q2⟩ := hq'
      subst ev
      obtain ⟨h2, g2, d2, t2, os'⟩ := s'
      exact ⟨rv, mk_end (raises_own M.exC M.tyC) I1 hsz kk un2 hok2 os2 bare2 ea ed hd1 q2⟩
    | next => exact False.elim hq'
    | brk => exact False.elim hq'
    | cont => exact False.elim hq'
theorem pe_cinit {pl : Sem Bool} {D fI : Addr} {mc : Value} {k : Nat} {fd : FuncData} {ps : List Str} {sp : Sp} {m : Str} (r : ClX.CRead X.K D mc) (hv : PySem.W.findCls X.K (.ref D) mc m = some (.val (.ref fI))) (kf : PySem.W.keepIn X.K (.ref fI) = true) (F1 : FnG X.prog X.w X.K X.mg X.base k fI fd ps sp) (hr : Rm k X.A) (hb : Binds X.K fd ps []) (hg : Gl X x) (hm : X.mg x = some (.ref D)) (ha : PA X (e :: es) ta)
    (hc : eval (.Call (.Attribute (.Name x p1) m p2) (e :: es) [] pos) X.env = (do
      let ov ← eval (.Name x p1) X.env
      standAt p2.atName
      let (f, first) ← holding [ov] (getMethod ov m pl)
      callWith pos f first (backTo pos (starEach (e :: es) X.env)) (backToKw pos (keywordEach [] X.env))) := by rfl)
    (hdb : (x == ("__debug__" : Str)) = false := by decide) (he : starEach (e :: es) X.env = (false, eval e X.env) :: starEach es X.env := by rfl) (hpl : (backTo pos (starEach es X.env)).any (·.1) = false := by rfl) :
    L2.PE X (.Call (.Attribute (.Name x p1) m p2) (e :: es) [] pos) (fun σ H Q => ta σ H fun vs H1 => sp vs H1 Q fun _ _ _ => False) := by
  refine ⟨fun pins s σ H Q I h => ?_⟩
  refine PySem.W.methodCall_KW (ld_glob I hg hm ?_ hdb) hc
  refine PySem.W.method_cls I.kIn r.ga (ClX.getcval_ok (v := .ref fI) I r ⟨hv, rfl⟩ fun s' J => ?_)
  show wpAny _ _ (callWith pos (Value.ref fI) [] (backTo pos (starEach (e :: es) X.env)) []) _ _ _
  refine PySem.W.callWith_K (first := []) (h₀ := X.base) J.ok.mod.kin kf (thn (ha.run pos pins _ σ H _ J h) fun us s1 ⟨vs, H1, I1, r1, q1⟩ => ⟨I1.kIn, ?_⟩) he hpl
  have hl : (us ++ []).length = ps.length := by
    have e := r1.length
    rw [F1.len _ _ _ _ q1] at e
    rw [List.append_nil]
    exact e.symm
  have bnd := hb _ us I1.kIn hl
  rw [List.append_nil] at bnd
  refine wpAny_call (codeAny_mono (F1.run _ X.stack _ _ ⟨us, []⟩ us _ _ (fun _ _ _ => False) hr I1.env0 bnd r1 q1) fun r s' hq' => ?_)
  cases r with
  | error er =>
    obtain ⟨_, _, _, _, _, _, _, _, _, _, _, _, no⟩ := hq'
    exact no.elim
  | ok fl =>
    cases fl with
    | ret u => exact I1.after hq'
    | next => exact False.elim hq'
    | brk => exact False.elim hq'
    | cont => exact False.elim hq'
end
end DW
namespace DW
open PySem PySem.Spec PyProof.Rows L2 PySem.DWX
/-! ### raise C(e) -/
def spI1 (K : PySem.W.Frag) (f : Str) : Sp := fun vs H Q _ => ∃ (a C : Addr) (y : V), vs = [.ref a, y] ∧ XSt K C f ∧ H a = some (exo a C none) ∧ ∀ dx, H dx = none → dx ≠ a → Q .non (upd (upd H dx (exd dx [(f, y)])) a (exo a C (some dx)))
def spI2 (K : PySem.W.Frag) (f1 t1 f2 : Str) : Sp := fun vs H Q _ => ∃ (a C : Addr) (y : V), vs = [.ref a, y] ∧ XSt K C f1 ∧ XSt K C f2 ∧ H a = some (exo a C none) ∧ ∀ dx, H dx = none → dx ≠ a → Q .non (upd (upd H dx (exd dx [(f2, y), (f1, .str t1)])) a (exo a C (some dx)))
theorem upd_swap {H : Hp} {a b : Addr} {o1 o2 o3 : HO} (h : b ≠ a) : upd (upd (upd H b o1) a o2) b o3 = upd (upd H b o3) a o2 := by
  funext z
  unfold upd
  by_cases h1 : z = b
  · subst h1
    simp [h]
  · simp [h1]
section
variable {P : Program} {w : World} {K : PySem.W.Frag} {mg : Str → Option Value} {base : Heap} {fa : Addr} {fd : FuncData} {qual x f f1 f2 t1 : Str} {params : Arguments} {body : List Stmt} {scope : Scope} {q1 q2 q3 q4 p1 p2 p3 p4 p5 p6 : Pos}
theorem FnG.imp {k : Nat} {ps : List Str} {sp sp' : Sp} (F : FnG P w K mg base k fa fd ps sp) (h : ∀ vs H Q E, sp' vs H Q E → sp vs H Q E) : FnG P w K mg base k fa fd ps sp' :=
  ⟨fun vs H Q E q => F.len vs H Q E (h _ _ _ _ q), fun A outer s H args us vs Q E hr he hb hv hs => F.run A outer s H args us vs Q E hr he hb hv (h _ _ _ _ hs)⟩
theorem init1 (F : FunD K "__init__" qual params body scope [] [] fa fd) (S : FnScope ["self", x] ["self", x] scope) (hbd : body = [.Assign [.Attribute (.Name "self" q1) f q2] (.Name x q3) q4]) (h0 : Vis scope "self") (h1 : Vis scope x)
    (hd : (x == ("__debug__" : Str)) = false := by decide) (hcd : (x == ("__classdict__" : Str)) = false := by decide) : FnG P w K mg base 1 fa fd ["self", x] (spI1 K f) := by
  subst hbd
  refine FnG.imp (fnG_raw (t := tOX K f (tVar 0) (tVar 1)) F S fun cdv A outer s H E hr => ?_) fun vs H Q E h => ?_
  · exact pss_one (ps_ox (pe_var (i := 0) rfl h0) (pe_var (i := 1) rfl h1 hd hcd))
  · obtain ⟨a, C, y, rfl, T, e, q⟩ := h
    exact ⟨rfl, y, rfl, .ref a, rfl, a, C, rfl, T, .inl ⟨e, fun dx h1 h2 => q dx h1 h2⟩⟩
theorem init2 {j : Nat} {D fI : Addr} {fdI : FuncData} {mc : Value} (F : FunD K "__init__" qual params body scope [] [] fa fd) (S : FnScope ["self", x] ["self", x] scope)
    (hbd : body = [.Expr (.Call (.Attribute (.Name "BadValue" p1) "__init__" p2) [.Name "self" p3, .Constant (.str t1) j p4] [] p5) p6, .Assign [.Attribute (.Name "self" q1) f2 q2] (.Name x q3) q4]) (h0 : Vis scope "self") (h1 : Vis scope x)
    (hg : scope.names.lookup ("BadValue" : Str) = some .globalImplicit) (hm : mg "BadValue" = some (.ref D)) (r : ClX.CRead K D mc) (hv : PySem.W.findCls K (.ref D) mc "__init__" = some (.val (.ref fI))) (kf : PySem.W.keepIn K (.ref fI) = true)
    (G : FnG P w K mg base 1 fI fdI ["self", "what"] (spI1 K f1)) (hb : Binds K fdI ["self", "what"] [])
    {pl : Addr → Value → Sem Bool} (hc : ∀ (L : Addr) (cdv : Value), eval (.Call (.Attribute (.Name "BadValue" p1) "__init__" p2) [.Name "self" p3, .Constant (.str t1) j p4] [] p5) (envOfC qual scope L fa cdv) = (do
      let ov ← eval (.Name "BadValue" p1) (envOfC qual scope L fa cdv)
      standAt p2.atName
      let (f, first) ← holding [ov] (getMethod ov "__init__" (pl L cdv))
      callWith p5 f first (backTo p5 (starEach [.Name "self" p3, .Constant (.str t1) j p4] (envOfC qual scope L fa cdv))) (backToKw p5 (keywordEach [] (envOfC qual scope L fa cdv)))))
    (hd : (x == ("__debug__" : Str)) = false := by decide) (hcd : (x == ("__classdict__" : Str)) = false := by decide) : FnG P w K mg base 2 fa fd ["self", x] (spI2 K f1 t1 f2) := by
  subst hbd
  refine FnG.imp (fnG_raw (k := 1) (t := tSeq (tDrop (fun σ H Q => tCons (tVar 0) (tCons (tC (.str t1)) tNil) σ H fun vs H1 => spI1 K f1 vs H1 Q fun _ _ _ => False)) (tOX K f2 (tVar 0) (tVar 1))) F S fun cdv A outer s H E hr => ?_) fun vs H Q E h => ?_
  · exact pss_cons (ps_expr (pe_cinit (X := cxOf (CX P w) P w K mg base ["self", x] qual scope fa cdv A outer s H E) r hv kf G hr hb hg hm (pa_cons (pe_var (i := 0) rfl h0) (pa_cons pe_str pa_nil)) (hc _ _))) (pss_one (ps_ox (pe_var (i := 0) rfl h0) (pe_var (i := 1) rfl h1 hd hcd)))
  · obtain ⟨a, C, y, rfl, T1, T2, e, q⟩ := h
    refine ⟨rfl, ⟨.ref a, rfl, ?_⟩⟩
    refine ⟨a, C, .str t1, rfl, T1, e, fun dx hdx hne => ?_⟩
    refine ⟨y, rfl, .ref a, rfl, a, C, rfl, T2, .inr ⟨dx, [(f1, .str t1)], upd_same, by rw [upd_ne hne, upd_same], by simp, ?_⟩⟩
    show Q .non _
    rw [upd_swap hne]
    exact q dx hdx hne
end
def XcG (P : Program) (w : World) (c : Cc) (mg : Str → Option Value) (base : Heap) (k : Nat) (cn : Str) (ns : List Str) (gv : V → List V) : Prop :=
  ∃ (C fI : Addr) (fd : FuncData) (B newId initId : String) (bmB : List Value) (ps : List Str) (sp : Sp), c.xc cn = some C ∧ mg cn = some (.ref C) ∧ ExcBaseFacts B newId initId bmB ∧ XMk c.K C B newId initId bmB ∧ PySem.W.findIn c.K (.ref C) "__init__" = some (some (.ref fI)) ∧ PySem.W.typeIn c.K (.ref fI) = some (.type "function") ∧
    FnG P w c.K mg base k fI fd ps sp ∧ Binds c.K fd ps [] ∧
    ∀ (a : Addr) (y : V) (H : Hp) (Q : VK), H a = some (exo a C none) → (∀ dx, H dx = none → dx ≠ a → Q .non (upd (upd H dx (exd dx (ns.zip (gv y)))) a (exo a C (some dx)))) → sp [.ref a, y] H Q fun _ _ _ => False
def sRaise (n : Str) (ns : List Str) (g : D → List D) (fe : FE) : FS := fun δ S => (fe δ S).go δ fun d S' => .ex ⟨n, ns, g d⟩ δ S'
theorem ds_raise {c : Cc} {X : Cx} {W : WX} {k : Nat} {cn : Str} {ns : List Str} {gv : V → List V} {gd : D → List D} {e : Expr} {fe : FE} {p pos pos' : Pos} (G : XcG X.prog X.w c X.mg X.base k cn ns gv) (hd : ∀ ρ G d v, Dat c ρ G d v → DatAll c ρ G (gd d) (gv v)) (hl : ∀ d, ns.length = (gd d).length)
    (hr : Rm (k + 1) X.A) (tk : Takes X W) (hg : Gl X cn) (he : DE c X W e fe) (hcm : X.calm = true := by rfl) (hdb : (cn == ("__debug__" : Str)) = false := by decide) (hst : starEach [e] X.env = (false, eval e X.env) :: starEach [] X.env := by rfl) (hK : X.K = c.K := by rfl) :
    DS c X W (.Raise (some (.Call (.Name cn p) [e] [] pos)) none pos') (sRaise cn ns gd fe) := by
  obtain ⟨C, fI, fd, B, newId, initId, bmB, ps, sp, hC, hm, FB, M, iC, tI, F1, hb, hsp⟩ := G
  rw [← hK] at M iC tI F1 hb
  refine ⟨fun pins s σ H D I h => (ps_raise hcm tk (pmkX FB M iC tI F1 hr hb hg hm (pa_cons he pa_nil hst) hdb hst rfl)).run pins s σ H D I ?_⟩
  obtain ⟨δ, S, ρ, G, sb, hlc, hrp, h⟩ := h
  unfold sRaise at h
  rw [wpS_go] at h
  refine ⟨δ, S, ρ, G, sb, hlc, hrp, wp_mono h (fun d S1 h1 v ρ1 G1 H1 r1 g1 dv => ?_) fun _ _ z => fun ρ' G' H' cls d r' g' dx => z σ ρ' G' H' cls d r' g' (hlc.ext g'.ext) dx⟩
  refine ⟨by simp, fun a ha => hsp a v _ _ upd_same fun dx hdx hne => ⟨rfl, dx, ns.zip (gv v), upd_same, by rw [upd_ne hne, upd_same], by rw [upd_ne hne] at hdx; exact hdx, ?_⟩⟩
  have e2 : upd (del (upd (upd (upd H1 a (exo a C none)) dx (exd dx (ns.zip (gv v)))) a (exo a C (some dx))) a) dx (.xd (ns.zip (gv v))) = upd H1 dx (.xd (ns.zip (gv v))) := by
    funext z
    by_cases h1 : z = dx
    · rw [h1, upd_same, upd_same]
    · rw [upd_ne h1, upd_ne h1]
      by_cases h2 : z = a
      · rw [h2, del_same, ha]
      · rw [del_ne h2, upd_ne h2, upd_ne h1, upd_ne h2]
  rw [e2]
  rw [upd_ne hne] at hdx
  have gn : G1 dx = none := g1.sub.free hdx
  have g2 : Go c ρ1 G1 H1 ρ1 (upd G1 dx (.xd (ns.zip (gv v)))) (upd H1 dx (.xd (ns.zip (gv v)))) := Go.new g1.sub hdx
  refine h1 σ ρ1 _ _ (.ref C) (some dx) (r1.new gn) (g1.trans g2) (hlc.ext (g1.trans g2).ext) ⟨C, hC, rfl, dx, gv v, rfl, r1.fresh gn, upd_same, hl d, DatAll.ext g2.ext _ (hd _ _ _ _ dv)⟩
end DW
namespace DW
open PySem PySem.Spec PyProof.Rows L2
/-! ### caught exceptions: their class, their fields -/
def xOwn (n : Str) : List Str := if n = "BadText" then ["BadText", "BadValue"] else if n = "NoPaper" then ["NoPaper", "BadValue"] else [n]
def xBlt (n : Str) : List String := if n = "BadValue" ∨ n = "BadText" ∨ n = "NoPaper" then ["ValueError"] else if n = "NotFinite" then ["ArithmeticError"] else if n = "NoRow" then ["IndexError"] else if n = "CantBe" then ["RuntimeError"] else []
def xTys : List String := ["ValueError", "ArithmeticError", "IndexError", "KeyError", "RuntimeError", "TypeError"]
structure IsxOk (c : Cc) : Prop where
  ty : ∀ n C, c.xc n = some C → ExcC c.K C
  oo : ∀ n C m C', c.xc n = some C → c.xc m = some C' → PySem.W.kitOne c.K (.ref C) (.ref C') = some (decide (m ∈ xOwn n))
  ob : ∀ n C, c.xc n = some C → ∀ t ∈ xTys, PySem.W.kitOne c.K (.ref C) (.type t) = some (decide (t ∈ xBlt n))
theorem IsxOk.of_list {K : PySem.W.Frag} {l : List (Str × Addr)} {T : List (Addr × Str)} {cl : Str → Option Addr} (ty : allP (fun _ C => ExcC K C) l)
    (oo : allP (fun n C => allP (fun m C' => PySem.W.kitOne K (.ref C) (.ref C') = some (decide (m ∈ xOwn n))) l) l) (ob : allP (fun n C => allT (fun t => PySem.W.kitOne K (.ref C) (.type t) = some (decide (t ∈ xBlt n))) xTys) l) : IsxOk ⟨K, cl, T, fun n => l.lookup n⟩ :=
  ⟨fun _ _ h => allP_at ty h, fun _ _ _ _ h h' => allP_at (allP_at oo h) h', fun _ _ h t ht => allT_at (allP_at ob h) ht⟩
def rIsX (K : PySem.W.Frag) : List V → Hp → VK → Prop := fun xs H Q => ∃ (a D d : Addr) (x : V) (u : Value) (b : Bool) (fs : List (Str × V)), xs = [.ref a, x] ∧ ClsV x u ∧ H a = some (XO D (some d) a) ∧ H d = some (.xd fs) ∧ ExcC K D ∧ PySem.W.kitOne K (.ref D) u = some b ∧ Q (.bl b) H
theorem xo_at {P : Program} {w : World} {H : Hp} {h : Heap} {a D d : Addr} {fs : List (Str × V)} (hok : HOk P w H h) (e : H a = some (XO D (some d) a)) (ed : H d = some (.xd fs)) :
    ∃ (oe od : Obj) (mA : Str → Option Value), PySem.W.InstAt h a oe D (some od) ∧ (∀ f, PySem.W.lookIn f od = some (mA f)) ∧ ∀ f, RelO (fs.lookup f) (mA f) := by
  obtain ⟨⟨oe, vs, ha, hz, hd⟩, _, _⟩ := hok a _ e
  obtain ⟨mA, hns, hr⟩ := hok d _ ed
  obtain ⟨od, ho, hl⟩ := lookIn_ns hns
  exact ⟨oe, od, mA, ⟨ha, hz.1, by unfold PySem.W.notCls; rw [hd] <;> rfl, by rw [hz.2]; exact ho⟩, hl, hr⟩
theorem ExcC.hcl {K : PySem.W.Frag} {D : Addr} (C : ExcC K D) : (PySem.W.clsIn K D).isSome = true := by
  obtain ⟨cd, hc, _⟩ := PySem.W.any_some C.hd
  rw [hc]
  rfl
theorem call_isX {X : Cx} : CallR X (.builtin "isinstance") (rIsX X.K) := by
  intro pins s σ H xs us Q I r h
  obtain ⟨a, D, d, x, u, b, fs, rfl, k, e, ed, C, eb, q⟩ := h
  obtain ⟨u1, u2, rfl, r1, r2⟩ := vals2 r
  have e2 := k.eq r2
  subst e2
  obtain rfl : u1 = Value.ref a := r1
  obtain ⟨oe, od, mA, J, _, _⟩ := xo_at I.hok e ed
  exact PySem.W.kia_one (PySem.W.kitx_exc (DW.ExcC.hcl C) C.hg C.hk C.hs C.ha C.hn C.ht C.hm) I.kIn J eb (fun z => nomatch z) fun tk => ⟨.bl b, H, I.kept (t' := tk) fun _ _ z => z, rfl, q⟩
def isxD : List D → Sto → R D
  | [.xcp n _ _, .xcl m], S => .ok (.bl (decide (m ∈ xOwn n))) S
  | [.xcp n _ _, .ty t], S => if t ∈ xTys then .ok (.bl (decide (t ∈ xBlt n))) S else .bad
  | _, _ => .bad
section
variable {c : Cc} {X : Cx} {W : WX} {ρ : List Addr} {S : Sto} {G H : Hp} {a : Expr} {fa : FE} {f x n : Str} {C : Addr} {pos : Pos}
theorem cal_isx (hI : IsxOk c) (hK : X.K = c.K := by rfl) : Cal c X (.builtin "isinstance") isxD := ⟨_, call_isX, fun ρ S G H ds vs Q W sb r h q => by
  unfold isxD at q
  split at q
  · rename_i _ n ns l m
    obtain ⟨v, w, rfl, h1, h2⟩ := h.two
    simp only [Dat] at h1 h2
    obtain ⟨a, xs, C, dd, rfl, _, hC, g1, _, g2, _⟩ := h1
    obtain ⟨C', hC', rfl⟩ := h2
    exact ⟨a, C, dd, _, _, _, _, rfl, .own C', sb _ _ g1, sb _ _ g2, by rw [hK]; exact hI.ty n C hC, by rw [hK]; exact hI.oo n C m C' hC hC', q _ ρ G H r (Go.refl sb) (by simp only [Dat])⟩
  · rename_i _ n ns l t
    split at q
    · rename_i ht
      obtain ⟨v, w, rfl, h1, h2⟩ := h.two
      simp only [Dat] at h1 h2
      obtain ⟨a, xs, C, dd, rfl, _, hC, g1, _, g2, _⟩ := h1
      subst h2
      exact ⟨a, C, dd, _, _, _, _, rfl, .ty t, sb _ _ g1, sb _ _ g2, by rw [hK]; exact hI.ty n C hC, by rw [hK]; exact hI.ob n C hC t ht, q _ ρ G H r (Go.refl sb) (by simp only [Dat])⟩
    · exact q.elim
  · exact q.elim⟩
theorem de_xcl (hC : c.xc n = some C) (hg : Gl X x) (hm : X.mg x = some (.ref C)) (hx : (x == ("__debug__" : Str)) = false := by decide) : DE c X W (.Name x pos) (eC (.xcl n)) := de_c (pe_glob hg hm (v := .ref C) rfl hx) fun _ _ => by
  simp only [Dat]
  exact ⟨C, hC, rfl⟩
def tXF (K : PySem.W.Frag) (f : Str) (te : TE) : TE := fun σ H Q => te σ H fun x H1 => ∃ (a C d : Addr) (fs : List (Str × V)) (v : V), x = .ref a ∧ H1 a = some (XO C (some d) a) ∧ H1 d = some (.xd fs) ∧ XfC K C ∧ PySem.W.findIn K (.ref C) f = some none ∧ fs.lookup f = some v ∧ Q v H1
theorem pe_xF {te : TE} (he : L2.PE X a te) (hb : attributeBase a f X.env (eval a X.env) = eval a X.env := by rfl) : L2.PE X (.Attribute a f pos) (tXF X.K f te) := by
  refine ⟨fun pins s σ H Q I h => ?_⟩
  refine attr_of hb (thn (he.run pins s σ H _ I h) fun u s1 hh => ?_)
  obtain ⟨x, H1, I1, rx, b, C, d, fs, v, ex, ea, ed, T, hno, l, q⟩ := hh
  subst ex
  obtain rfl : u = Value.ref b := rx
  obtain ⟨oe, od, mA, J, hl, hr⟩ := xo_at I1.hok ea ed
  obtain ⟨u, hu, ru⟩ := RelO.some_of (v := v) (o := mA f) (by rw [← l]; exact hr f)
  exact HandSPX.exc_get I1.kIn J T.ga T.gg T.exC (PySem.W.findObj_own T.hdC hno rfl (by rw [hl, hu])) (handed_of ru) ⟨v, H1, I1.tok _, ru, q⟩
structure XfOk (c : Cc) (f : Str) : Prop where
  xf : ∀ n C, c.xc n = some C → XfC c.K C
  no : ∀ n C, c.xc n = some C → PySem.W.findIn c.K (.ref C) f = some none
theorem XfOk.of_list {K : PySem.W.Frag} {l : List (Str × Addr)} {T : List (Addr × Str)} {cl : Str → Option Addr} (xf : allP (fun _ C => XfC K C) l) (no : allP (fun _ C => PySem.W.findIn K (.ref C) f = some none) l) : XfOk ⟨K, cl, T, fun n => l.lookup n⟩ f :=
  ⟨fun _ _ h => allP_at xf h, fun _ _ h => allP_at no h⟩
def xfD (f : Str) (d : D) (S : Sto) : R D := match d with
  | .xcp _ ns l => match kget ns l f with
    | some x => .ok x S
    | none => .bad
  | _ => .bad
theorem de_xf (hf : XfOk c f) (ha : DE c X W a fa) (hb : attributeBase a f X.env (eval a X.env) = eval a X.env := by rfl) (hK : X.K = c.K := by rfl) : DE c X W (.Attribute a f pos) (e1 (xfD f) fa) := pe_imp (pe_xF ha hb) fun σ H Q q => tD_1 (r := fun x H1 Q => ∃ (a C d : Addr) (fs : List (Str × V)) (v : V), x = .ref a ∧ H1 a = some (XO C (some d) a) ∧ H1 d = some (.xd fs) ∧ XfC X.K C ∧ PySem.W.findIn X.K (.ref C) f = some none ∧ fs.lookup f = some v ∧ Q v H1) (fun ρ S G H d v Q W sb r h q => by
  unfold xfD at q
  split at q
  · rename_i n ns l
    split at q
    · rename_i x e2
      simp only [Dat] at h
      obtain ⟨a, xs, C, dd, rfl, _, hC, g1, _, g2, _, z4⟩ := h
      obtain ⟨w, y1, y2⟩ := kget_val z4 e2
      exact ⟨a, C, dd, _, w, rfl, sb _ _ g1, sb _ _ g2, by rw [hK]; exact hf.xf n C hC, by rw [hK]; exact hf.no n C hC, by rw [lookup_val]; exact y1, q w ρ G H r (Go.refl sb) y2⟩
    · exact q.elim
  · exact q.elim) q
end
end DW
namespace DW
open PySem PySem.Spec PyProof.Rows L2
/-! ### try: .. / except (A, B) as n: m = n -/
theorem fly_keeps {B h h' : Heap} {l : List Env} {a : Addr} {Z : Obj → Prop} (f : HandSPX.FlyingZ B l a Z h) (k : ∀ b o, h.get? b = some o → h'.get? b = some o) : HandSPX.FlyingZ B l a Z h' := by
  obtain ⟨k1, k2, k3, oe, vs, T, oT, ts, he, hz, hd, h1, hnT, hTe, hT, hdT, h3⟩ := f
  exact ⟨fun b o e => k b o (k1 b o e), k2, k3.of_keeps fun b o e _ => ⟨o, k b o e, rfl⟩, oe, vs, T, oT, ts, k _ _ he, hz, hd, h1, hnT, hTe, k _ _ hT, hdT, h3⟩
theorem xo_ok {P : Program} {w : World} {H : Hp} {h : Heap} {a C : Addr} {d : Option Addr} {oe : Obj} {vs : Array Value} (e : h.get? a = some oe) (z : Zc (.ref C) d oe) (hd : oe.data = .fields vs) : ObjOk P w H h a (XO C d a) :=
  ⟨⟨oe, vs, e, z, hd⟩, ⟨oe, e⟩, fun _ _ ⟨o, v, q, r⟩ k => ⟨o, v, k o q, r⟩⟩
section
variable {X : Cx} {pins : List (Addr × Obj)} {σ : L2.St} {H : Hp} {s : Shared}
theorem Inv.track {a C : Addr} {d : Option Addr} {oe : Obj} {vs : Array Value} (I : Inv X ((a, oe) :: pins) σ H s) (n0 : X.s_0.heap.get? a = none) (np : ∀ p ∈ X.pn ++ pins, p.1 ≠ a) (hz : Zc (.ref C) d oe) (hd : oe.data = .fields vs) : Inv X pins σ (upd H a (XO C d a)) s := by
  obtain ⟨ea, na, nL, nF, nc⟩ := I.pin (a, oe) (List.mem_append_right _ (List.mem_cons_self ..))
  have ne : ∀ {b : Addr} {o : HO}, H b = some o → b ≠ a := fun e => ne_of_none e na
  refine ⟨I.ok, I.os, I.bare, ⟨I.base.keep, I.base.slot, fun b o e n hx => ?_, I.base.there, fun b xs e => ?_, fun b o u e => ?_, fun b ps e => ?_⟩, I.loc, I.cell, ?_, fun x c e => ?_, fun p hp => ?_, fun b u e => ?_, I.len⟩
  · have nb : b ≠ a := fun z => by
      rw [z, n0] at e
      cases e
    rw [upd_ne nb]
    exact I.base.free b o e n hx
  · have q := I.base.tups b xs e
    rw [upd_ne (ne q)]
    exact q
  · have q := I.base.frzs b o u e
    rw [upd_ne (ne q)]
    exact q
  · obtain ⟨m, q⟩ := I.base.tbls b ps e
    exact ⟨m, by rw [upd_ne (ne q)]; exact q⟩
  · rw [upd_ne (Ne.symm nL)]
    exact I.free
  · have nb : c ≠ a := fun z => by
      obtain ⟨v, o, ho, hv⟩ := I.cell x c e
      rw [z, ea] at ho
      cases ho
      exact nc v hv
    rw [upd_ne nb]
    exact I.freeC x c e
  · obtain ⟨e1, e2, e3⟩ := I.pin p (by
      rcases List.mem_append.mp hp with h | h
      · exact List.mem_append_left _ h
      · exact List.mem_append_right _ (List.mem_cons_of_mem _ h))
    exact ⟨e1, by rw [upd_ne (np p hp)]; exact e2, e3⟩
  · by_cases hb : b = a
    · subst hb
      rw [upd_same] at e
      cases e
      exact xo_ok ea hz hd
    · rw [upd_ne hb] at e
      exact (I.hok b u e).stay (fun _ _ _ q => q) (fun c q => by rw [upd_ne (ne q)]; exact q) fun c xs q => by rw [upd_ne (ne q)]; exact q
end
def wKeep (ex : Value → Prop) (N i j : Nat) (D : Ends) : WX := fun cls d σ H => ∃ C, cls = .ref C ∧ ex cls ∧ ∀ a, H a = none → σ.length = N → D.nx (((σ.set i (some (.ref a))).set j (some (.ref a))).set i none) (upd H a (XO C d a))
def Tests (X : Cx) (te : Expr) (ex : Value → Prop) : Prop := ∀ (a : Addr) (oe : Obj) (pn : List (Addr × Obj)) (σ : L2.St) (H : Hp) (s : Shared), Inv (X.suite a ((a, oe) :: pn)) [] σ H s → ex oe.cls → s.heap.get? a = some oe → ∀ {Q : Value → Shared → Prop} {E : Value → Shared → Prop},
  (∀ (u : Value) (h' : Heap) (tk : Nat), (∀ b o, s.heap.get? b = some o → h'.get? b = some o) → PySem.W.Looks (model X.prog X.w) h' (excMatches (.ref a) u) true → Q u { s with heap := h', toks := tk }) → wpAny (model X.prog X.w) (X.A.mark (some (.ref a))) (eval te X.env) Q E s
section
variable {X : Cx} {n m x x1 x2 : Str} {c c1 c2 : Value} {i j kk : Nat} {body : List Stmt} {te : Expr} {np pos pos' r1 r2 r3 q1 q2 tp : Pos} {tb : WX → TS} {ex : Value → Prop}
theorem tests_two (h1 : Names X x1 c1) (h2 : Names X x2 c2) (he1 : starEach [.Name x1 q1, .Name x2 q2] X.env = (false, eval (.Name x1 q1) X.env) :: starEach [.Name x2 q2] X.env := by rfl) (he2 : starEach [.Name x2 q2] X.env = (false, eval (.Name x2 q2) X.env) :: starEach [] X.env := by rfl) :
    Tests X (.Tuple [.Name x1 q1, .Name x2 q2] kk tp) fun cls => PySem.W.exmAny X.K cls [c1, c2] = some true := by
  intro a oe pn σ H s S hx he Q E k
  have LT : PySem.W.Looks (model X.prog X.w) (s.heap.push { cls := .type "tuple", data := .seq [c1, c2].toArray }) (typeOf (.ref a)) oe.cls := fun A Q E s k q => wpAny_typeOf_ref (k _ _ (Heap.get?_push_of_some _ he)) q
  have q := k (.ref s.heap.objs.size) (s.heap.push { cls := .type "tuple", data := .seq [c1, c2].toArray }) s.toks (fun _ _ e => Heap.get?_push_of_some _ e) (PySem.W.exm_tup2 (M := model X.prog X.w) (S.kIn.keeps fun _ _ e => Heap.get?_push_of_some _ e) LT (Heap.get?_push_size _ rfl) hx)
  have one : ∀ {x : Str} {c : Value} {q : Pos} {Q : Value → Shared → Prop}, Names X x c → Q c s → wpAny (model X.prog X.w) (X.A.mark (some (.ref a))) (eval (.Name x q) X.env) Q E s := fun {x c q' Q} h z => by
    obtain ⟨hg, hdbg, hm | ⟨hm, hv, hnn⟩⟩ := h
    · exact ld_glob (X := X.suite a ((a, oe) :: pn)) S hg hm z hdbg
    · exact ld_blt (X := X.suite a ((a, oe) :: pn)) S hg hm hv z hnn hdbg
  refine Tuple_ (spliced_more (one h1 (spliced_more (one h2 (spliced_none ?_)) he2)) he1)
  exact wpAny_newObj_type q
theorem ps_try_keep (hs : X.stack = X.env :: X.outer) (hf : X.env.frame = some X.env.locals) (hN : X.N.Nodup) (hi : X.N[i]? = some n) (hln : X.env.kindOf n = some .local) (hj : X.N[j]? = some m) (hlm : X.env.kindOf m = some .local) (hT : Tests X te ex) (hxx : X.ex = [])
    (hb : ∀ (W : WX) (pn : List (Addr × Obj)) (xe : Value → Shared → Prop), Takes (X.tr pn xe) W → PassesOwn (model X.prog X.w) X.A X.env xe → PSs (X.tr pn xe) body (tb W))
    (hd1 : (n == ("__debug__" : Str)) = false := by decide) (hd2 : (n == ("__classdict__" : Str)) = false := by decide) (hsw : swapsWith (.Name n r2) (some (.Name m r1)) r3.line X.env = pure false := by rfl) :
    PS X (.Try body [.ExceptHandler (some te) (some n) [.Assign [.Name m r1] (.Name n r2) r3] pos'] [] [] pos) (fun D σ H => tb (wKeep ex X.N.length i j D) D σ H) := by
  refine ⟨fun pins s σ H D I h => ?_⟩
  have ok := I.ok
  have hfr : X.A.frames = some (X.env :: X.outer) := by rw [ok.frames, hs]
  have hloc : L2.Loc X.env.scope n := .inl hln
  refine wpAny_Try_except ?_
  refine wpAny_mono ((hb (wKeep ex X.N.length i j D) (X.pn ++ pins) (fun e s₁ => wpAny (model X.prog X.w) X.A (noteFrame e X.env) (fun _ s₂ => wpAny (model X.prog X.w) X.A (setFlight e none) (fun _ s₃ =>
    wpAny (model X.prog X.w) X.A (handleBy e X.env [.ExceptHandler (some te) (some n) [.Assign [.Name m r1] (.Name n r2) r3] pos']) (SP X pins D) X.xe s₃) X.xe s₂) X.xe s₁) (fun u s' xx => ?_) PassesOwn.looking).run [] s σ H D (I.toTry _) h) (fun f s1 hsp => ?_) (fun e s1 he => he)
  · obtain ⟨a, B, sI, pins', σ', H', cls, d, rfl, J', nb, up, sky, na, os, ag, C, rfl, hx, hyes⟩ := xx
    have J : Inv X pins σ' H' sI := J'.ofTry ok
    have sky' : Sky B (X.env :: X.outer) a (Zc (.ref C) d) X.env.locals s'.heap := by rw [← hs]; exact sky
    show wpAny (model X.prog X.w) X.A (noteFrame (.ref a) X.env) _ _ _
    refine Sky.land Zc.steady hfr hf sky' fun h3 fl3 up3 => ?_
    have J3 : Inv X pins σ' H' { s' with heap := h3 } := J.landed nb fl3.1 (up.trans up3) os ag
    obtain ⟨oe3, vs3, he3, hz3, hd3⟩ := fl3.there
    have nfr : a ∉ frs (X.env :: X.outer) := fun hm => by
      obtain ⟨_, o', e', hnf⟩ := fl3.2.2.1.mem hm
      rw [he3] at e'
      cases e'
      exact hnf _ hd3
    have nL : a ≠ X.env.locals := fun z => nfr (List.mem_filterMap.mpr ⟨X.env, List.mem_cons_self, by rw [hf, z]⟩)
    have nF : a ∉ X.fs := fun hm => by
      obtain ⟨e, he, q⟩ := List.mem_filterMap.mp hm
      exact nfr (List.mem_filterMap.mpr ⟨e, List.mem_cons_of_mem _ he, q⟩)
    have nI : sI.heap.get? a = none := by
      cases e : sI.heap.get? a with
      | none => rfl
      | some o =>
        have z := nb a o e (by rw [hs]; exact nfr)
        rw [fl3.2.1] at z
        cases z
    have n0 : X.s_0.heap.get? a = none := by
      cases e : X.s_0.heap.get? a with
      | none => rfl
      | some o =>
        obtain ⟨o', z⟩ := J.base.there a o e (by rw [hxx]; exact fun z => nomatch z)
        rw [nI] at z
        cases z
    have npn : ∀ p ∈ X.pn ++ pins, p.1 ≠ a := fun p hp z => by
      have q := (J.pin p hp).1
      rw [z, nI] at q
      cases q
    have S3 := J3.suite he3 hd3 na nL nF
    refine wpAny_handleBy_cons (codeAny_handlers_test ?_) (by intro q; cases q)
    refine hT a oe3 (X.pn ++ pins) σ' H' _ S3 (by rw [hz3.1]; exact hx) he3 fun u h3' tk' kp LM => LM.here ?_
    have fl3' := fly_keeps fl3 kp
    have up3' : h3.UpToSlots h3' := fun b o e _ => ⟨o.slots, kp b o e⟩
    refine codeAny_handlers_suite_as ?_
    refine HandSPX.lands_againZ (s := { s' with heap := h3', toks := tk' }) fl3' fun h4 fl4 up4 => ?_
    have J4 : Inv X pins σ' H' { s' with heap := h4, toks := tk' } := J.landed nb fl4.1 (((up.trans up3).trans up3').trans up4) os ag
    obtain ⟨oe4, vs4, he4, hz4, hd4⟩ := fl4.there
    have S4 := J4.suite he4 hd4 na nL nF
    refine store_ok (X := X.suite a ((a, oe4) :: (X.pn ++ pins))) (v := .ref a) S4 hN hi hloc rfl (fun s5 S5 => ?_) (.inr hln)
    have hlen : i < σ'.length := by
      rw [S4.len]
      exact (List.getElem?_eq_some_iff.mp hi).1
    have suite : PSs (X.suite a ((a, oe4) :: (X.pn ++ pins))) [.Assign [.Name m r1] (.Name n r2) r3] (tAsg (tVar i) (gName j)) := pss_one (ps_set hN hj (.inl hlm) (pe_var (i := i) hi (.inl hln) hd1 hd2) hsw (.inr hlm))
    refine wpAny_mono (suite.run [] s5 _ H' { nx := fun σ6 H6 => σ6 = (σ'.set i (some (.ref a))).set j (some (.ref a)) ∧ H6 = H', rt := fun _ _ => False } S5 ⟨.ref a, by rw [List.getElem?_set_self hlen], rfl, rfl⟩) (fun f s6 hsp => ?_) (fun _ _ z => False.elim z)
    cases f with
    | next =>
      obtain ⟨σ6, H6, S6, rfl, rfl⟩ := hsp
      have J6 : Inv X ((a, oe4) :: pins) ((σ'.set i (some (.ref a))).set j (some (.ref a))) H6 s6 := ⟨ok, S6.os, S6.bare, S6.base, S6.loc, S6.cell, S6.free, S6.freeC, fun p hp => S6.pin p (by
        rw [List.append_nil]
        rcases List.mem_append.mp hp with h | h
        · exact List.mem_cons_of_mem _ (List.mem_append_left _ h)
        · rcases List.mem_cons.mp h with h | h
          · rw [h]
            exact List.mem_cons_self ..
          · exact List.mem_cons_of_mem _ (List.mem_append_right _ h)), S6.hok, S6.len⟩
      exact gone_ok J6 hN hi hln fun s7 J7 => ⟨_, _, DW.Inv.track J7 n0 npn hz4 hd4, hyes a na J.len⟩
    | brk =>
      obtain ⟨_, _, _, q⟩ := hsp
      exact q.elim
    | cont =>
      obtain ⟨_, _, _, q⟩ := hsp
      exact q.elim
    | ret u =>
      obtain ⟨_, _, _, _, _, q⟩ := hsp
      exact q.elim
  · cases f with
    | next =>
      obtain ⟨σ', H', J', q⟩ := hsp
      exact wpAny_execs_nil ⟨σ', H', J'.ofTry ok, q⟩
    | brk =>
      obtain ⟨σ', H', J', q⟩ := hsp
      exact ⟨σ', H', J'.ofTry ok, q⟩
    | cont =>
      obtain ⟨σ', H', J', q⟩ := hsp
      exact ⟨σ', H', J'.ofTry ok, q⟩
    | ret u =>
      obtain ⟨v, σ', H', J', r, q⟩ := hsp
      exact ⟨v, σ', H', J'.ofTry ok, r, q⟩
end
end DW
namespace DW
open PySem PySem.Spec PyProof.Rows L2 LamX
/-! ### a lambda handed to a def -/
section
variable {X : Cx} {pins : List (Addr × Obj)} {σ : L2.St} {H HZ : Hp} {s s1 : Shared}
theorem pe_actG {CXg : CXT} {Eg : XK} {Ng : List Str} {qg : Str} {sg : Scope} {g f c' : Addr} {cdg pm ctv : Value} {params : Arguments} {body : Expr} {scope : Scope} {k i : Nat} {a : Str} {pn : List (Addr × Obj)} {xe : Value → Shared → Prop} {W : WX} {E : XK} {tb : TE} {p1 p2 : Pos}
    (I : Inv X pins σ H s) (L : LamS X.env.scope scope) (hf : s.heap.get? f = some (PySem.W.kla_obj "<lambda>" (X.env.qual ++ "<lambda>") params body scope (cloFrom X.env.cells scope.names []) pm c' ctv)) (hfn : H f = none) (hfr : f ∉ frs X.stack)
    (hbind : bindArgs (PySem.W.kla_fn "<lambda>" (X.env.qual ++ "<lambda>") params body scope (cloFrom X.env.cells scope.names []) pm (.ref c') ctv) ⟨[], []⟩ = pure [])
    (tk : Takes ((cxOf CXg X.prog X.w X.K X.mg X.base Ng qg sg g cdg X.A X.stack s H Eg).tr pn xe) W) (hW : ∀ cls d σ' H', E cls d H' → W cls d σ' H') (hr : Rm (k + 1) (X.A.deeper (envOfC qg sg s.heap.objs.size g cdg)))
    (hbody : ∀ (A : Around) (outer : List Env) (s : Shared) (H : Hp), Rm k (A.deeper (lamEnv X scope s.heap.objs.size f c')) → L2.PE (lamCx X A outer s H E scope f c') body tb)
    (hN : Ng[i]? = some a) (hv : Vis sg a) (hd : (a == ("__debug__" : Str)) = false := by decide) (hcd : (a == ("__classdict__" : Str)) = false := by decide) :
    L2.PE ((cxOf CXg X.prog X.w X.K X.mg X.base Ng qg sg g cdg X.A X.stack s H Eg).tr pn xe) (.Call (.Name a p1) [] [] p2)
      (fun σZ HZ Q => σZ[i]? = some (some (.ref f)) ∧ HZ c' = some (CodeO c' (X.env.qual ++ "<lambda>")) ∧ tb σ HZ Q) := by
  refine ⟨fun pinsZ sZ σZ HZ Q IZ h => ?_⟩
  obtain ⟨hs, hc, ht⟩ := h
  refine wpAny_Call_Name_kw (thn ((pe_var (pos := p1) (i := i) hN hv hd hcd).run pinsZ sZ σZ HZ (fun v H1 => v = .ref f ∧ H1 = HZ) IZ ⟨.ref f, hs, rfl, rfl⟩) fun u s1 ⟨v, H1, I1, r1, q1⟩ => ?_)
  obtain ⟨ev, eH⟩ := q1
  subst ev
  rw [eH] at I1
  obtain rfl : u = Value.ref f := r1
  have of1 : s1.heap.get? f = some (PySem.W.kla_obj "<lambda>" (X.env.qual ++ "<lambda>") params body scope (cloFrom X.env.cells scope.names []) pm c' ctv) := I1.base.keep f _ hf hfn hfr (fun z => nomatch (show f ∈ ([] : List Addr) from z))
  refine PySem.W.callWith_F0 ⟨_, _, _, _, of1⟩ ?_
  have un : Un (frs X.stack) [] H HZ s.heap s1.heap := I1.base
  obtain ⟨⟨oc, vs, t, hoc, hdc, hvc⟩, _, _⟩ := I1.hok c' _ hc
  have rc : codeAny (model X.prog X.w) (X.A.deeper (envOfC qg sg s.heap.objs.size g cdg)) (.call (.ref f) ⟨[], []⟩) (CR (L2.CX X.prog X.w) (envOfC qg sg s.heap.objs.size g cdg :: X.stack) X.prog X.w HZ s1 Q E) s1 := by
    refine PySem.W.kla_callFunE hr.depth of1 rfl L.co L.gen rfl ⟨c', oc, vs, t, rfl, hoc, hdc, hvc⟩ ?_
    rw [hbind]
    refine wpAny_pure (wpAny_newFunctionEnv (fun y hy => (L.own y hy).2) (fun y hy => absurd hy (by simp)) (fun h₁ hns hsb => ⟨I1.nolimit.fresh _ hsb, ?_⟩) L.kind)
    show codeAny _ _ (.expr body (lamEnv X scope s1.heap.objs.size f c')) _ _
    have kp : ∀ b o, s1.heap.get? b = some o → h₁.get? b = some o := fun b o e => hsb.extBut b o (Nat.ne_of_lt (Heap.lt_size e)) (Heap.get?_push_of_some _ e)
    have J : Inv (lamCx X (X.A.deeper (envOfC qg sg s.heap.objs.size g cdg)) (envOfC qg sg s.heap.objs.size g cdg :: X.stack) s1 HZ E scope f c') [] σ HZ { s1 with heap := h₁, toks := s1.toks + ([] : List (Str × Value)).length } :=
      lam_start2 I L I1.env0 hr.hd un hns kp
    refine PySem.W.kla_codeExpr (wpAny_mono ((hbody _ _ s1 HZ (hr.deeper _)).run [] _ _ HZ Q J ht) (fun v s' hq => ?_) fun e s' hq => hq)
    obtain ⟨w', H', J', rv, q⟩ := hq
    exact ⟨w', H', J'.os, J'.bare, J'.base, J'.hok, rv, q⟩
  have hx : Passes (L2.CX X.prog X.w) ((cxOf CXg X.prog X.w X.K X.mg X.base Ng qg sg g cdg X.A X.stack s H Eg).tr pn xe) E := passes_call tk hW
  refine wpAny_call (codeAny_mono rc fun r s' hq => ?_)
  cases r with
  | error e => exact hx pinsZ σZ HZ s1 e s' I1 hq
  | ok fl =>
    cases fl with
    | ret u => exact I1.after hq
    | next => exact False.elim hq
    | brk => exact False.elim hq
    | cont => exact False.elim hq
end
section
variable {X : Cx}
theorem pe_lamG {T : List (Addr × Str)} {TT : (XK → Hp → VK → Prop) → Hp → VK → Prop} {x a : Str} {g c P : Addr} {k : Nat} {pg : Arguments} {bg : List Stmt} {sg : Scope} {dV kV doc pm cdv ct oc : Value} {an od : Option Addr} {osl : Array (Option Value)} {Ng : List Str}
    {params : Arguments} {body : Expr} {scope : Scope} {t : XK → TE} {p lpos pos : Pos} (hg : Gl X x) (hm : X.mg x = some (.ref g)) (hk : PySem.W.keepIn X.K (.ref g) = true)
    (lk : X.K.lookup g = some ⟨oc, od, .func (PySem.W.fnOf x x pg bg sg dV kV doc pm an cdv ct), osl⟩) (hcg : PySem.W.codeIn X.K cdv x = true) (hb : L2.Binds X.K (PySem.W.fnOf x x pg bg sg dV kV doc pm an cdv ct) [a] []) (Sg : FnScope Ng [a] sg) (hNg : Ng[0]? = some a) (hva : Vis sg a)
    (hG : GivesTo X Ng x sg g cdv bg a (X.env.qual ++ "<lambda>") TT)
    (TB : TabB X.base X.mg c P) (hcode : X.env.code = .ref c) (hmT : (P, X.env.qual ++ "<lambda>") ∈ T) (hu : ∀ p ∈ T, p.1 = P → p.2 = X.env.qual ++ "<lambda>") (hr : Rm (k + 2) X.A) (L : LamS X.env.scope scope) (hdef : defaultsOf params X.env = ([], []))
    (hbind : ∀ (q : Str) (cl : List (Str × Addr)) (pm cv ctv : Value), bindArgs (PySem.W.kla_fn "<lambda>" q params body scope cl pm cv ctv) ⟨[], []⟩ = pure [])
    (hbody : ∀ (A : Around) (outer : List Env) (s : Shared) (H : Hp) (E : XK) (f c' : Addr), Rm k (A.deeper (lamEnv X scope s.heap.objs.size f c')) → L2.PE (lamCx X A outer s H E scope f c') body (t E))
    (hdb : (x == ("__debug__" : Str)) = false := by decide) (hd : (a == ("__debug__" : Str)) = false := by decide) (hcd : (a == ("__classdict__" : Str)) = false := by decide) :
    L2.PE X (.Call (.Name x p) [.Lambda params body scope lpos] [] pos) (tLam T TT t) := by
  refine ⟨fun pins s σ H Q I h => ?_⟩
  obtain ⟨hT, h⟩ := h
  refine wpAny_Call_Name_kw (ld_glob I hg hm ?_ hdb)
  refine PySem.W.callWith_K (h₀ := X.base) I.ok.mod.kin hk ?_ (by rfl) (by rfl)
  show wpAny _ _ (spliced ((false, eval (.Lambda params body scope lpos) X.env) :: backTo pos (starEach [] X.env))) _ _ s
  refine Calls.spliced_cons (lam_make2 I TB hcode hmT hu hT hdef (L.has I.ok) fun f c' pm' ctv H1 s' I1 eN T1 hf hfn hfr hco => ?_)
  refine Calls.spliced_nil ⟨I1.kIn, ?_⟩
  have rc : codeAny (model X.prog X.w) X.A (.call (.ref g) ⟨[.ref f], []⟩) (CR C8.CX0 X.stack X.prog X.w H1 s' Q C8.E0) s' := by
    refine run_ofS (N := Ng) (ps := [a]) (us := [.ref f]) (vs := [.ref f]) lk hcg Sg hr.toRoom I1.env0 (hb s' [.ref f] I1.kIn rfl) (.cons rfl .nil) rfl fun hr' => ?_
    obtain ⟨t', ht', hq'⟩ := hG f c' s' H1 Q (fun E H' Q' => t E σ H' Q') (fun W pn xe E p1 p2 tk hW => pe_actG (k := k) (i := 0) I1 L hf hfn hfr (hbind _ _ _ _ _) tk hW (hr.deeper _) (fun A outer s H hr2 => hbody A outer s H E f c' hr2) hNg hva hd hcd) hco (h H1 eN T1)
    exact ⟨t', ht'.nox, hq'⟩
  refine wpAny_call (codeAny_mono rc fun r s2 hq => ?_)
  cases r with
  | error e => exact (show False from hq).elim
  | ok fl =>
    cases fl with
    | ret u => exact I1.after hq
    | next => exact False.elim hq
    | brk => exact False.elim hq
    | cont => exact False.elim hq
theorem pe_callG {x : Str} {g : Addr} {fd : FuncData} {k : Nat} {ps : List Str} {sp : Sp} {e : Expr} {es : List Expr} {ta : TA} {p pos : Pos} (F1 : FnG X.prog X.w X.K X.mg X.base k g fd ps sp) (hr : Rm k X.A) (hb : Binds X.K fd ps []) (hg : Gl X x) (hm : X.mg x = some (.ref g)) (kf : PySem.W.keepIn X.K (.ref g) = true) (ha : PA X (e :: es) ta)
    (hdb : (x == ("__debug__" : Str)) = false := by decide) (he : starEach (e :: es) X.env = (false, eval e X.env) :: starEach es X.env := by rfl) (hpl : (backTo pos (starEach es X.env)).any (·.1) = false := by rfl) :
    L2.PE X (.Call (.Name x p) (e :: es) [] pos) (fun σ H Q => ta σ H fun vs H1 => sp vs H1 Q fun _ _ _ => False) := by
  refine ⟨fun pins s σ H Q I h => ?_⟩
  refine wpAny_Call_Name_kw (ld_glob I hg hm ?_ hdb)
  refine PySem.W.callWith_K (first := []) (h₀ := X.base) I.ok.mod.kin kf (thn (ha.run pos pins _ σ H _ I h) fun us s1 ⟨vs, H1, I1, r1, q1⟩ => ⟨I1.kIn, ?_⟩) he hpl
  have hl : (us ++ []).length = ps.length := by
    have e := r1.length
    rw [F1.len _ _ _ _ q1] at e
    rw [List.append_nil]
    exact e.symm
  have bnd := hb _ us I1.kIn hl
  rw [List.append_nil] at bnd
  refine wpAny_call (codeAny_mono (F1.run _ X.stack _ _ ⟨us, []⟩ us _ _ (fun _ _ _ => False) hr I1.env0 bnd r1 q1) fun r s' hq' => ?_)
  cases r with
  | error er =>
    obtain ⟨_, _, _, _, _, _, _, _, _, _, _, _, no⟩ := hq'
    exact no.elim
  | ok fl =>
    cases fl with
    | ret u => exact I1.after hq'
    | next => exact False.elim hq'
    | brk => exact False.elim hq'
    | cont => exact False.elim hq'
end
end DW
namespace DW
open PySem PySem.Spec PyProof.Rows L2 LamX
/-! ### told(lambda: ..): [what it gives], or what is told of the exception -/
def TTold (z : List (List V)) (ex : Value → Prop) (spC : Sp) : (XK → Hp → VK → Prop) → Hp → VK → Prop := fun tl H Q =>
  ∀ a0, H a0 = none → tl (fun cls d H1 => ∃ C, cls = .ref C ∧ ex cls ∧ ∀ a, H1 a = none → spC [.ref a] (upd H1 a (XO C d a)) Q fun _ _ _ => False) (upd H a0 (.lst [])) (fun v H1 => [v].length ≤ sizeLine ∧ ∀ p, H1 p = none → Q (.ref p) (upd H1 p (.lst [v])))
theorem four {α : Type} : ∀ (l : List α), l.length = 4 → ∃ a b c d, l = [a, b, c, d]
  | [a, b, c, d], _ => ⟨a, b, c, d, rfl⟩
  | [], h => by simp at h
  | [_], h => by simp at h
  | [_, _], h => by simp at h
  | [_, _, _], h => by simp at h
  | _ :: _ :: _ :: _ :: _ :: _, h => by simp at h
abbrev NT : List Str := ["_law_deed", "_law_error", "_law_found", "e"]
section
variable {X : Cx} {x q cn : Str} {sg : Scope} {g gC : Addr} {cdg : Value} {fdC : FuncData} {k : Nat} {spC : Sp} {te : Expr} {ex : Value → Prop} {j1 j2 : Nat} {a1 a2 a3 a4 a5 a6 a7 b1 b2 b3 b4 b5 b6 b7 b8 b9 d1 d2 d3 d4 d5 d6 d7 d8 d9 : Pos}
theorem told_gives1 (h0 : Vis sg "_law_deed") (h1 : sg.names.lookup ("_law_error" : Str) = some .local) (h2 : sg.names.lookup ("_law_found" : Str) = some .local) (h3 : sg.names.lookup ("e" : Str) = some .local)
    (hT : ∀ (s : Shared) (H : Hp), Tests (cxOf C8.CX0 X.prog X.w X.K X.mg X.base NT x sg g cdg X.A X.stack s H C8.E0).nox te ex)
    (hcl : sg.names.lookup cn = some .globalImplicit) (hmC : X.mg cn = some (.ref gC)) (kC : PySem.W.keepIn X.K (.ref gC) = true) (FC : FnG X.prog X.w X.K X.mg X.base k gC fdC ["_law_error"] spC) (hbC : Binds X.K fdC ["_law_error"] []) (hr : Rm (k + 1) X.A) (hdb : (cn == ("__debug__" : Str)) = false) :
    GivesTo X NT x sg g cdg [.Assign [.Name "_law_error" a1] (.Constant .none j1 a2) a3, .Assign [.Name "_law_found" a4] (.List [] a5) a6,
      .Try [.Assign [.Name "_law_found" b1] (.List [.Call (.Name "_law_deed" b2) [] [] b3] b4) b5] [.ExceptHandler (some te) (some "e") [.Assign [.Name "_law_error" b6] (.Name "e" b7) b8] b9] [] [] a7,
      .Return (some (.IfExp (.Compare (.Name "_law_error" d1) [.Is] [.Constant .none j2 d2] d3) (.Name "_law_found" d4) (.Call (.Name cn d5) [.Name "_law_error" d6] [] d7) d8)) d9] "_law_deed" q (TTold [] ex spC) := by
  intro f c' s H Q tl act hc h
  have hN : NT.Nodup := by decide
  refine ⟨_, pss_cons (ps_set (X := (cxOf C8.CX0 X.prog X.w X.K X.mg X.base NT x sg g cdg X.A X.stack s H C8.E0).nox) (i := 1) hN rfl (.inl h1) pe_non (hf := .inr h1)) (pss_cons (ps_set (i := 2) hN rfl (.inl h2) (pe_lst pa_nil) (hf := .inr h2)) (pss_cons (ps_try_keep (i := 3) (j := 1)
      (tb := fun W D σ H => ∃ Ech : XK, (∀ cls d σ' H', Ech cls d H' → W cls d σ' H') ∧ σ[0]? = some (some (.ref f)) ∧ H c' = some (CodeO c' q) ∧ tl Ech H (fun v H1 => [v].length ≤ sizeLine ∧ ∀ p, H1 p = none → D.nx (σ.set 2 (some (.ref p))) (upd H1 p (.lst [v]))))
      rfl rfl hN rfl h3 rfl h1 (hT s H) rfl (fun W pn xe tk _ => ?_)) (pss_one (ps_ret (pe_ifExp (pt_cmp (pc_isN (pe_var (i := 1) rfl (.inl h1)))) (pe_var (i := 2) rfl (.inl h2)) (pe_callG FC (hr.deeper _) hbC hcl hmC kC (pa_cons (pe_var (i := 1) rfl (.inl h1)) pa_nil) hdb)))))), ?_⟩
  · refine ⟨fun pins s' σ H' D I h' => ?_⟩
    obtain ⟨Ech, hW, e1, e2, e3⟩ := h'
    have hp := act W pn xe Ech b2 b3 tk hW
    exact (pss_one (ps_set (i := 2) hN rfl (.inl h2) (pe_lst (pa_cons hp pa_nil)) (hf := .inr h2))).run pins s' σ H' D I ⟨e1, e2, e3⟩
  · refine ⟨by simp, fun p hp => ?_⟩
    have key : ∀ (p' : Addr) (H1 : Hp), (tRet (tIf (tB (tIsN (tVar 1))) (tVar 2) fun σ H Q => tCons (tVar 1) tNil σ H fun vs H1 => spC vs H1 Q fun _ _ _ => False) { nx := fun _ H' => Q .non H', rt := Q } (((List.set (L2.start NT [V.ref f]) 1 (some V.non)).set 2 (some (V.ref p))).set 2 (some (V.ref p'))) H1) = Q (.ref p') H1 := fun p' H1 => propext ⟨fun z => by
      obtain ⟨v, e1, b, e2, z⟩ := z
      cases e1
      cases e2
      rw [if_pos (by decide)] at z
      obtain ⟨v, e3, z⟩ := z
      cases e3
      exact z, fun z => ⟨.non, rfl, true, rfl, .ref p', rfl, z⟩⟩
    refine ⟨_, fun cls d σ' H' he => ?_, rfl, by rw [upd_ne (ne_of_none hc hp)]; exact hc, by simp only [key]; exact h p hp⟩
    obtain ⟨C, rfl, hx, hq⟩ := he
    refine ⟨C, rfl, hx, fun a ha hl => ?_⟩
    obtain ⟨s0, s1, s2, s3, rfl⟩ := four σ' hl
    exact ⟨.ref a, rfl, _, rfl, .ref a, rfl, hq a ha⟩
end
end DW
namespace DW
open PySem PySem.Spec PyProof.Rows L2 LamX
/-! ### told(lambda: ..), deep -/
def CodeOf (K : PySem.W.Frag) (mg : Str → Option Value) (x : Str) (b : Addr) : Prop := ∀ (f : Addr) (oc : Value) (od : Option Addr) (fd : FuncData) (osl : Array (Option Value)), mg x = some (.ref f) → K.lookup f = some ⟨oc, od, .func fd, osl⟩ → fd.code = .ref b
theorem CodeOf.mk {K : PySem.W.Frag} {mg : Str → Option Value} {x : Str} {b f : Addr} {oc : Value} {od : Option Addr} {fd : FuncData} {osl : Array (Option Value)} (h : mg x = some (.ref f)) (l : K.lookup f = some ⟨oc, od, .func fd, osl⟩) (e : fd.code = .ref b) : CodeOf K mg x b := fun f' oc' od' fd' osl' h' l' => by
  rw [h] at h'
  cases h'
  rw [l] at l'
  cases l'
  exact e
section
variable {P : Program} {w : World} {c : Cc} {mg : Str → Option Value} {base : Heap} {k : Nat} {x : Str} {st : Stmt} {dvs : List V} {kws : List (Str × V)} {ps N : List Str} {mm : FM} {fb : FS} {b : Addr}
theorem DefAt.okC (h : DefAt c.K mg x st dvs kws) (hc : CodeOf c.K mg x b) (S : FnScope N ps (defScope st))
    (hb : ∀ (f : Addr) (A : Around) (outer : List Env) (s : Shared) (H : Hp) (E : XK), Rm k (A.deeper (envOfC x (defScope st) s.heap.objs.size f (.ref b))) → DSs c (cxOf (CX P w) P w c.K mg base N x (defScope st) f (.ref b) A outer s H E) (fun cls d _ H => E cls d H) (defBody st) fb) :
    DefG P w c mg base (k + 1) x st dvs kws ps (fnD N.length fb) := by
  obtain ⟨f, fd, F, hm⟩ := h
  refine ⟨f, fd, F, hm, ?_⟩
  obtain ⟨oc, od, dV, kV, doc, pm, an, cdv, ct, osl, rfl, lk, hcd, _, _⟩ := F.ex
  have e : cdv = .ref b := hc f _ _ _ _ hm lk
  subst e
  refine ⟨fun vs H Q E h => h.1, fun A outer s H args us vs Q E hr e0 hbd r hsp => ?_⟩
  obtain ⟨hl, ds, S0, ρ, G, sb, hda, hre, hwp⟩ := hsp
  have KX : c.K.In s.heap := e0.mod.kin.keeps fun b o e => (e0.bs b o e).1
  have kinds : ∀ y ∈ ps.zip us, (defScope st).names.lookup y.1 = some .local ∨ ((defScope st).names.lookup y.1 = some .cell ∧ ((cellsFrom (s.heap.objs.size + 1) (defScope st).names []).lookup y.1).isSome = true) := fun ⟨n, v⟩ hy => by
    rcases S.par n (List.of_mem_zip hy).1 with q | q
    · exact .inl q
    · exact .inr ⟨q, PySem.W.cellsFrom_some _ _ _ (.inl q)⟩
  refine codeAny_call_function hr.depth (KX _ _ lk) rfl S.co S.gen rfl (PySem.W.codeRec_of KX hcd) (hbd _ _ _ _ ?_)
  refine wpAny_newFunctionEnv_cells S.kind kinds fun env he s1 z => ?_
  subst he
  refine ⟨(e0.mod.nolimit.keeps fun b o e => (e0.bs b o e).1).keeps z.toInCall.keep, codeAny_func ?_⟩
  have I : Inv (cxOf (CX P w) P w c.K mg base N x (defScope st) f (.ref b) A outer s H E) [] (L2.start N vs) H s1 := inv_start S hr.hd e0 hl r z
  have dl : vs.length = ds.length := hda.length
  have fin : ∀ {σ' : L2.St} {H' : Hp} {v : V} {u : Value} {s' : Shared}, Inv (cxOf (CX P w) P w c.K mg base N x (defScope st) f (.ref b) A outer s H E) [] σ' H' s' → RelV v u → Q v H' → CE outer P w H s Q u s' :=
    fun {σ' H' v u s'} J rv q => ⟨v, H', J.os, J.bare, J.base, J.hok, rv, q⟩
  refine wpAny_mono ((hb f A outer s H E (hr.deeper _)).run [] s1 (L2.start N vs) H { nx := fun _ H' => Q .non H', rt := Q } I ?_) (fun fl s' hs => ?_) fun e s' hs => hs
  · refine ⟨ds.map some ++ List.replicate (N.length - ds.length) none, S0, ρ, G, sb, ?_, hre, ?_⟩
    · unfold L2.start
      rw [dl]
      exact Loc.start _ hda
    · unfold fnD at hwp
      rw [wp_fin] at hwp
      refine wpS_mono hwp (fun δ' S' q σ' ρ' G' H' r' g' _ => q .non ρ' G' H' r' g' (by simp only [Dat])) (fun _ _ q => q) fun e δ' S' q σ' ρ' G' H' cls d r' g' _ dx => q ρ' G' H' cls d r' g' dx
  · cases fl with
    | ret u =>
      obtain ⟨v, σ', H', J, rv, q⟩ := hs
      exact fin J rv q
    | next =>
      obtain ⟨σ', H', J, q⟩ := hs
      exact fin (v := V.non) (u := Value.none) J rfl q
    | brk =>
      obtain ⟨_, _, _, q⟩ := hs
      exact q.elim
    | cont =>
      obtain ⟨_, _, _, q⟩ := hs
      exact q.elim
theorem DefG.cutT (h : DefG P w c mg base k x st dvs kws ps mm) : DefG P w c mg base k x st dvs kws ps (fnT mm) := by
  obtain ⟨f, fd, F, hm, g⟩ := h
  exact ⟨f, fd, F, hm, g.cutT⟩
end
/-! exceptions and code objects differ -/
theorem heapN : ∀ n : Nat, ∃ h : Heap, h.objs.size = n ∧ ∀ b o, h.get? b = some o → o.data = .plain
  | 0 => ⟨{}, rfl, fun b o e => by
    have := Heap.lt_size e
    exact absurd this (by simp)⟩
  | n + 1 => by
    obtain ⟨h, e, q⟩ := heapN n
    refine ⟨h.push { cls := .none, data := .plain }, by rw [Heap.size_push, e], fun b o eb => ?_⟩
    rcases Heap.get?_push_cases eb with ⟨_, rfl⟩ | eb
    · rfl
    · exact q b o eb
theorem xo_no (C a : Addr) (d : Option Addr) : NoTab (XO C d a) := ⟨(fun ps z => by
  unfold XO at z
  exact nomatch z), fun b q z => by
  unfold XO LamX.CodeO at z
  have z := HO.ext.inj z
  obtain ⟨h, e, p⟩ := heapN a
  have l := congrFun z (h.push { cls := .ref C, dict := d, data := .fields #[] })
  have t : ∃ (oe : Obj) (vs : Array Value), (h.push { cls := .ref C, dict := d, data := .fields #[] }).get? a = some oe ∧ Zc (.ref C) d oe ∧ oe.data = .fields vs := ⟨_, _, by rw [← e]; exact Heap.get?_push_size _ rfl, ⟨rfl, rfl⟩, rfl⟩
  rw [l] at t
  obtain ⟨oc, vs, tk, h1, h2, h3⟩ := t
  rcases Heap.get?_push_cases h1 with ⟨_, rfl⟩ | h1
  · cases h2
    simp at h3
  · have := p b oc h1
    rw [h2] at this
    cases this⟩
def eTold (ns : List Str) (mb : FE) (mc : FM) : FE := fun δ S => match mb δ S with
  | .ok d S' => .ok (.lst [d]) S'
  | .ex e S' => if e.n ∈ ns then (mc [.xcp e.n e.ns e.l] S').noX else .bad
  | .bad => .bad
theorem wp_told {ns : List Str} {mb : FE} {mc : FM} {δ : Dl} {S : Sto} {Q : D → Sto → Prop} {E : Xc → Sto → Prop} (h : wp (eTold ns mb mc δ S) Q E) : wp (mb δ S) (fun d S' => Q (.lst [d]) S') (fun e S' => e.n ∈ ns ∧ wp (mc [.xcp e.n e.ns e.l] S') Q fun _ _ => False) := by
  unfold eTold at h
  cases e : mb δ S with
  | ok d S' =>
    rw [e] at h
    exact h
  | ex e' S' =>
    rw [e] at h
    dsimp only at h
    split at h
    · rename_i hn
      rw [wp_noX] at h
      exact ⟨hn, h⟩
    · exact h.elim
  | bad =>
    rw [e] at h
    exact h
theorem TabG.tabS {G H : Hp} {P : Addr} {q : Str} (t : TabG G H P q) : TabS H P q := by
  obtain ⟨_, ps, h1, h2, h3⟩ := t
  exact ⟨ps, h1, h2, fun pos cv hc => by
    obtain ⟨b, e1, _, e2⟩ := h3 pos cv hc
    exact ⟨b, e1, e2⟩⟩
theorem Go.tabs {c : Cc} {ρ : List Addr} {G H H1 : Hp} (s : Sub c G H) (e : ExtN H H1) (t : Tabs c.T H1) : Go c ρ G H ρ G H1 := by
  have at_ : ∀ a o, G a = some o → H1 a = some o := fun a o z => e a o (s a o z) (s.nt a o z).1
  refine ⟨⟨at_, s.nt, fun p hp => ?_⟩, fun a o z hg n => ⟨e a o z n, hg⟩, Ext.refl⟩
  · obtain ⟨ps, h1, h2, h3⟩ := t p hp
    have none_ : ∀ a o, H1 a = some o → ¬ NoTab o → G a = none := fun a o z n => by
      cases q : G a with
      | none => rfl
      | some u =>
        have := at_ a u q
        rw [z] at this
        cases this
        exact absurd (s.nt a _ q) n
    refine ⟨none_ _ _ h1 fun n => n.1 _ rfl, ps, h1, h2, fun pos cv hc => ?_⟩
    obtain ⟨b, e1, e2⟩ := h3 pos cv hc
    exact ⟨b, e1, none_ _ _ e2 fun n => n.2 _ _ rfl, e2⟩
end DW
namespace DW
open PySem PySem.Spec PyProof.Rows L2 LamX
def exN (c : Cc) (ns : List Str) : Value → Prop := fun cls => ∃ n ∈ ns, ∃ C, c.xc n = some C ∧ cls = .ref C
theorem Tests.imp {X : Cx} {te : Expr} {e e' : Value → Prop} (h : Tests X te e) (i : ∀ v, e' v → e v) : Tests X te e' := fun a oe pn σ H s S hx => h a oe pn σ H s S (i _ hx)
def ToldG (P : Program) (w : World) (c : Cc) (mg : Str → Option Value) (base : Heap) (k : Nat) (x : Str) (ns : List Str) (mc : FM) : Prop :=
  ∃ (g : Addr) (pg : Arguments) (bg : List Stmt) (sg : Scope) (dV kV doc pm cdv ct oc : Value) (an od : Option Addr) (osl : Array (Option Value)) (Ng : List Str) (a : Str) (z : List (List V)), mg x = some (.ref g) ∧ PySem.W.keepIn c.K (.ref g) = true ∧
    c.K.lookup g = some ⟨oc, od, .func (PySem.W.fnOf x x pg bg sg dV kV doc pm an cdv ct), osl⟩ ∧ PySem.W.codeIn c.K cdv x = true ∧ L2.Binds c.K (PySem.W.fnOf x x pg bg sg dV kV doc pm an cdv ct) [a] [] ∧ FnScope Ng [a] sg ∧ Ng[0]? = some a ∧ Vis sg a ∧ (a == ("__debug__" : Str)) = false ∧ (a == ("__classdict__" : Str)) = false ∧
    ∀ X : Cx, X.prog = P → X.w = w → X.K = c.K → X.mg = mg → X.base = base → Rm (k + 1) X.A → ∀ q, GivesTo X Ng x sg g cdv bg a q (TTold z (exN c ns) (spD c 1 mc))
theorem de_told {c : Cc} {X : Cx} {W : WX} {k : Nat} {x : Str} {ns : List Str} {mc : FM} {mb : FE} {b P : Addr} {params : Arguments} {body : Expr} {scope : Scope} {p lpos pos : Pos} (TG : ToldG X.prog X.w c X.mg X.base k x ns mc) (hg : Gl X x)
    (TB : TabB X.base X.mg b P) (hcode : X.env.code = .ref b) (hmT : (P, X.env.qual ++ "<lambda>") ∈ c.T) (hu : ∀ p ∈ c.T, p.1 = P → p.2 = X.env.qual ++ "<lambda>") (hr : Rm (k + 2) X.A) (L : LamS X.env.scope scope) (hdef : defaultsOf params X.env = ([], []))
    (hbind : ∀ (q : Str) (cl : List (Str × Addr)) (pm cv ctv : Value), bindArgs (PySem.W.kla_fn "<lambda>" q params body scope cl pm cv ctv) ⟨[], []⟩ = pure [])
    (hb : ∀ (A : Around) (outer : List Env) (s : Shared) (H : Hp) (E : XK) (f c' : Addr), Rm k (A.deeper (lamEnv X scope s.heap.objs.size f c')) → DE c (lamCx X A outer s H E scope f c') (fun cls d _ H => E cls d H) body mb)
    (hdb : (x == ("__debug__" : Str)) = false := by decide) (hK : X.K = c.K := by rfl) :
    DE c X W (.Call (.Name x p) [.Lambda params body scope lpos] [] pos) (eTold ns mb mc) := by
  obtain ⟨g, pg, bg, sg, dV, kV, doc, pm, cdv, ct, oc, an, od, osl, Ng, a, z, hm, hk, lk, hcg, hbd, Sg, hNg, hva, hd1, hd2, hG⟩ := TG
  rw [← hK] at hk lk hcg hbd
  refine pe_imp (pe_lamG (T := c.T) hg hm hk lk hcg hbd Sg hNg hva (hG X rfl rfl hK rfl rfl (hr.mono (by omega)) _) TB hcode hmT hu hr L hdef hbind hb hdb hd1 hd2) fun σ H Q q => ?_
  obtain ⟨δ, S, ρ, G, sb, hl, hrp, h⟩ := q
  have h := wp_told h
  refine ⟨fun p hp => (sb.tb p hp).tabS, fun H1 eN t1 a0 ha0 => ?_⟩
  have g1 : Go c ρ G H ρ G H1 := Go.tabs sb eN t1
  have g2 : Go c ρ G H1 ρ G (upd H1 a0 (.lst [])) := Go.keep g1.sub (same_new ha0)
  refine ⟨δ, S, ρ, G, g2.sub, hl, hrp, wp_mono h (fun d S1 h1 v ρ1 G1 H2 r1 g3 dv => ?_) fun e S1 h1 ρ1 G1 H2 cls d r1 g3 dx => ?_⟩
  · refine ⟨by simp [sizeLine_eq], fun p hp => ?_⟩
    exact h1 (.ref p) ρ1 _ _ (r1.new (g3.sub.free hp)) (((g1.trans g2).trans g3).trans (Go.new g3.sub hp)) (Dat.newL r1 (g3.sub.free hp) (.cons dv .nil))
  · obtain ⟨hn, h2⟩ := h1
    obtain ⟨C, hC, rfl, dd, xs, rfl, nρ, gd, hlen, da⟩ := dx
    refine ⟨C, rfl, ⟨e.n, hn, C, hC, rfl⟩, fun a ha => ?_⟩
    have ga : G1 a = none := g3.sub.free ha
    have g4 : Go c ρ1 G1 H2 ρ1 (upd G1 a (XO C (some dd) a)) (upd H2 a (XO C (some dd) a)) := Go.new g3.sub ha (xo_no C a (some dd))
    have nd : dd ≠ a := ne_of_none gd ga
    refine ⟨rfl, [.xcp e.n e.ns e.l], S1, ρ1, _, g4.sub, .cons ?_ .nil, r1.new ga, wp_mono h2 (fun _ _ z => z.go (((g1.trans g2).trans g3).trans g4)) fun _ _ z => z.elim⟩
    simp only [Dat]
    exact ⟨a, xs, C, dd, rfl, r1.fresh ga, hC, upd_same, nρ, by rw [upd_ne nd]; exact gd, hlen, DatAll.ext g4.ext _ da⟩
theorem told_of1 {P : Program} {w : World} {c : Cc} {mg : Str → Option Value} {base : Heap} {k kC : Nat} {x cn : Str} {st stC : Stmt} {ns : List Str} {mc : FM} {x1 x2 : Str} {c1 c2 : Value} {kk j1 j2 : Nat} {q1 q2 tp a1 a2 a3 a4 a5 a6 a7 b1 b2 b3 b4 b5 b6 b7 b8 b9 d1 d2 d3 d4 d5 d6 d7 d8 d9 : Pos}
    (h : DefAt c.K mg x st [] []) (hbd : defBody st = [.Assign [.Name "_law_error" a1] (.Constant .none j1 a2) a3, .Assign [.Name "_law_found" a4] (.List [] a5) a6,
      .Try [.Assign [.Name "_law_found" b1] (.List [.Call (.Name "_law_deed" b2) [] [] b3] b4) b5] [.ExceptHandler (some (.Tuple [.Name x1 q1, .Name x2 q2] kk tp)) (some "e") [.Assign [.Name "_law_error" b6] (.Name "e" b7) b8] b9] [] [] a7,
      .Return (some (.IfExp (.Compare (.Name "_law_error" d1) [.Is] [.Constant .none j2 d2] d3) (.Name "_law_found" d4) (.Call (.Name cn d5) [.Name "_law_error" d6] [] d7) d8)) d9])
    (S : FnScope NT ["_law_deed"] (defScope st)) (h0 : Vis (defScope st) "_law_deed") (h1 : (defScope st).names.lookup ("_law_error" : Str) = some .local) (h2 : (defScope st).names.lookup ("_law_found" : Str) = some .local) (h3 : (defScope st).names.lookup ("e" : Str) = some .local)
    (hx1 : (defScope st).names.lookup x1 = some .globalImplicit) (hx2 : (defScope st).names.lookup x2 = some .globalImplicit) (hm1 : mg x1 = some c1) (hm2 : mg x2 = some c2) (hd1 : (x1 == ("__debug__" : Str)) = false) (hd2 : (x2 == ("__debug__" : Str)) = false)
    (hcl : (defScope st).names.lookup cn = some .globalImplicit) (hdb : (cn == ("__debug__" : Str)) = false) (GC : DefG P w c mg base kC cn stC [] [] ["_law_error"] mc) (hkC : kC ≤ k)
    (hbC : ∀ (kV doc pm : Value) (an : Option Addr) (cdv ct : Value) (us : List Value), us.length = (["_law_error"] : List Str).length → bindArgs (PySem.W.fnOf cn cn (defArgs stC) (defBody stC) (defScope stC) .none kV doc pm an cdv ct) ⟨us, []⟩ = pure ((["_law_error"] : List Str).zip us))
    (hbT : ∀ (kV doc pm : Value) (an : Option Addr) (cdv ct : Value) (us : List Value), us.length = (["_law_deed"] : List Str).length → bindArgs (PySem.W.fnOf x x (defArgs st) (defBody st) (defScope st) .none kV doc pm an cdv ct) ⟨us, []⟩ = pure ((["_law_deed"] : List Str).zip us))
    (hxm : ∀ n ∈ ns, ∀ C, c.xc n = some C → PySem.W.exmAny c.K (.ref C) [c1, c2] = some true) : ToldG P w c mg base k x ns mc := by
  obtain ⟨f, fd, F, hm⟩ := h
  obtain ⟨oc, od, dV, kV, doc, pm, an, cdv, ct, osl, rfl, lk, hcd, hD, hK⟩ := F.ex
  obtain ⟨fC, fdC, FC, hmC, gC⟩ := GC
  have bC : L2.Binds c.K fdC ["_law_error"] [] := fun s us _ hl => by
    rw [List.append_nil] at hl ⊢
    exact FunD.bindsA FC hbC s us hl
  have bT : L2.Binds c.K (PySem.W.fnOf x x (defArgs st) (defBody st) (defScope st) dV kV doc pm an cdv ct) ["_law_deed"] [] := fun s us _ hl => by
    rw [List.append_nil] at hl ⊢
    exact FunD.bindsA F hbT s us hl
  refine ⟨f, defArgs st, defBody st, defScope st, dV, kV, doc, pm, cdv, ct, oc, an, od, osl, NT, "_law_deed", [], hm, F.kp, lk, hcd, bT, S, rfl, h0, by decide, by decide, fun X e1 e2 e3 e4 e5 hr q => ?_⟩
  subst e1 e2 e4 e5
  rw [hbd]
  rw [← e3] at gC bC
  refine told_gives1 (k := kC) h0 h1 h2 h3 (fun s H => Tests.imp (tests_two (X := (cxOf C8.CX0 X.prog X.w X.K X.mg X.base NT x (defScope st) f cdv X.A X.stack s H C8.E0).nox) ⟨hx1, hd1, .inl hm1⟩ ⟨hx2, hd2, .inl hm2⟩) ?_) hcl hmC (by rw [e3]; exact FC.kp) gC bC (hr.mono (by omega)) hdb
  rintro v ⟨n, hn, C, hC, rfl⟩
  show PySem.W.exmAny X.K _ _ = _
  rw [e3]
  exact hxm n hn C hC
end DW
namespace DW
open PySem PySem.Spec PyProof.Rows L2 LamX PySem.DWX
/-! ### what the printed texts name -/
theorem lam_tk {X : Cx} {A : Around} {outer : List Env} {s : Shared} {H : Hp} {E : XK} {scope : Scope} {f c' : Addr} : Takes (lamCx X A outer s H E scope f c') (fun cls d _ H => E cls d H) := takes_of rfl rfl rfl rfl
theorem hu_of : ∀ {T : List (Addr × Str)} {P : Addr} {q : Str}, (T.map (·.1)).Nodup → (P, q) ∈ T → ∀ p ∈ T, p.1 = P → p.2 = q
  | [], _, _, _, h => nomatch h
  | t :: T, P, q, nd, h => fun p hp e => by
    rw [List.map_cons, List.nodup_cons] at nd
    rcases List.mem_cons.mp h with h | h
    · rcases List.mem_cons.mp hp with z | z
      · rw [z, ← h]
      · refine absurd (List.mem_map.mpr ⟨p, z, ?_⟩) nd.1
        rw [e, ← h]
    · rcases List.mem_cons.mp hp with z | z
      · refine absurd (List.mem_map.mpr ⟨(P, q), h, ?_⟩) nd.1
        rw [← z, e]
      · exact hu_of nd.2 h p z e
def XInitAt (K : PySem.W.Frag) (C : Addr) (qual : Str) (st : Stmt) : Prop := ∃ f fd, FD K "__init__" qual st [] [] f fd ∧ PySem.W.findIn K (.ref C) "__init__" = some (some (.ref f)) ∧ PySem.W.typeIn K (.ref f) = some (.type "function")
section
variable {K : PySem.W.Frag} {C f : Addr} {qual : Str} {st : Stmt} {oc doc pm kV cdv ct : Value} {od an : Option Addr} {osl : Array (Option Value)}
theorem XInitAt.mk (a : PySem.W.findIn K (.ref C) "__init__" = some (some (.ref f))) (i : PySem.W.typeIn K (.ref f) = some (.type "function"))
    (l : K.lookup f = some ⟨oc, od, .func (PySem.W.fnOf "__init__" qual (defArgs st) (defBody st) (defScope st) .none kV doc pm an cdv ct), osl⟩) (c : PySem.W.codeIn K cdv qual = true) (k : PySem.W.keepIn K (.ref f) = true) : XInitAt K C qual st :=
  ⟨f, _, ⟨⟨oc, od, .none, kV, doc, pm, an, cdv, ct, osl, rfl, l, c, .inl ⟨rfl, rfl⟩, .inl rfl⟩, k⟩, a, i⟩
end
theorem XSt.mkV {K : PySem.W.Frag} {C : Addr} {f : Str} (a : PySem.W.excOver K C [.type "ValueError", .type "Exception", .type "BaseException", .type "object"] = true) (b : PySem.W.hasDictIn K C = true) (c : PySem.W.findIn K (.ref C) "__setattr__" = some (some (.builtin "object.__setattr__"))) (d : PySem.W.findIn K (.ref C) f = some none) : XSt K C f := ⟨_, _, F.store_ValueError, a, b, c, d⟩
theorem XSt.mkA {K : PySem.W.Frag} {C : Addr} {f : Str} (a : PySem.W.excOver K C [.type "ArithmeticError", .type "Exception", .type "BaseException", .type "object"] = true) (b : PySem.W.hasDictIn K C = true) (c : PySem.W.findIn K (.ref C) "__setattr__" = some (some (.builtin "object.__setattr__"))) (d : PySem.W.findIn K (.ref C) f = some none) : XSt K C f := ⟨_, _, F.store_ArithmeticError, a, b, c, d⟩
abbrev XMkV (K : PySem.W.Frag) (C : Addr) : Prop := XMk K C "ValueError" "ValueError.__new__" "ValueError.__init__" [.type "ValueError", .type "Exception", .type "BaseException", .type "object"]
abbrev XMkA (K : PySem.W.Frag) (C : Addr) : Prop := XMk K C "ArithmeticError" "ArithmeticError.__new__" "ArithmeticError.__init__" [.type "ArithmeticError", .type "Exception", .type "BaseException", .type "object"]
def gd1 (d : D) : List D := [d]
def gv1 (v : V) : List V := [v]
def gdT (d : D) : List D := [d, .str "text"]
def gvT (v : V) : List V := [v, .str "text"]
theorem gd1_ok {c : Cc} (ρ : List Addr) (G : Hp) (d : D) (v : V) (h : Dat c ρ G d v) : DatAll c ρ G (gd1 d) (gv1 v) := .cons h .nil
theorem gdT_ok {c : Cc} (ρ : List Addr) (G : Hp) (d : D) (v : V) (h : Dat c ρ G d v) : DatAll c ρ G (gdT d) (gvT v) := .cons h (.cons (by simp only [Dat]) .nil)
section
variable {P : Program} {w : World} {c : Cc} {mg : Str → Option Value} {base : Heap} {cn x f f1 : Str} {st st1 : Stmt} {C D : Addr} {q1 q2 q3 q4 p1 p2 p3 p4 p5 p6 : Pos}
theorem binds2 {f : Addr} {fd : FuncData} {qual : Str} (F : FD c.K "__init__" qual st [] [] f fd) (hb : ∀ (kV doc pm : Value) (an : Option Addr) (cdv ct : Value) (us : List Value), us.length = (["self", x] : List Str).length → bindArgs (PySem.W.fnOf "__init__" qual (defArgs st) (defBody st) (defScope st) .none kV doc pm an cdv ct) ⟨us, []⟩ = pure ((["self", x] : List Str).zip us)) :
    L2.Binds c.K fd ["self", x] [] := fun s us _ hl => by
  rw [List.append_nil] at hl ⊢
  exact FunD.bindsA F hb s us hl
theorem xcg1 {B newId initId : String} {bmB : List Value} {qual : Str} (I : XInitAt c.K C qual st) (S : FnScope ["self", x] ["self", x] (defScope st)) (hbd : defBody st = [.Assign [.Attribute (.Name "self" q1) f q2] (.Name x q3) q4]) (h0 : Vis (defScope st) "self") (h1 : Vis (defScope st) x)
    (hC : c.xc cn = some C) (hm : mg cn = some (.ref C)) (FB : ExcBaseFacts B newId initId bmB) (M : XMk c.K C B newId initId bmB) (T : XSt c.K C f)
    (hb : ∀ (kV doc pm : Value) (an : Option Addr) (cdv ct : Value) (us : List Value), us.length = (["self", x] : List Str).length → bindArgs (PySem.W.fnOf "__init__" qual (defArgs st) (defBody st) (defScope st) .none kV doc pm an cdv ct) ⟨us, []⟩ = pure ((["self", x] : List Str).zip us))
    (hd : (x == ("__debug__" : Str)) = false := by decide) (hcd : (x == ("__classdict__" : Str)) = false := by decide) : XcG P w c mg base 1 cn [f] gv1 := by
  obtain ⟨fa, fd, F, hi, ht⟩ := I
  exact ⟨C, fa, fd, B, newId, initId, bmB, ["self", x], _, hC, hm, FB, M, hi, ht, init1 F S hbd h0 h1 hd hcd, binds2 F hb, fun a y H Q e q => ⟨a, C, y, rfl, T, e, q⟩⟩
theorem xcg2 {B newId initId : String} {bmB : List Value} {qual qual1 : Str} {j : Nat} {mc : Value} (I : XInitAt c.K C qual st) (S : FnScope ["self", x] ["self", x] (defScope st))
    (hbd : defBody st = [.Expr (.Call (.Attribute (.Name "BadValue" p1) "__init__" p2) [.Name "self" p3, .Constant (.str "text") j p4] [] p5) p6, .Assign [.Attribute (.Name "self" q1) f q2] (.Name x q3) q4]) (h0 : Vis (defScope st) "self") (h1 : Vis (defScope st) x)
    (hg : (defScope st).names.lookup ("BadValue" : Str) = some .globalImplicit) (hC : c.xc cn = some C) (hm : mg cn = some (.ref C)) (FB : ExcBaseFacts B newId initId bmB) (M : XMk c.K C B newId initId bmB) (T1 : XSt c.K C f1) (T : XSt c.K C f)
    (hmD : mg "BadValue" = some (.ref D)) (r : ClX.CRead c.K D mc) (I1 : ∃ fI fdI, FD c.K "__init__" qual1 st1 [] [] fI fdI ∧ PySem.W.findCls c.K (.ref D) mc "__init__" = some (.val (.ref fI))) (S1 : FnScope ["self", "what"] ["self", "what"] (defScope st1)) {r1 r2 r3 r4 : Pos} (hbd1 : defBody st1 = [.Assign [.Attribute (.Name "self" r1) f1 r2] (.Name "what" r3) r4]) (h01 : Vis (defScope st1) "self") (h11 : Vis (defScope st1) "what")
    (hb : ∀ (kV doc pm : Value) (an : Option Addr) (cdv ct : Value) (us : List Value), us.length = (["self", x] : List Str).length → bindArgs (PySem.W.fnOf "__init__" qual (defArgs st) (defBody st) (defScope st) .none kV doc pm an cdv ct) ⟨us, []⟩ = pure ((["self", x] : List Str).zip us))
    (hb1 : ∀ (kV doc pm : Value) (an : Option Addr) (cdv ct : Value) (us : List Value), us.length = (["self", "what"] : List Str).length → bindArgs (PySem.W.fnOf "__init__" qual1 (defArgs st1) (defBody st1) (defScope st1) .none kV doc pm an cdv ct) ⟨us, []⟩ = pure ((["self", "what"] : List Str).zip us))
    {pl : Addr → Addr → Value → Sem Bool} (hc : ∀ (fa L : Addr) (cdv : Value), eval (.Call (.Attribute (.Name "BadValue" p1) "__init__" p2) [.Name "self" p3, .Constant (.str "text") j p4] [] p5) (envOfC qual (defScope st) L fa cdv) = (do
      let ov ← eval (.Name "BadValue" p1) (envOfC qual (defScope st) L fa cdv)
      standAt p2.atName
      let (f, first) ← holding [ov] (getMethod ov "__init__" (pl fa L cdv))
      callWith p5 f first (backTo p5 (starEach [.Name "self" p3, .Constant (.str "text") j p4] (envOfC qual (defScope st) L fa cdv))) (backToKw p5 (keywordEach [] (envOfC qual (defScope st) L fa cdv)))))
    (hd : (x == ("__debug__" : Str)) = false := by decide) (hcd : (x == ("__classdict__" : Str)) = false := by decide) : XcG P w c mg base 2 cn [f, f1] gvT := by
  obtain ⟨fa, fd, F, hi, ht⟩ := I
  obtain ⟨fI, fdI, F1, hv⟩ := I1
  exact ⟨C, fa, fd, B, newId, initId, bmB, ["self", x], _, hC, hm, FB, M, hi, ht, init2 F S hbd h0 h1 hg hmD r hv F1.kp (init1 F1 S1 hbd1 h01 h11) (binds2 F1 hb1) (hc fa) hd hcd, binds2 F hb, fun a y H Q e q => ⟨a, C, y, rfl, T1, T, e, q⟩⟩
end
theorem DefG.finT {P : Program} {w : World} {c : Cc} {mg : Str → Option Value} {k : Nat} {x y : Str} {st : Stmt} {m : FM} {fa : Addr} {cs : List (Addr × Addr)} (d : DefAt c.K mg x st [] []) (hfa : mg x = some (.ref fa))
    (hb : ∀ (kV doc pm : Value) (an : Option Addr) (cdv ct : Value) (us : List Value), us.length = ([y] : List Str).length → bindArgs (PySem.W.fnOf x x (defArgs st) (defBody st) (defScope st) .none kV doc pm an cdv ct) ⟨us, []⟩ = pure (([y] : List Str).zip us))
    (h : ∀ base : Heap, (∀ p ∈ cs, LamX.TabB base mg p.1 p.2) → DefG P w c mg base k x st [] [] [y] m) :
    ∃ fd : FuncData, (∀ (s : Shared) (v : Value), BindsTo s fd ⟨[v], []⟩ [(y, v)]) ∧ ∀ base : Heap, c.K.In base → base.Ns mainGlobals mg → (∀ p ∈ cs, LamX.TabB base mg p.1 p.2) → FnG P w c.K mg base k fa fd [y] (spD c 1 m) := by
  obtain ⟨f, fd, F, hmx⟩ := d
  have e : f = fa := by
    rw [hfa] at hmx
    exact (Value.ref.inj (Option.some.inj hmx)).symm
  subst e
  refine ⟨fd, fun s v => FunD.bindsA F hb s [v] rfl, fun base _ _ hB => ?_⟩
  obtain ⟨f', fd', F', m', ok⟩ := h base hB
  have e' : f' = f := by
    rw [hmx] at m'
    exact (Value.ref.inj (Option.some.inj m')).symm
  subst e'
  obtain ⟨oc, od, dV, kV, doc, pm, an, cdv, ct, osl, rfl, lk, _⟩ := F.ex
  obtain ⟨oc', od', dV', kV', doc', pm', an', cdv', ct', osl', rfl, lk', _⟩ := F'.ex
  rw [lk] at lk'
  cases lk'
  exact ok
end DW
namespace DW
open PySem PySem.Spec PyProof.Rows L2
def xNs : List Str := ["BadValue", "BadText", "NotFinite"]
theorem xt_of {K : PySem.W.Frag} {ns : List Str} {l : List (Str × Addr)} {c1 c2 : Value} (h : allP (fun _ C => PySem.W.exmAny K (.ref C) [c1, c2] = some true) l) : ∀ n ∈ ns, ∀ C, List.lookup n l = some C → PySem.W.exmAny K (.ref C) [c1, c2] = some true := fun _ _ _ e => allP_at h e
theorem xv_mk {K : PySem.W.Frag} {C f : Addr} {st : Stmt} {qual : Str} {mc oc doc pm kV cdv ct : Value} {od an : Option Addr} {osl : Array (Option Value)} (a : PySem.W.findCls K (.ref C) mc "__init__" = some (.val (.ref f)))
    (l : K.lookup f = some ⟨oc, od, .func (PySem.W.fnOf "__init__" qual (defArgs st) (defBody st) (defScope st) .none kV doc pm an cdv ct), osl⟩) (c : PySem.W.codeIn K cdv qual = true) (k : PySem.W.keepIn K (.ref f) = true) :
    ∃ fI fdI, FD K "__init__" qual st [] [] fI fdI ∧ PySem.W.findCls K (.ref C) mc "__init__" = some (.val (.ref fI)) := ⟨f, _, ⟨⟨oc, od, .none, kV, doc, pm, an, cdv, ct, osl, rfl, l, c, .inl ⟨rfl, rfl⟩, .inl rfl⟩, k⟩, a⟩
theorem kit_same2 {K : PySem.W.Frag} {C : Addr} {b : Bool} (h : b = true) : PySem.W.kitOne K (.ref C) (.ref C) = some b := by
  rw [h]
  exact kit_same'
theorem kit_bo2 {K : PySem.W.Frag} {C C' : Addr} {b : Bool} (hc : C ≠ C') (h1 : PySem.W.isClsIn K C' = true) (h2 : PySem.W.typeIn K (.ref C') = some (.type "type")) (h3 : PySem.W.subIn K (.ref C) (.ref C') = some b) : PySem.W.kitOne K (.ref C) (.ref C') = some b := by
  have h1 : (PySem.W.clsIn K C').isSome = true := h1
  unfold PySem.W.kitOne PySem.W.kitCls
  rw [if_neg (by intro z; exact hc (by simpa using z))]
  simp only [h1, h2, h3]
  rfl
theorem kit_ob2 {K : PySem.W.Frag} {C : Addr} {t : String} {b : Bool} (h1 : PySem.W.kitMeta t = true) (h3 : PySem.W.subIn K (.ref C) (.type t) = some b) : PySem.W.kitOne K (.ref C) (.type t) = some b := kit_ob h1 h3
end DW
namespace DW
open PySem PySem.Spec PyProof.Rows L2
/-! ### tables of code objects, by the written part -/
theorem tab_mk {K : PySem.W.Frag} {x : Str} {f c P : Addr} {oc oc2 : Value} {od od2 : Option Addr} {fd : FuncData} {osl osl2 : Array (Option Value)} {vs : Array Value}
    (h1 : PySem.W.nsIn K mainGlobals x = some (some (.ref f))) (h2 : K.lookup f = some ⟨oc, od, .func fd, osl⟩) (h3 : fd.code = .ref c) (h4 : K.lookup c = some ⟨oc2, od2, .fields vs, osl2⟩) (h5 : (vs[11]? : Option Value) = some (.ref P)) : PySem.W.tabIn K x = some (c, P) := by
  unfold PySem.W.tabIn
  rw [h1]
  dsimp only
  rw [h2]
  dsimp only
  rw [h3]
  dsimp only
  rw [h4]
  dsimp only
  rw [h5]
end DW
namespace DW
open PySem PySem.Spec PyProof.Rows L2
/-! ### the walk over refusals -/
section
variable {δ : Dl} {S : Sto} {ns : List Str} {mb fe : FE} {mc : FM} {n m f : Str} {l : List D} {t : String}
theorem c_told {Q : D → Sto → Prop} {E : Xc → Sto → Prop} : wq (eTold ns mb mc δ S) Q E .a = wq (mb δ S) (fun d S' => Q (.lst [d]) S') (fun e S' => e.n ∈ ns ∧ wq (mc [.xcp e.n e.ns e.l] S') Q (fun _ _ => False) .a) .a := by
  show wp (eTold ns mb mc δ S) Q E = wp (mb δ S) (fun d S' => Q (.lst [d]) S') (fun e S' => e.n ∈ ns ∧ wp (mc [.xcp e.n e.ns e.l] S') Q (fun _ _ => False))
  unfold eTold
  cases mb δ S with
  | ok d S' => rfl
  | ex e S' =>
    show wp (if e.n ∈ ns then (mc [.xcp e.n e.ns e.l] S').noX else .bad) Q E = (e.n ∈ ns ∧ wp (mc [.xcp e.n e.ns e.l] S') Q (fun _ _ => False))
    by_cases h : e.n ∈ ns
    · rw [if_pos h, wp_noX]
      simp [h]
    · rw [if_neg h]
      simp [h, wp_bad]
  | bad => rfl
theorem c_raise {g : D → List D} {N : Dl → Sto → Prop} {T : D → Sto → Prop} {E : Xc → Dl → Sto → Prop} : wqS (sRaise n ns g fe δ S) N T E .a = wq (fe δ S) (fun d s => E ⟨n, ns, g d⟩ δ s) (fun e s => E e δ s) .a := qs_go
theorem o_isxO : isxD [.xcp n ns l, .xcl m] S = .ok (.bl (decide (m ∈ xOwn n))) S := rfl
theorem o_isxT : isxD [.xcp n ns l, .ty t] S = if t ∈ xTys then .ok (.bl (decide (t ∈ xBlt n))) S else .bad := rfl
theorem o_xf : xfD f (.xcp n ns l) S = optR (kget ns l f) S := by
  show (match kget ns l f with
    | some x => R.ok x S
    | none => .bad) = optR (kget ns l f) S
  cases kget ns l f <;> rfl
end
section
variable {δ : Dl} {S : Sto} {fa : FE} {g1 g2 : FG} {x y : D} {l : List D} {ns : List Str}
def asg2T (g1 g2 : FG) (δ : Dl) (d : D) (S : Sto) : RS := match g1 d δ S with
  | .ok δ' S' => match g2 d δ' S' with
    | .ok δ2 S2 => .nx δ2 S2
    | _ => .bad
  | _ => .bad
theorem c_asg2 {N : Dl → Sto → Prop} {T : D → Sto → Prop} {E : Xc → Dl → Sto → Prop} : wqS (sAsg2 fa g1 g2 δ S) N T E .a = wq (fa δ S) (fun d s => wqS (asg2T g1 g2 δ d s) N T E .a) (fun e s => E e δ s) .a := qs_go
theorem o_asg2 {i j : Nat} {d : D} : asg2T (gNm i) (gNm j) δ d S = .nx ((δ.set i (some d)).set j (some d)) S := rfl
theorem kg_pw : kget (("place" : Str) :: "what" :: ns) (x :: y :: l) "what" = some y := by
  unfold kget
  rw [if_neg (by decide +kernel)]
  unfold kget
  rw [if_pos rfl]
end
section
variable {S : Sto} {ns : List Str} {l : List D}
theorem ix_BadValue_BadValue : isxD [.xcp "BadValue" ns l, .xcl "BadValue"] S = .ok (.bl true) S := by rw [o_isxO, decide_eq_true (by decide +kernel)]
theorem ix_BadValue_BadText : isxD [.xcp "BadValue" ns l, .xcl "BadText"] S = .ok (.bl false) S := by rw [o_isxO, decide_eq_false (by decide +kernel)]
theorem ix_BadValue_NotFinite : isxD [.xcp "BadValue" ns l, .xcl "NotFinite"] S = .ok (.bl false) S := by rw [o_isxO, decide_eq_false (by decide +kernel)]
theorem ix_BadValue_NoPaper : isxD [.xcp "BadValue" ns l, .xcl "NoPaper"] S = .ok (.bl false) S := by rw [o_isxO, decide_eq_false (by decide +kernel)]
theorem ix_BadValue_CantBe : isxD [.xcp "BadValue" ns l, .xcl "CantBe"] S = .ok (.bl false) S := by rw [o_isxO, decide_eq_false (by decide +kernel)]
theorem ix_BadValue_NoRow : isxD [.xcp "BadValue" ns l, .xcl "NoRow"] S = .ok (.bl false) S := by rw [o_isxO, decide_eq_false (by decide +kernel)]
theorem ix_BadValue_ValueError : isxD [.xcp "BadValue" ns l, .ty "ValueError"] S = .ok (.bl true) S := by rw [o_isxT, if_pos (by decide +kernel), decide_eq_true (by decide +kernel)]
theorem ix_BadValue_ArithmeticError : isxD [.xcp "BadValue" ns l, .ty "ArithmeticError"] S = .ok (.bl false) S := by rw [o_isxT, if_pos (by decide +kernel), decide_eq_false (by decide +kernel)]
theorem ix_BadValue_IndexError : isxD [.xcp "BadValue" ns l, .ty "IndexError"] S = .ok (.bl false) S := by rw [o_isxT, if_pos (by decide +kernel), decide_eq_false (by decide +kernel)]
theorem ix_BadValue_RuntimeError : isxD [.xcp "BadValue" ns l, .ty "RuntimeError"] S = .ok (.bl false) S := by rw [o_isxT, if_pos (by decide +kernel), decide_eq_false (by decide +kernel)]
theorem ix_BadText_BadValue : isxD [.xcp "BadText" ns l, .xcl "BadValue"] S = .ok (.bl true) S := by rw [o_isxO, decide_eq_true (by decide +kernel)]
theorem ix_BadText_BadText : isxD [.xcp "BadText" ns l, .xcl "BadText"] S = .ok (.bl true) S := by rw [o_isxO, decide_eq_true (by decide +kernel)]
theorem ix_BadText_NotFinite : isxD [.xcp "BadText" ns l, .xcl "NotFinite"] S = .ok (.bl false) S := by rw [o_isxO, decide_eq_false (by decide +kernel)]
theorem ix_BadText_NoPaper : isxD [.xcp "BadText" ns l, .xcl "NoPaper"] S = .ok (.bl false) S := by rw [o_isxO, decide_eq_false (by decide +kernel)]
theorem ix_BadText_CantBe : isxD [.xcp "BadText" ns l, .xcl "CantBe"] S = .ok (.bl false) S := by rw [o_isxO, decide_eq_false (by decide +kernel)]
theorem ix_BadText_NoRow : isxD [.xcp "BadText" ns l, .xcl "NoRow"] S = .ok (.bl false) S := by rw [o_isxO, decide_eq_false (by decide +kernel)]
theorem ix_BadText_ValueError : isxD [.xcp "BadText" ns l, .ty "ValueError"] S = .ok (.bl true) S := by rw [o_isxT, if_pos (by decide +kernel), decide_eq_true (by decide +kernel)]
theorem ix_BadText_ArithmeticError : isxD [.xcp "BadText" ns l, .ty "ArithmeticError"] S = .ok (.bl false) S := by rw [o_isxT, if_pos (by decide +kernel), decide_eq_false (by decide +kernel)]
theorem ix_BadText_IndexError : isxD [.xcp "BadText" ns l, .ty "IndexError"] S = .ok (.bl false) S := by rw [o_isxT, if_pos (by decide +kernel), decide_eq_false (by decide +kernel)]
theorem ix_BadText_RuntimeError : isxD [.xcp "BadText" ns l, .ty "RuntimeError"] S = .ok (.bl false) S := by rw [o_isxT, if_pos (by decide +kernel), decide_eq_false (by decide +kernel)]
theorem ix_NotFinite_BadValue : isxD [.xcp "NotFinite" ns l, .xcl "BadValue"] S = .ok (.bl false) S := by rw [o_isxO, decide_eq_false (by decide +kernel)]
theorem ix_NotFinite_BadText : isxD [.xcp "NotFinite" ns l, .xcl "BadText"] S = .ok (.bl false) S := by rw [o_isxO, decide_eq_false (by decide +kernel)]
theorem ix_NotFinite_NotFinite : isxD [.xcp "NotFinite" ns l, .xcl "NotFinite"] S = .ok (.bl true) S := by rw [o_isxO, decide_eq_true (by decide +kernel)]
theorem ix_NotFinite_NoPaper : isxD [.xcp "NotFinite" ns l, .xcl "NoPaper"] S = .ok (.bl false) S := by rw [o_isxO, decide_eq_false (by decide +kernel)]
theorem ix_NotFinite_CantBe : isxD [.xcp "NotFinite" ns l, .xcl "CantBe"] S = .ok (.bl false) S := by rw [o_isxO, decide_eq_false (by decide +kernel)]
theorem ix_NotFinite_NoRow : isxD [.xcp "NotFinite" ns l, .xcl "NoRow"] S = .ok (.bl false) S := by rw [o_isxO, decide_eq_false (by decide +kernel)]
theorem ix_NotFinite_ValueError : isxD [.xcp "NotFinite" ns l, .ty "ValueError"] S = .ok (.bl false) S := by rw [o_isxT, if_pos (by decide +kernel), decide_eq_false (by decide +kernel)]
theorem ix_NotFinite_ArithmeticError : isxD [.xcp "NotFinite" ns l, .ty "ArithmeticError"] S = .ok (.bl true) S := by rw [o_isxT, if_pos (by decide +kernel), decide_eq_true (by decide +kernel)]
theorem ix_NotFinite_IndexError : isxD [.xcp "NotFinite" ns l, .ty "IndexError"] S = .ok (.bl false) S := by rw [o_isxT, if_pos (by decide +kernel), decide_eq_false (by decide +kernel)]
theorem ix_NotFinite_RuntimeError : isxD [.xcp "NotFinite" ns l, .ty "RuntimeError"] S = .ok (.bl false) S := by rw [o_isxT, if_pos (by decide +kernel), decide_eq_false (by decide +kernel)]
theorem ix_NoPaper_BadValue : isxD [.xcp "NoPaper" ns l, .xcl "BadValue"] S = .ok (.bl true) S := by rw [o_isxO, decide_eq_true (by decide +kernel)]
theorem ix_NoPaper_BadText : isxD [.xcp "NoPaper" ns l, .xcl "BadText"] S = .ok (.bl false) S := by rw [o_isxO, decide_eq_false (by decide +kernel)]
theorem ix_NoPaper_NotFinite : isxD [.xcp "NoPaper" ns l, .xcl "NotFinite"] S = .ok (.bl false) S := by rw [o_isxO, decide_eq_false (by decide +kernel)]
theorem ix_NoPaper_NoPaper : isxD [.xcp "NoPaper" ns l, .xcl "NoPaper"] S = .ok (.bl true) S := by rw [o_isxO, decide_eq_true (by decide +kernel)]
theorem ix_NoPaper_CantBe : isxD [.xcp "NoPaper" ns l, .xcl "CantBe"] S = .ok (.bl false) S := by rw [o_isxO, decide_eq_false (by decide +kernel)]
theorem ix_NoPaper_NoRow : isxD [.xcp "NoPaper" ns l, .xcl "NoRow"] S = .ok (.bl false) S := by rw [o_isxO, decide_eq_false (by decide +kernel)]
theorem ix_NoPaper_ValueError : isxD [.xcp "NoPaper" ns l, .ty "ValueError"] S = .ok (.bl true) S := by rw [o_isxT, if_pos (by decide +kernel), decide_eq_true (by decide +kernel)]
theorem ix_NoPaper_ArithmeticError : isxD [.xcp "NoPaper" ns l, .ty "ArithmeticError"] S = .ok (.bl false) S := by rw [o_isxT, if_pos (by decide +kernel), decide_eq_false (by decide +kernel)]
theorem ix_NoPaper_IndexError : isxD [.xcp "NoPaper" ns l, .ty "IndexError"] S = .ok (.bl false) S := by rw [o_isxT, if_pos (by decide +kernel), decide_eq_false (by decide +kernel)]
theorem ix_NoPaper_RuntimeError : isxD [.xcp "NoPaper" ns l, .ty "RuntimeError"] S = .ok (.bl false) S := by rw [o_isxT, if_pos (by decide +kernel), decide_eq_false (by decide +kernel)]
theorem ix_CantBe_BadValue : isxD [.xcp "CantBe" ns l, .xcl "BadValue"] S = .ok (.bl false) S := by rw [o_isxO, decide_eq_false (by decide +kernel)]
theorem ix_CantBe_BadText : isxD [.xcp "CantBe" ns l, .xcl "BadText"] S = .ok (.bl false) S := by rw [o_isxO, decide_eq_false (by decide +kernel)]
theorem ix_CantBe_NotFinite : isxD [.xcp "CantBe" ns l, .xcl "NotFinite"] S = .ok (.bl false) S := by rw [o_isxO, decide_eq_false (by decide +kernel)]
theorem ix_CantBe_NoPaper : isxD [.xcp "CantBe" ns l, .xcl "NoPaper"] S = .ok (.bl false) S := by rw [o_isxO, decide_eq_false (by decide +kernel)]
theorem ix_CantBe_CantBe : isxD [.xcp "CantBe" ns l, .xcl "CantBe"] S = .ok (.bl true) S := by rw [o_isxO, decide_eq_true (by decide +kernel)]
theorem ix_CantBe_NoRow : isxD [.xcp "CantBe" ns l, .xcl "NoRow"] S = .ok (.bl false) S := by rw [o_isxO, decide_eq_false (by decide +kernel)]
theorem ix_CantBe_ValueError : isxD [.xcp "CantBe" ns l, .ty "ValueError"] S = .ok (.bl false) S := by rw [o_isxT, if_pos (by decide +kernel), decide_eq_false (by decide +kernel)]
theorem ix_CantBe_ArithmeticError : isxD [.xcp "CantBe" ns l, .ty "ArithmeticError"] S = .ok (.bl false) S := by rw [o_isxT, if_pos (by decide +kernel), decide_eq_false (by decide +kernel)]
theorem ix_CantBe_IndexError : isxD [.xcp "CantBe" ns l, .ty "IndexError"] S = .ok (.bl false) S := by rw [o_isxT, if_pos (by decide +kernel), decide_eq_false (by decide +kernel)]
theorem ix_CantBe_RuntimeError : isxD [.xcp "CantBe" ns l, .ty "RuntimeError"] S = .ok (.bl true) S := by rw [o_isxT, if_pos (by decide +kernel), decide_eq_true (by decide +kernel)]
theorem ix_NoRow_BadValue : isxD [.xcp "NoRow" ns l, .xcl "BadValue"] S = .ok (.bl false) S := by rw [o_isxO, decide_eq_false (by decide +kernel)]
theorem ix_NoRow_BadText : isxD [.xcp "NoRow" ns l, .xcl "BadText"] S = .ok (.bl false) S := by rw [o_isxO, decide_eq_false (by decide +kernel)]
theorem ix_NoRow_NotFinite : isxD [.xcp "NoRow" ns l, .xcl "NotFinite"] S = .ok (.bl false) S := by rw [o_isxO, decide_eq_false (by decide +kernel)]
theorem ix_NoRow_NoPaper : isxD [.xcp "NoRow" ns l, .xcl "NoPaper"] S = .ok (.bl false) S := by rw [o_isxO, decide_eq_false (by decide +kernel)]
theorem ix_NoRow_CantBe : isxD [.xcp "NoRow" ns l, .xcl "CantBe"] S = .ok (.bl false) S := by rw [o_isxO, decide_eq_false (by decide +kernel)]
theorem ix_NoRow_NoRow : isxD [.xcp "NoRow" ns l, .xcl "NoRow"] S = .ok (.bl true) S := by rw [o_isxO, decide_eq_true (by decide +kernel)]
theorem ix_NoRow_ValueError : isxD [.xcp "NoRow" ns l, .ty "ValueError"] S = .ok (.bl false) S := by rw [o_isxT, if_pos (by decide +kernel), decide_eq_false (by decide +kernel)]
theorem ix_NoRow_ArithmeticError : isxD [.xcp "NoRow" ns l, .ty "ArithmeticError"] S = .ok (.bl false) S := by rw [o_isxT, if_pos (by decide +kernel), decide_eq_false (by decide +kernel)]
theorem ix_NoRow_IndexError : isxD [.xcp "NoRow" ns l, .ty "IndexError"] S = .ok (.bl true) S := by rw [o_isxT, if_pos (by decide +kernel), decide_eq_true (by decide +kernel)]
theorem ix_NoRow_RuntimeError : isxD [.xcp "NoRow" ns l, .ty "RuntimeError"] S = .ok (.bl false) S := by rw [o_isxT, if_pos (by decide +kernel), decide_eq_false (by decide +kernel)]
theorem kg_0 {w : Str} {x : D} {l : List D} : kget (w :: ns) (x :: l) w = some x := by unfold kget; rw [if_pos rfl]
end
/-! ### methods of what a call gives -/
theorem out_app {S Z : Sto} {v : D} {Q : D → Sto → Prop} (hv : ∀ n, v ≠ .ref n) (hb : v.bel S.length = true) (q : Q v S) : ((v.out S.length (S ++ Z)).bel S.length = true ∧ ∀ i o, (S ++ Z)[i]? = some o → i < S.length → S[i]? = some o ∨ o.bel S.length = true) ∧ Q (v.out S.length (S ++ Z)) ((S ++ Z).take S.length) := by
  have e : v.out S.length (S ++ Z) = v := by
    unfold D.out
    cases v with
    | ref n => exact absurd rfl (hv n)
    | _ => rfl
  rw [e]
  refine ⟨⟨hb, fun i o h hi => .inl ?_⟩, ?_⟩
  · rw [List.getElem?_append_left hi] at h
    exact h
  · rw [List.take_left' rfl]
    exact q
/-! ### constant texts -/
theorem strOk_of (s : String) : PyData.strOk (Str.ofString s) = true := by
  rw [Str.ofString_eq_toList]
  unfold PyData.strOk
  rw [List.all_toArray, List.all_eq_true]
  intro x hx
  obtain ⟨c, _, rfl⟩ := List.mem_map.mp hx
  have := c.valid
  rw [decide_eq_true_eq]
  rcases this with h | h
  · show c.val.toNat < 1114112
    omega
  · exact h.2
theorem ofS_inj {a b : String} : (Str.ofString a = Str.ofString b) = (a = b) := by
  apply propext
  refine ⟨fun h => ?_, fun h => by rw [h]⟩
  rw [Str.ofString_eq_toList, Str.ofString_eq_toList] at h
  have h := Str.mk.inj h
  have h : a.toList.map Char.toNat = b.toList.map Char.toNat := by simpa using h
  have key : ∀ {l m : List Char}, l.map Char.toNat = m.map Char.toNat → l = m := fun {l} => by
    induction l with
    | nil => intro m h; cases m with
      | nil => rfl
      | cons _ _ => simp at h
    | cons c l ih => intro m h; cases m with
      | nil => simp at h
      | cons d m =>
        simp only [List.map_cons, List.cons.injEq] at h
        rw [Char.toNat_inj.mp h.1, ih h.2]
  exact String.toList_inj.mp (key h)
end DW
namespace DW
open PySem PySem.Spec PyProof.Rows L2
/-! ### == and != of an own instance and whatever stands at the right -/
section
variable {prog : Program} {w : World} {A : Around} {E : Value → Shared → Prop} {s : Shared} {K : PySem.W.Frag} {x C f : Addr} {ox : Obj} {od : Option Obj} {y : Value}
end
structure AnyEq (c : Cc) (C : Addr) : Prop where
  b : ∀ t ∈ bTys, PySem.W.notFirst c.K C (.type t) = true
  o : ∀ n D, c.cl n = some D → PySem.W.notFirst c.K C (.ref D) = true
theorem AnyEq.of_list {K : PySem.W.Frag} {C : Addr} {l : List (Str × Addr)} {T : List (Addr × Str)} {xc : Str → Option Addr} (b : allT (fun t => PySem.W.notFirst K C (.type t) = true) bTys) (o : allP (fun _ D => PySem.W.notFirst K C (.ref D) = true) l) : AnyEq ⟨K, fun n => l.lookup n, T, xc⟩ C :=
  ⟨fun _ h => allT_at b h, fun _ _ h => allP_at o h⟩
section
variable {c : Cc} {X : Cx} {W : WX} {k : Nat} {ps : List Str} {C : Addr} {cn qual : Str} {st : Stmt} {dvs : List V} {kvs : List (Str × V)} {m : FM}
end
/-! ### a, b, .. = a list -/
noncomputable def gTupL (n : Nat) (gs : FGs) : FG := fun d δ S => match d.rseq S with
  | some l => if l.length = n then gs l δ S else .bad
  | none => .bad
end DW
namespace DW
open PySem PySem.Spec PyProof.Rows L2
/-! ### texts and tuples repeated -/
def repStr (x : Str) (n : Int) : Str := ⟨(List.replicate n.toNat x.cps.toList).flatten.toArray⟩
theorem foldl_arr : ∀ (l : List Nat) (n : Nat) (acc : List Nat), List.foldl (fun a b => a ++ b) acc.toArray (List.replicate n l.toArray) = (acc ++ (List.replicate n l).flatten).toArray
  | l, 0, acc => by simp
  | l, n + 1, acc => by
    rw [List.replicate_succ, List.foldl_cons, List.replicate_succ, List.flatten_cons, ← List.append_assoc, ← foldl_arr l n (acc ++ l)]
    congr 1
    simp
theorem repStr_len {x : Str} {n : Int} : (repStr x n).length = n.toNat * x.length := by
  show (List.replicate n.toNat x.cps.toList).flatten.toArray.size = n.toNat * x.cps.size
  simp
theorem repStr_zero {x : Str} {n : Int} (h : n < 1) : repStr x n = Str.empty := by
  unfold repStr
  rw [show n.toNat = 0 by omega]
  rfl
theorem repStr_one {x : Str} : repStr x 1 = x := by
  unfold repStr
  rw [show (1 : Int).toNat = 1 from rfl, List.replicate_one]
  simp
section
variable {X : Cx}
theorem op_repStr : OpR X (binaryOp .Mult) (fun x y H Q => ∃ (a : Str) (n : Int), x = .str a ∧ y = .int n ∧ -(2 ^ 30) ≤ n ∧ n ≤ 2 ^ 30 ∧ a.length * n.toNat ≤ sizeLine ∧ Q (.str (repStr a n)) H) := by
  intro pins s σ H x y v u Q I rx ry h
  obtain ⟨a, n, rfl, rfl, n0, n1, hz, q⟩ := h
  obtain ⟨t, rfl⟩ := id rx
  obtain ⟨t', rfl⟩ := id ry
  have c0 : (decide (n < -(2 ^ 63 : Int)) || decide (n ≥ 2 ^ 63)) = false := by
    rw [decide_eq_false (by omega), decide_eq_false (by omega)]
    rfl
  have big : a.length ≤ sizeLine ∨ n < 1 := by
    rcases Int.lt_or_le n 1 with z | z
    · exact .inr z
    · left
      have : a.length * 1 ≤ a.length * n.toNat := Nat.mul_le_mul_left _ (by omega)
      omega
  refine PySem.P.mul_str c0 (fun h1 h2 => ?_) (fun h1 h2 => ?_) ?_
  · rw [sizeLine_eq] at big hz
    have h3 : (4294967296 : Int) ≤ (2 ^ 63 - 1) / n := Int.le_ediv_of_mul_le (by omega) (by omega)
    rcases big with b | b <;> omega
  · unfold Builtin.Str.tooLong
    exact decide_eq_false (by omega)
  · have e : ∀ z : Str, z = repStr a n → Q (.str z) H := fun z hz => by rw [hz]; exact q
    split
    · rename_i c
      exact ⟨by decide, .str Str.empty, H, I.tok _, ⟨_, rfl⟩, e _ (repStr_zero c).symm⟩
    · rename_i c
      split
      · rename_i c2
        refine ⟨.str a, H, I, ⟨_, rfl⟩, e _ ?_⟩
        rcases Bool.or_eq_true_iff.mp c2 with z | z
        · rw [beq_iff_eq.mp z, repStr_one]
        · have z : a.cps.size = 0 := beq_iff_eq.mp z
          have ea : a.cps = #[] := Array.eq_empty_of_size_eq_zero z
          obtain ⟨cp⟩ := a
          dsimp only at ea
          subst ea
          unfold repStr
          simp
      · have e3 : (⟨(List.replicate n.toNat a.cps).foldl (· ++ ·) #[]⟩ : Str) = repStr a n := by
          unfold repStr
          congr 1
          have := foldl_arr a.cps.toList n.toNat []
          simpa using this
        rw [e3]
        refine ⟨?_, .str (repStr a n), H, I.tok _, ⟨_, rfl⟩, q⟩
        have := repStr_len (x := a) (n := n)
        rw [Nat.mul_comm] at this
        rw [this]
        exact hz
end
noncomputable def repSD : D → D → Sto → R D
  | .str a, .int n, S => .chk (-(2 ^ 30) ≤ n ∧ n ≤ 2 ^ 30 ∧ a.length * n.toNat ≤ sizeLine) (.ok (.str (repStr a n)) S)
  | _, _, _ => .bad
noncomputable def repTD : D → D → Sto → R D
  | .tup l, .int k, S => .chk (l ≠ [] ∧ 2 ≤ k ∧ k ≤ 100000 ∧ l.length ≤ 10) (.ok (.tup (List.replicate k.toNat l).flatten) S)
  | _, _, _ => .bad
section
variable {c : Cc} {X : Cx} {W : WX} {a b : Expr} {fa fb : FE} {pos : Pos}
theorem de_repS (ha : DE c X W a fa) (hb : DE c X W b fb) : DE c X W (.BinOp a .Mult b pos) (e2 repSD fa fb) := de_op op_repStr (fun ρ S G H d1 d2 v1 v2 Q W sb r h1 h2 q => by
  unfold repSD at q
  split at q
  · simp only [Dat] at h1 h2
    rw [wp_chk] at q
    exact ⟨_, _, h1, h2, q.1.1, q.1.2.1, q.1.2.2, q.2 _ ρ G H r (Go.refl sb) (by simp only [Dat])⟩
  · exact q.elim) ha hb
theorem o_repS {x : Str} {n : Int} {S : Sto} : repSD (.str x) (.int n) S = .chk (-(2 ^ 30) ≤ n ∧ n ≤ 2 ^ 30 ∧ x.length * n.toNat ≤ sizeLine) (.ok (.str (repStr x n)) S) := rfl
theorem o_repT {l : List D} {k : Int} {S : Sto} : repTD (.tup l) (.int k) S = .chk (l ≠ [] ∧ 2 ≤ k ∧ k ≤ 100000 ∧ l.length ≤ 10) (.ok (.tup (List.replicate k.toNat l).flatten) S) := rfl
end
/-! ### a == b == c by own rules -/
section
variable {c : Cc} {X : Cx} {W : WX} {a b e : Expr} {fa fb fe : FE} {g g' : D → D → Sto → R D} {op op' : CmpOp} {pos : Pos}
end
/-! ### the walk -/
section
variable {m : FM} {S : Sto} {a t sd : Int} {d : D} {l : List D} {δ : Dl} {x : Str} {i : Int}
theorem kn_non : D.kn S .non = some (.b "NoneType") := rfl
theorem kn_bl {b : Bool} : D.kn S (.bl b) = some (.b "bool") := rfl
theorem kn_int : D.kn S (.int i) = some (.b "int") := rfl
theorem kn_str : D.kn S (.str x) = some (.b "str") := rfl
theorem kn_tup : D.kn S (.tup l) = some (.b "tuple") := rfl
theorem kn_lst : D.kn S (.lst l) = some (.b "list") := rfl
theorem kn_num {y : Nm} : D.kn S (numD y) = some (.o "Number") := rfl
theorem kn_dec : D.kn S (decD a t sd) = some (.o "Decimal") := rfl
end
end DW
namespace DW
open PySem PySem.Spec PyProof.Rows L2
/-! ### texts -/
theorem str_ext {x y : Str} (h : x.cps.toList = y.cps.toList) : x = y := by
  obtain ⟨a⟩ := x
  obtain ⟨b⟩ := y
  exact congrArg Str.mk (Array.toList_inj.mp h)
theorem app_l {x y : Str} : (x ++ y).cps.toList = x.cps.toList ++ y.cps.toList := by
  show (x.cps ++ y.cps).toList = _
  simp
def plainK : D → Bool
  | .non => true
  | .bl _ => true
  | .int _ => true
  | .str _ => true
  | .tup _ => true
  | .lst _ => true
  | .scr _ => true
  | .dct _ _ => true
  | _ => false
def intK : D → Bool
  | .int _ => true
  | .bl _ => true
  | _ => false
def boolK : D → Bool
  | .bl _ => true
  | _ => false
def tupK : D → Bool
  | .tup _ => true
  | _ => false
theorem isiP_int {d : D} {S : Sto} (h : plainK d = true) : isiD [d, .ty "int"] S = .ok (.bl (intK d)) S := by
  cases d <;> first | rfl | cases h
theorem isiP_bool {d : D} {S : Sto} (h : plainK d = true) : isiD [d, .ty "bool"] S = .ok (.bl (boolK d)) S := by
  cases d <;> first | rfl | cases h
theorem isiP_tup {d : D} {S : Sto} (h : plainK d = true) : isiD [d, .ty "tuple"] S = .ok (.bl (tupK d)) S := by
  cases d <;> first | rfl | cases h
section
variable {d : Dw} {Z : Sto} {n : Nat} {l : List D} {o : Ob} {x y : D} {i : Int}
end
end DW
namespace DW
open PySem PySem.Spec PyProof.Rows L2
/-! ### a field as a target -/
noncomputable def gAt (n f : Str) (fa : FE) : FG := fun v δ S => match fa δ S with
  | .ok d S1 => (fputD n f d v S1).bind fun _ S2 => .ok δ S2
  | _ => .bad
section
variable {S : Sto} {n f : Str} {v : D} {δ : Dl}
end
end DW
namespace DW
open PySem PySem.Spec PyProof.Rows L2
/-! ### numbers, what is none of them too, and their plain things -/
def nanN (s : Sh) : Nm := ⟨s, 0, 0, s.lo, "nan"⟩
def NumOk (x : Nm) : Prop := (∃ s, s.Ok ∧ FinInf s x) ∨ ∃ s, s.Ok ∧ x = nanN s
theorem NumOk.cases {P : Nm → Prop} {x : Nm} (h : NumOk x) (h1 : ∀ s sd b e, (finN s sd b e).Fin → x = finN s sd b e → P (finN s sd b e)) (h2 : ∀ s sd, s.Ok → 0 ≤ sd → sd ≤ 1 → x = infN s sd → P (infN s sd)) (h3 : ∀ s, s.Ok → x = nanN s → P (nanN s)) : P x := by
  rcases h with ⟨s, hs, e, s0, s1, hf | hi⟩ | ⟨s, hs, e⟩
  · obtain ⟨a, b, c, d, f⟩ := x
    have : f = "finite" := hf.st
    subst this
    exact h1 a b c d hf rfl
  · rw [hi]
    exact h2 s x.side hs s0 s1 hi
  · rw [e]
    exact h3 s hs e
theorem NumOk.fin {s : Sh} {sd b e : Int} (h : (finN s sd b e).Fin) : NumOk (finN s sd b e) := .inl ⟨s, h.ok, rfl, h.s1, h.s2, .inl h⟩
theorem NumOk.inf {s : Sh} {sd : Int} (hs : s.Ok) (h0 : 0 ≤ sd) (h1 : sd ≤ 1) : NumOk (infN s sd) := .inl ⟨s, hs, rfl, h0, h1, .inr rfl⟩
theorem NumOk.nan {s : Sh} (hs : s.Ok) : NumOk (nanN s) := .inr ⟨s, hs, rfl⟩
theorem NumOk.sh {x : Nm} (h : NumOk x) : x.sh.Ok := by
  rcases h with ⟨s, hs, e, _⟩ | ⟨s, hs, e⟩
  · rw [e]
    exact hs
  · rw [e]
    exact hs
def plD (x : Nm) : D := .tup [.str x.st, shD x.sh, .int x.side, .int (if x.st = "finite" then x.bits else 0), .int (if x.st = "finite" then x.scale else 0)]
section
variable {s : Sh} {sd b e : Int}
theorem pl_fin : plD (finN s sd b e) = .tup [.str "finite", shD s, .int sd, .int b, .int e] := by
  unfold plD finN
  simp
theorem pl_inf : plD (infN s sd) = .tup [.str "infinite", shD s, .int sd, .int 0, .int 0] := by
  unfold plD infN
  simp only [ofS_inj, String.reduceEq, if_false]
theorem pl_nan : plD (nanN s) = .tup [.str "nan", shD s, .int 0, .int 0, .int 0] := by
  unfold plD nanN
  simp only [ofS_inj, String.reduceEq, if_false]
theorem st_inf : (infN s sd).st = Str.ofString "infinite" := rfl
theorem st_fin : (finN s sd b e).st = Str.ofString "finite" := rfl
theorem st_nan : (nanN s).st = Str.ofString "nan" := rfl
theorem sh_inf : (infN s sd).sh = s := rfl
theorem sh_fin : (finN s sd b e).sh = s := rfl
theorem sh_nan : (nanN s).sh = s := rfl
theorem sd_inf : (infN s sd).side = sd := rfl
theorem sd_fin : (finN s sd b e).side = sd := rfl
theorem sd_nan : (nanN s).side = 0 := rfl
theorem bt_inf : (infN s sd).bits = 0 := rfl
theorem bt_fin : (finN s sd b e).bits = b := rfl
theorem bt_nan : (nanN s).bits = 0 := rfl
theorem scl_inf : (infN s sd).scale = s.lo := rfl
theorem scl_fin : (finN s sd b e).scale = e := rfl
theorem scl_nan : (nanN s).scale = s.lo := rfl
end
section
variable {x : Nm} {S : Sto} {s : Sh} {sd : Int}
theorem pl_ix0 : ixD (plD x) (.int 0) S = .ok (.str x.st) S := rfl
theorem pl_ix1 : ixD (plD x) (.int 1) S = .ok (shD x.sh) S := rfl
theorem pl_ix2 : ixD (plD x) (.int 2) S = .ok (.int x.side) S := rfl
end
/-! ### ranks there and back -/
section
variable {s : Sh} {r : Int} {x : Nm}
theorem FinInf.ok (hs : s.Ok) (h : FinInf s x) : NumOk x := .inl ⟨s, hs, h⟩
end
theorem NumOk.st {x : Nm} (h : NumOk x) : PyData.strOk x.st = true := by
  refine h.cases (P := fun x => PyData.strOk x.st = true) (fun s sd b e f _ => ?_) (fun s sd hs h0 h1 _ => ?_) fun s hs _ => ?_ <;> exact strOk_of _
section
variable {a b c d e : D} {S : Sto}
end
theorem k_sh {n : Nat} {s : Sh} : okD (n + 1) (shD s) = true := by simp [shD, okD, okAll]
theorem q_sh {s t : Sh} : eqB (shD s) (shD t) = decide (s = t) := by
  obtain ⟨a, b, c⟩ := s
  obtain ⟨a', b', c'⟩ := t
  unfold shD
  rw [q_tup]
  simp only [q_cc, q_nn, q_int, Bool.and_true, Sh.mk.injEq, Bool.decide_and]
end DW
namespace DW
open PySem PySem.Spec PyProof.Rows L2
/-! ### powers of great numbers -/
def OddK (S : Sto) (d : D) : Prop := plainK d = true ∨ (∃ n, d.kn S = some (.o n)) ∧ (∀ i, d ≠ .int i) ∧ tupK d = false
theorem isiO_b {S : Sto} {d : D} {n : Str} {u : String} (h : d.kn S = some (.o n)) (hu : u ∈ bTys) : isiD [d, .ty u] S = .ok (.bl false) S := by
  unfold isiD
  dsimp only
  rw [kq_of h]
  show (match isiG (.o n) (.b u) with | some b => R.ok (D.bl b) S | none => .bad) = _
  have e : isiG (.o n) (.b u) = some false := if_pos hu
  rw [e]
theorem OddK.int {S : Sto} {d : D} (h : OddK S d) : isiD [d, .ty "int"] S = .ok (.bl (intK d)) S := by
  rcases h with h | ⟨⟨n, h⟩, ni, _⟩
  · exact isiP_int h
  · rw [isiO_b h (by decide +kernel)]
    cases d <;> first | rfl | (exact absurd rfl (ni _)) | (cases h)
theorem OddK.bool {S : Sto} {d : D} (h : OddK S d) : isiD [d, .ty "bool"] S = .ok (.bl (boolK d)) S := by
  rcases h with h | ⟨⟨n, h⟩, ni, _⟩
  · exact isiP_bool h
  · rw [isiO_b h (by decide +kernel)]
    cases d <;> first | rfl | (cases h)
theorem OddK.tup {S : Sto} {d : D} (h : OddK S d) : isiD [d, .ty "tuple"] S = .ok (.bl (tupK d)) S := by
  rcases h with h | ⟨⟨n, h⟩, ni, nt⟩
  · exact isiP_tup h
  · rw [isiO_b h (by decide +kernel), nt]
theorem OddK.plain {S : Sto} {d : D} (h : plainK d = true) : OddK S d := .inl h
theorem OddK.num {S : Sto} {x : Nm} : OddK S (numD x) := .inr ⟨⟨_, rfl⟩, (fun i z => by cases z), rfl⟩
theorem OddK.dec {S : Sto} {a t sd : Int} : OddK S (decD a t sd) := .inr ⟨⟨_, rfl⟩, (fun i z => by cases z), rfl⟩
theorem OddK.ref {S : Sto} {k : Nat} {n : Str} {ns : List Str} {l : List D} (h : S[k]? = some (.ins n ns l)) : OddK S (.ref k) := .inr ⟨⟨n, by
  show (S[k]?).bind Ob.kn = _
  rw [h]
  rfl⟩, (fun i z => by cases z), rfl⟩
theorem c_gat {n f : Str} {fa : FE} {v : D} {δ : Dl} {S : Sto} {Q : Dl → Sto → Prop} : wq (gAt n f fa v δ S) Q (fun _ _ => False) .a = wq (fa δ S) (fun d S1 => wq (fputD n f d v S1) (fun _ S2 => Q δ S2) (fun _ _ => False) .a) (fun _ _ => False) .a := by
  show wp (gAt n f fa v δ S) Q (fun _ _ => False) = wp (fa δ S) (fun d S1 => wp (fputD n f d v S1) (fun _ S2 => Q δ S2) (fun _ _ => False)) (fun _ _ => False)
  unfold gAt
  cases fa δ S with
  | ok d S1 =>
    show wp ((fputD n f d v S1).bind fun _ S2 => .ok δ S2) Q (fun _ _ => False) = _
    rw [wp_bind]
    rfl
  | ex e S1 => rfl
  | bad => rfl
section
variable {d : Dw} {l m : List D} {Z : Sto} {s : Sh} {S : Sto}
theorem cat_r2 : catL (.ref 2) (.lst m) (d.s (.lst l :: Z)) = .chk (l.length + m.length ≤ sizeLine) (.ok (l ++ m) (d.s (.lst l :: Z))) := rfl
theorem sh_list : listF [shD s] S = .ok [.int s.p, .int s.lo, .int s.hi] S := rfl
theorem sh_sl2 : sliceD (shD s) none (some 2) S = .ok (.tup [.int s.p, .int s.lo]) S := by
  have h : sliceD (shD s) none (some 2) S = R.chk (¬ (HT.sIx 3 0 none = 0 ∧ HT.sIx 3 3 (some 2) = 3)) (.ok (.tup (cutL [.int s.p, .int s.lo, .int s.hi] none (some 2))) S) := rfl
  rw [h, chk_pos (by decide)]
  rfl
theorem sh_sl1 : sliceD (shD s) none (some 1) S = .ok (.tup [.int s.p]) S := by
  have h : sliceD (shD s) none (some 1) S = R.chk (¬ (HT.sIx 3 0 none = 0 ∧ HT.sIx 3 3 (some 1) = 3)) (.ok (.tup (cutL [.int s.p, .int s.lo, .int s.hi] none (some 1))) S) := rfl
  rw [h, chk_pos (by decide)]
  rfl
theorem sh_add : addD (shD s) (.tup m) S = .chk (3 + m.length ≤ sizeLine) (.ok (.tup ([.int s.p, .int s.lo, .int s.hi] ++ m)) S) := rfl
end
theorem en_r4 {d : Dw} {l : List D} {o o2 : Ob} {Z : Sto} : enumI [.ref 4] (d.s (o :: o2 :: .lst l :: Z)) = .ok ⟨fun S => (D.ref 4).rseq S = some l, numbered 0 l⟩ (d.s (o :: o2 :: .lst l :: Z)) := rfl
end DW
namespace DW
open PySem PySem.Spec PyProof.Rows L2
/-! ### next ones, negated ones -/
section
variable {s : Sh} {x : Nm} {st r : Int}
end
end DW
namespace DW
open PySem PySem.Spec PyProof.Rows L2
/-! ### the order of values -/
def lz (x : Nm) : Int := if x.side = 1 then 0 - (if x.st = "infinite" then 2 ^ 2200 else x.bits * 2 ^ (x.scale + 1100).toNat) else (if x.st = "infinite" then 2 ^ 2200 else x.bits * 2 ^ (x.scale + 1100).toNat)
def expKs : List Str := ["of_number", "gone", "all_figures", "first_tens"]
end DW
namespace DW
/-! ### the shortest decimal: plain law -/
def rn (v w : Int) : Int := if 2 * (v % w) < w then v / w else if w < 2 * (v % w) then v / w + 1 else if v / w % 2 = 0 then v / w else v / w + 1
def ab (x : Int) : Int := if x < 0 then -x else x
def clN (lo hi x : Int) : Int := if (if x < hi then x else hi) < lo then lo else if x < hi then x else hi
def Ahd (v x y d e : Int) : Prop := ab (x - v) < ab (y - v) ∨ ab (x - v) = ab (y - v) ∧ d % 2 < e % 2
section
variable {v w lo hi d x : Int}
end
def Hd (c : Bool) (l m y : Int) : Prop := if c = true then l ≤ y ∧ y ≤ m else l < y ∧ y < m
def lowH (c : Bool) (l w : Int) : Int := if c = true then -(-l / w) else l / w + 1
def highH (c : Bool) (m w : Int) : Int := if c = true then m / w else -(-m / w) - 1
section
variable {c : Bool} {l m w d v : Int}
theorem Hd.conv {x y z : Int} (hx : Hd c l m x) (hz : Hd c l m z) (a : x ≤ y) (b : y ≤ z) : Hd c l m y := by
  unfold Hd at *
  cases c <;> simp only [Bool.false_eq_true, if_false, if_true] at * <;> omega
theorem Hd.pos {y : Int} (h : Hd c l m y) (hl : 0 < l) : 0 < y := by
  unfold Hd at h
  cases c <;> simp only [Bool.false_eq_true, if_false, if_true] at h <;> omega
end
def wt (t : Int) : Int := 10 ^ (t + 5000).toNat * 2 ^ 1102
def FigIs (d : Int) (n : Nat) : Prop := 1 ≤ n ∧ 10 ^ (n - 1) ≤ d ∧ d < 10 ^ n
theorem tenp (n : Nat) : (0 : Int) < 10 ^ n := Int.pow_pos (by decide)
theorem wt_pos (t : Int) : 0 < wt t := Int.mul_pos (tenp _) (by decide +kernel)
section
variable {c : Bool} {l m v t : Int}
def resH (c : Bool) (l m v t : Int) : Int × Int :=
  if 9 < clN (lowH c l (wt t)) (highH c m (wt t)) (rn v (wt t)) then (clN (lowH c l (wt t)) (highH c m (wt t)) (rn v (wt t)), t)
  else if 9 < lowH c l (wt (t - 1)) ∨ ab (10 * clN (lowH c l (wt t)) (highH c m (wt t)) (rn v (wt t)) * wt (t - 1) - v) ≤ ab (clN (lowH c l (wt (t - 1))) (if highH c m (wt (t - 1)) < 9 then highH c m (wt (t - 1)) else 9) (rn v (wt (t - 1))) * wt (t - 1) - v)
  then (clN (lowH c l (wt t)) (highH c m (wt t)) (rn v (wt t)), t)
  else (clN (lowH c l (wt (t - 1))) (if highH c m (wt (t - 1)) < 9 then highH c m (wt (t - 1)) else 9) (rn v (wt (t - 1))), t - 1)
structure BestH (c : Bool) (l m v d s : Int) : Prop where
  pos : 1 ≤ d
  plain : d % 10 ≠ 0
  held : Hd c l m (d * wt s)
  best : ∀ d' t' : Int, -5000 ≤ t' → Hd c l m (d' * wt t') → ∀ n n' : Nat, FigIs d n → FigIs d' n' → n ≤ n' ∧ (n = n' → ¬ (d' = d ∧ t' = s) → Ahd v (d * wt s) (d' * wt t') d d')
end
end DW
namespace DW
open PySem PySem.Spec PyProof.Rows L2
/-! ### the shortest decimal of a number -/
def Pq (x : Nm) : Int := 2 ^ (x.scale + 1100).toNat * 10 ^ 5000
def cQ (x : Nm) : Bool := decide (x.bits % 2 = 0)
def lQ (x : Nm) : Int := qlow x * Pq x
def vQ (x : Nm) : Int := 4 * x.bits * Pq x
def mQ (x : Nm) : Int := (4 * x.bits + 2) * Pq x
def Rat (v u t V : Int) : Prop := 0 < u ∧ v * wt t = V * u
section
variable {v u t V w q e : Int}
theorem Rat.div (h : Rat v u t V) : v / u = V / wt t := (div_ratio h.1 (wt_pos t) h.2).1
theorem Rat.neg (h : Rat v u t V) : Rat (-v) u t (-V) := ⟨h.1, by rw [Int.neg_mul, Int.neg_mul, h.2]⟩
theorem Rat.low (h : Rat v u t V) (c : Bool) : (if c = true then -(-v / u) else v / u + 1) = lowH c V (wt t) := by
  unfold lowH
  rw [h.div, h.neg.div]
theorem rn_ratio {u' v' : Int} (hu : 0 < u) (hu' : 0 < u') (h : v * u' = v' * u) : rn v u = rn v' u' := by
  obtain ⟨d1, d2⟩ := div_ratio hu hu' h
  have r0 := Int.emod_nonneg v (Int.ne_of_gt hu)
  have r0' := Int.emod_nonneg v' (Int.ne_of_gt hu')
  have k := ratio (A := 2 * (v % u)) (B := u) (S := 2 * (v' % u')) (W := u') (k := 1) hu hu' (by rw [Int.mul_assoc, d2, Int.mul_assoc])
  unfold rn
  rw [d1]
  simp only [Int.one_mul] at k
  by_cases c1 : 2 * (v % u) < u
  · rw [if_pos c1, if_pos (k.1.mp c1)]
  · rw [if_neg c1, if_neg (fun z => c1 (k.1.mpr z))]
    by_cases c2 : u < 2 * (v % u)
    · rw [if_pos c2, if_pos (k.2.2.mp c2)]
    · rw [if_neg c2, if_neg (fun z => c2 (k.2.2.mpr z))]
theorem wn_rn (hu : 0 < u) : wholeOf v u "nearest" = rn v u := by
  have r0 := Int.emod_nonneg v (Int.ne_of_gt hu)
  unfold wholeOf rn
  simp only [show ("nearest" : Str) = "down" ↔ False by decide, show ("nearest" : Str) = "up" ↔ False by decide, show ("nearest" : Str) = "zero" ↔ False by decide, or_false, if_false, if_true]
  by_cases c0 : v % u = 0
  · rw [if_pos c0, if_pos (by omega)]
  · rw [if_neg c0]
    by_cases c1 : 2 * (v % u) = u
    · rw [if_pos c1, if_neg (by omega), if_neg (by omega)]
      split <;> omega
    · rw [if_neg c1]
      by_cases c2 : 2 * (v % u) < u
      · rw [if_pos c2, if_neg (by omega)]
        omega
      · rw [if_neg c2, if_pos (by omega), if_pos (by omega)]
theorem Rat.near (h : Rat v u t V) : wholeOf v u "nearest" = rn V (wt t) := by
  rw [wn_rn h.1]
  exact rn_ratio h.1 (wt_pos t) h.2
end
section
variable {x : Nm} {t : Int}
end
structure FarD (V d t : Int) (z : D) : Prop where
  ex : ∃ a b : Int, z = .tup [.tup [.int a, .int b], .int (d % 2), .int d, .int t] ∧ 0 < b ∧ a * (10 ^ 5000 * 2 ^ 1102) = ab (d * wt t - V) * b ∧ Sz a 60000 ∧ Sz b 60000
end DW
namespace DW
open PySem PySem.Spec PySem.Calls PySem.NumText PyProof.Rows L2
/-! ### int of texts of up to 4300 signs -/
structure Hide (p : Prop) : Prop where
  out : p
section
variable {c : Cc} {X : Cx}
noncomputable def intW : List D → Sto → R D
  | [.int i], S => .ok (.int i) S
  | [.bl b], S => .ok (.int (if b then 1 else 0)) S
  | [.str z], S => match PySem.intText? z with
    | some n => .chk (z.length ≤ sizeLine) (.ok (.int n) S)
    | none => .bad
  | _, _ => .bad
end
/-! ### methods of texts -/
def eSM (g : Str → List D → Sto → R D) (fo : FE) (fr : FA) : FE := fun δ S => (fo δ S).bind fun x S => match x with
  | .str a => (fr δ S).bind fun ys S => g a ys S
  | _ => .bad
section
variable {c : Cc} {X : Cx} {W : WX} {o e : Expr} {es : List Expr} {name : Str} {id : String} {apos cpos : Pos} {fo : FE} {fr : FA} {r : V → List V → Hp → VK → Prop} {g : Str → List D → Sto → R D}
end
noncomputable def zfillD (a : Str) (l : List D) (S : Sto) : R D := match l with
  | [.int i] => .chk (PadOk i = true) (.ok (.str (Txt.zfill a i)) S)
  | _ => .bad
noncomputable def ljustD (a : Str) (l : List D) (S : Sto) : R D := match l with
  | [.int i, .str f] => .chk (PadOk i = true ∧ f.length = 1) (.ok (.str (Txt.ljustF a i (f.cps.getD 0 0))) S)
  | _ => .bad
noncomputable def rstripD (a : Str) (l : List D) (S : Sto) : R D := match l with
  | [.str b] => .chk (a.length ≤ sizeLine) (.ok (.str (Txt.rstripChars a b)) S)
  | _ => .bad
section
variable {c : Cc} {X : Cx} {W : WX} {o e e2 : Expr} {apos cpos : Pos} {fo : FE} {fr : FA}
end
/-! ### the walk -/
theorem o_intWi {i : Int} {S : Sto} : intW [.int i] S = .ok (.int i) S := rfl
theorem o_intWb {b : Bool} {S : Sto} : intW [.bl b] S = .ok (.int (if b then 1 else 0)) S := rfl
def smA (g : Str → List D → Sto → R D) (r : Sto → R (List D)) : D → Sto → R D := fun x S => match x with
  | .str a => (r S).bind fun ys S => g a ys S
  | _ => .bad
theorem c_SM {fo : FE} {fr : FA} {δ : Dl} {S : Sto} {g : Str → List D → Sto → R D} {Q : D → Sto → Prop} {E : Xc → Sto → Prop} : wq (eSM g fo fr δ S) Q E .a = wq (fo δ S) (fun a s => wq (smA g (fun S => fr δ S) a s) Q E .a) E .a := by
  have e : eSM g fo fr δ S = (fo δ S).bind (smA g fun S => fr δ S) := by
    unfold eSM smA
    congr 1
  rw [e]
  exact q_bind
theorem o_smA {g : Str → List D → Sto → R D} {r : Sto → R (List D)} {a : Str} {S : Sto} : smA g r (.str a) S = (r S).bind fun y S => g a y S := rfl
theorem o_zfill {a : Str} {i : Int} {S : Sto} : zfillD a [.int i] S = .chk (PadOk i = true) (.ok (.str (Txt.zfill a i)) S) := rfl
theorem o_ljust {a f : Str} {i : Int} {S : Sto} : ljustD a [.int i, .str f] S = .chk (PadOk i = true ∧ f.length = 1) (.ok (.str (Txt.ljustF a i (f.cps.getD 0 0))) S) := rfl
theorem o_rstrip {a f : Str} {S : Sto} : rstripD a [.str f] S = .chk (a.length ≤ sizeLine) (.ok (.str (Txt.rstripChars a f)) S) := rfl
end DW
namespace DW
open PySem PySem.Spec PySem.NumText PyProof.Rows L2
/-! ### texts by their signs -/
def tx (l : List Nat) : Str := ⟨l.toArray⟩
theorem tx_l (l : List Nat) : (tx l).cps.toList = l := by simp [tx]
theorem tx_of (u : Str) : tx u.cps.toList = u := str_ext (tx_l _)
theorem tx_len (l : List Nat) : (tx l).length = l.length := by
  show (l.toArray).size = l.length
  simp
theorem tx_inj {a b : List Nat} : tx a = tx b ↔ a = b := ⟨fun h => by rw [← tx_l a, h, tx_l], fun h => by rw [h]⟩
theorem tx_app (a b : List Nat) : tx a ++ tx b = tx (a ++ b) := str_ext (by rw [app_l, tx_l, tx_l, tx_l])
theorem tx_nil : (Str.ofString "") = tx [] := str_ext (by rw [tx_l]; decide +kernel)
theorem tx_cut0 (l : List Nat) (j : Nat) : cutS (tx l) none (some (j : Int)) = tx (l.take j) := by
  unfold cutS
  rw [tx_l, tx_len, HT.sIx_nat]
  show tx ((l.drop 0).take (min j l.length - 0)) = _
  rw [List.drop_zero, Nat.sub_zero]
  refine tx_inj.mpr ?_
  by_cases h2 : j ≤ l.length
  · rw [Nat.min_eq_left h2]
  · rw [Nat.min_eq_right (by omega), List.take_of_length_le (Nat.le_refl _), List.take_of_length_le (by omega)]
theorem tx_cutN (l : List Nat) (i : Nat) : cutS (tx l) (some (i : Int)) none = tx (l.drop i) := by
  unfold cutS
  rw [tx_l, tx_len, HT.sIx_nat]
  show tx ((l.drop (min i l.length)).take (l.length - min i l.length)) = _
  refine tx_inj.mpr ?_
  by_cases h : i ≤ l.length
  · rw [Nat.min_eq_left h, List.take_of_length_le (by rw [List.length_drop]; omega)]
  · rw [Nat.min_eq_right (by omega), List.drop_of_length_le (Nat.le_refl _), List.drop_of_length_le (by omega)]
    simp
/-! ### figures -/
inductive ScR where
  | dec (sd : Int) (a : Nat) (t : Int) | wd (w : Str) | bad (i : Nat)
def scKs : List Str := ["text", "at"]
def scO (l : List Nat) (i : Int) : Ob := .ins "Scan" scKs [.str (tx l), .int i]
section
variable {S : Sto} {l : List Nat} {i : Int} {m : FM} {n k : Nat} {src : List SrcD} {r z : Sto → R (List D)} {Q : D → Sto → Prop} {E : Xc → Sto → Prop}
theorem sc_flds : (D.ref S.length).fields (S ++ [scO l i]) "Scan" = some (scKs, [.str (tx l), .int i]) := by
  unfold D.fields
  dsimp only
  rw [top_get]
  rfl
theorem sc_text : fldD "Scan" "text" (.ref S.length) (S ++ [scO l i]) = .ok (.str (tx l)) (S ++ [scO l i]) := by
  unfold fldD
  rw [sc_flds]
  rfl
theorem sc_at : fldD "Scan" "at" (.ref S.length) (S ++ [scO l i]) = .ok (.int i) (S ++ [scO l i]) := by
  unfold fldD
  rw [sc_flds]
  rfl
theorem sc_put {v : Int} : fputD "Scan" "at" (.ref S.length) (.int v) (S ++ [scO l i]) = .ok () (S ++ [scO l v]) := by
  unfold scO
  rw [top_fput, chk_pos (by decide)]
  rfl
theorem scM_ahead : wq (meR "Scan" "ahead" m n src r (.ref S.length) (S ++ [scO l i])) Q E .a = wq (r (S ++ [scO l i])) (fun vs S' => wq (R.chk (vs.length = n) (m (srcD (.ref S.length :: vs) [] src) S')) Q E .a) E .a := me_any sc_flds (by decide)
theorem scM_took : wq (meR "Scan" "took" m n src r (.ref S.length) (S ++ [scO l i])) Q E .a = wq (r (S ++ [scO l i])) (fun vs S' => wq (R.chk (vs.length = n) (m (srcD (.ref S.length :: vs) [] src) S')) Q E .a) E .a := me_any sc_flds (by decide)
theorem scM_word : wq (meR "Scan" "take_word" m n src r (.ref S.length) (S ++ [scO l i])) Q E .a = wq (r (S ++ [scO l i])) (fun vs S' => wq (R.chk (vs.length = n) (m (srcD (.ref S.length :: vs) [] src) S')) Q E .a) E .a := me_any sc_flds (by decide)
theorem scM_over : wq (meR "Scan" "over" m n src r (.ref S.length) (S ++ [scO l i])) Q E .a = wq (r (S ++ [scO l i])) (fun vs S' => wq (R.chk (vs.length = n) (m (srcD (.ref S.length :: vs) [] src) S')) Q E .a) E .a := me_any sc_flds (by decide)
theorem scM_figs : wq (meR "Scan" "take_figures" m n src r (.ref S.length) (S ++ [scO l i])) Q E .a = wq (r (S ++ [scO l i])) (fun vs S' => wq (R.chk (vs.length = n) (m (srcD (.ref S.length :: vs) [] src) S')) Q E .a) E .a := me_any sc_flds (by decide)
theorem scK_figs : wq (meKR "Scan" "take_figures" m n k src r z (.ref S.length) (S ++ [scO l i])) Q E .a = wq (r (S ++ [scO l i])) (fun vs S' => wq ((z S').bind fun zs S'' => .chk (vs.length = n ∧ zs.length = k) (m (srcD (.ref S.length :: vs) zs src) S'')) Q E .a) E .a := meK_any sc_flds (by decide)
end
theorem o_slS {z : Str} {a b : Option Int} {S : Sto} : sliceD (.str z) a b S = .chk (z.length ≤ sizeLine) (.ok (.str (cutS z a b)) S) := rfl
theorem o_in1S {c : Nat} {y : Str} {S : Sto} : in1D (.str (tx [c])) (.str y) S = .ok (.bl (decide (c ∈ y.cps.toList))) S := rfl
end DW
namespace DW
open PySem PySem.Spec PySem.NumText PyProof.Rows L2
/-! ### texts that are laid in some way -/
def nmT (n : Nat) : List Nat := (Nat.toDigits 10 n).map Char.toNat
theorem rep_tx (c : Nat) (n : Int) : repStr (tx [c]) n = tx (List.replicate n.toNat c) := by
  unfold repStr
  rw [tx_l]
  refine tx_inj.mpr ?_
  induction n.toNat with
  | zero => rfl
  | succ k ih => rw [List.replicate_succ, List.flatten_cons, ih, List.replicate_succ]; rfl
end DW
namespace DW
open PySem PySem.Spec PySem.NumText PyProof.Rows L2
/-! ### signs of a text -/
theorem tx_lit {s : String} {l : List Nat} (h : (Str.ofString s).cps.toList = l) : Str.ofString s = tx l := str_ext (by rw [tx_l]; exact h)
theorem tx_emp {r : List Nat} : tx r = Str.ofString "" ↔ r = [] := by rw [tx_nil, tx_inj]
theorem seqI_tx {w : List Nat} {S : Sto} : seqI (.str (tx w)) S = .ok ⟨fun _ => True, w.map fun k => D.str (tx [k])⟩ S := by
  show R.ok (⟨fun _ => True, (tx w).cps.toList.map fun k => .str ⟨#[k]⟩⟩ : Itm) S = _
  rw [tx_l]
  rfl
end DW
namespace DW
open PySem PySem.Spec PySem.NumText PyProof.Rows L2
/-! ### a text turned about: z[::-1] -/
def revS (z : Str) : Str := ⟨((Builtin.Str.strSliceIndices none none (-1) z.length).filterMap (z.cps[·]?)).toArray⟩
noncomputable def revD : D → Sto → R D
  | .str z, S => .chk ((revS z).length ≤ sizeLine) (.ok (.str (revS z)) S)
  | _, _ => .bad
theorem o_rev {z : Str} {S : Sto} : revD (.str z) S = .chk ((revS z).length ≤ sizeLine) (.ok (.str (revS z)) S) := rfl
theorem isi_lT {l : List D} {S : Sto} : isiD [.lst l, .ty "tuple"] S = .ok (.bl false) S := rfl
theorem isi_tL {l : List D} {S : Sto} : isiD [.tup l, .ty "list"] S = .ok (.bl false) S := rfl
theorem isi_tS {l : List D} {S : Sto} : isiD [.tup l, .ty "str"] S = .ok (.bl false) S := rfl
theorem isi_sD {u : Str} {S : Sto} : isiD [.str u, .cls "Decimal"] S = .ok (.bl false) S := rfl
theorem o_ixTx {l : List Nat} {i c : Nat} {S : Sto} (h : l[i]? = some c) (hl : l.length ≤ 100000) : ixD (D.str (tx l)) (D.int i) S = .ok (.str (tx [c])) S := by
  have hi := (List.getElem?_eq_some_iff.mp h).1
  have e : atI (tx l).cps.toList (i : Int) = some c := by
    rw [tx_l]
    unfold atI
    rw [ixN_int (by omega) (by omega)]
    exact h
  show (match atI (tx l).cps.toList (i : Int) with
    | some k => R.chk ((tx l).length ≤ sizeLine) (R.ok (D.str ⟨#[k]⟩) S)
    | none => R.bad) = _
  rw [e, tx_len]
  exact chk_pos (by unfold sizeLine; omega)
theorem o_inDg {c : Nat} {y : Str} {S : Sto} : inD (.str (tx [c])) (.str y) S = .ok (.bl (decide (c ∈ y.cps.toList))) S := rfl
theorem get_lt {l : List Nat} {i : Nat} (h : i < l.length) : ∃ c, l[i]? = some c := ⟨_, List.getElem?_eq_getElem h⟩
theorem lit_e : Str.ofString "e" = tx [101] := tx_lit (by decide +kernel)
theorem lit_m : Str.ofString "-" = tx [45] := tx_lit (by decide +kernel)
theorem lit_p : Str.ofString "+" = tx [43] := tx_lit (by decide +kernel)
end DW
namespace DW
open PySem PySem.Spec PyProof.Rows L2
/-! ### a dict display that nothing changes -/
noncomputable def eDictF (fr : FP) : FE := fun δ S => (fr δ S).bind fun l S => .chk ((l.map (·.1)).Nodup ∧ l.length ≤ 15) (.ok (.dct (l.map (·.1)) (l.map (·.2))) S)
theorem c_dictF {fp : FP} {δ : Dl} {S : Sto} {Q : D → Sto → Prop} {E : Xc → Sto → Prop} : wq (eDictF fp δ S) Q E .a = wq ((fp δ S).bind fun l S => .chk ((l.map (·.1)).Nodup ∧ l.length ≤ 15) (.ok (.dct (l.map (·.1)) (l.map (·.2))) S)) Q E .a := rfl
end DW
namespace DW
open PySem PySem.Spec PySem.NumText PyProof.Rows L2
/-! ### shown texts -/
def inL (i : Int) : List Nat := if i < 0 then 45 :: nmT (-i).toNat else nmT i.toNat
def laidL (F : List Nat) (p : Int) : List Nat :=
  if 1 ≤ p ∧ p ≤ 16 then
    if (F.length : Int) ≤ p then F ++ List.replicate (p.toNat - F.length) 48 else F.take p.toNat ++ 46 :: F.drop p.toNat
  else if -4 ≤ p ∧ p ≤ 0 then 48 :: 46 :: (List.replicate (-p).toNat 48 ++ F)
  else F.take 1 ++ ((if F.drop 1 ≠ [] then 46 :: F.drop 1 else []) ++ 101 :: inL (p - 1))
theorem Rat.le {v u t V a : Int} (h : Rat v u t V) : (V ≤ a * wt t ↔ v ≤ a * u) ∧ (a * wt t ≤ V ↔ a * u ≤ v) := by
  have p := wt_pos t
  have e : a * wt t * u = a * u * wt t := Int.mul_right_comm ..
  refine ⟨⟨fun z => ?_, fun z => ?_⟩, ⟨fun z => ?_, fun z => ?_⟩⟩
  · refine Int.le_of_mul_le_mul_right ?_ p
    rw [h.2, ← e]
    exact Int.mul_le_mul_of_nonneg_right z (Int.le_of_lt h.1)
  · refine Int.le_of_mul_le_mul_right ?_ h.1
    rw [← h.2, e]
    exact Int.mul_le_mul_of_nonneg_right z (Int.le_of_lt p)
  · refine Int.le_of_mul_le_mul_right ?_ p
    rw [h.2, ← e]
    exact Int.mul_le_mul_of_nonneg_right z (Int.le_of_lt h.1)
  · refine Int.le_of_mul_le_mul_right ?_ h.1
    rw [← h.2, e]
    exact Int.mul_le_mul_of_nonneg_right z (Int.le_of_lt p)
end DW
namespace DW
open PySem PySem.Spec PySem.NumText PyProof.Rows L2
/-! ### decimals of few figures come back -/
structure ShOk (x : Nm) (d s : Int) : Prop where
  d0 : 0 ≤ d
  d1 : d < 10 ^ 800
  s0 : -401 ≤ s
  s1 : s ≤ 700
  zero : x.bits = 0 → d = 0 ∧ s = 0
  best : x.bits ≠ 0 → BestH (cQ x) (lQ x) (mQ x) (vQ x) d s
end DW
namespace DW
open PySem PySem.Spec PySem.NumText PyProof.Rows L2
/-! ### so many figures of a number that few figures name -/
end DW
namespace DW
open PySem PySem.Spec PySem.NumText PyProof.Rows L2
/-! ### there is a rounded one -/
end DW
namespace DW
open PySem PySem.Spec PySem.NumText PyProof.Rows L2
/-! ### a dict of texts, each of which is there or not -/
end DW
namespace DWN
open PySem PySem.SeqAt AutoSeq1 MeetsSeq MeetsSeq2 MeetsSeq3 SeqRoads2 GQ
section
variable {prog : Program} {w : World} {A : Around} {R : Result → Shared → Prop}
end
end DWN
namespace DW
open PySem PySem.Spec PySem.NumText PyProof.Rows L2
section
variable {X : Cx} {c : Cc} {n : Nat} {P : D → D → Prop}
end
end DW
namespace DW
open PySem PySem.Spec PyProof.Rows L2 LamX
/-! ### told, the other form: found = [], try: found.append(deed()), except T as e: error = e -/
section
variable {X : Cx} {x q cn : Str} {sg : Scope} {g gC : Addr} {cdg : Value} {fdC : FuncData} {k : Nat} {spC : Sp} {te : Expr} {ex : Value → Prop} {j1 j2 k1 k2 : Nat} {a1 a2 a3 a4 a5 a6 a7 a8 b0 b1 b2 b3 b4 b5 b6 b7 b8 b9 d1 d2 d3 d4 d5 d6 d7 d8 d9 : Pos}
end
end DW
namespace DW
open PySem PySem.Spec PyProof.Rows L2 LamX
end DW
namespace DW
open PySem PySem.Spec PyProof.Rows L2
/-! ### the entry of a power of ten: so many first bits, and their power of two -/
def exX (p : Int) : Int := 10 ^ p.toNat
def exY (p : Int) : Int := 10 ^ (-p).toNat
def eP (p s : Int) : Int := exY p * 2 ^ (s + 6000).toNat
def eK (p : Int) : Int := exX p * 2 ^ 6000
structure EntIs (p b w s : Int) : Prop where
  b0 : 2 ^ (b - 1).toNat ≤ w
  b1 : w < 2 ^ b.toNat
  s0 : -6000 < s
  s1 : s < 6000
  lo : w * eP p s ≤ eK p
  hi : eK p < (w + 1) * eP p s
section
variable {p b w s w' s' : Int}
open Classical in
def fl (p s : Int) : Int := (exX p * 2 ^ (-s).toNat) / (exY p * 2 ^ s.toNat)
end
end DW
namespace DW
open PySem PySem.Spec PyProof.Rows L2
/-! ### a comprehension that lets nothing by -/
end DW
namespace DW
open PySem PySem.Spec PyProof.Rows L2
/-! ### what is open: digits by an entry, and as much more as a width tells -/
section
variable {p b w s t : Int}
end
section
variable {a t b wd : Int}
end
end DW
namespace DW
open PySem PySem.Spec PyProof.Rows L2
/-! ### what is never reached -/
end DW
namespace DW
open PySem PySem.Spec PyProof.Rows L2
/-! ### steps, order and gaps -/
section
variable {s : Sh} {x y : Nm} {st : Int}
end
end DW
namespace DW
open PySem PySem.Spec PyProof.Rows L2
/-! ### what nearest reads, in order -/
theorem o_notNT {l : List D} {S : Sto} : notNV (.tup l) .non S = .ok (.bl true) S := rfl
end DW
namespace DW
open PySem PySem.Spec PyProof.Rows L2
/-! ### numbers by hand: how they are shown -/
structure R40 where
  (p lo hi b e : Int) (l : List Nat) (d t T : Int)
def R40.s (r : R40) : Sh := ⟨r.p, r.lo, r.hi⟩
def R40.x (r : R40) : Nm := finN r.s 0 r.b r.e
def R40.ok (r : R40) : Bool := decide ((2 ≤ r.p ∧ r.p ≤ 64 ∧ -1100 ≤ r.lo ∧ r.lo ≤ 0 ∧ r.lo ≤ r.hi ∧ r.hi ≤ 1000) ∧ (0 < r.b ∧ r.b < 2 ^ r.p.toNat ∧ r.lo ≤ r.e ∧ r.e ≤ r.hi ∧ (r.lo < r.e → 2 ^ (r.p - 1).toNat ≤ r.b)) ∧ (-401 ≤ r.t ∧ -400 ≤ r.T ∧ r.d ≠ 0))
  && (decide (lowH (cQ r.x) (lQ r.x) (wt r.T) ≤ highH (cQ r.x) (mQ r.x) (wt r.T)) && (decide (¬ lowH (cQ r.x) (lQ r.x) (wt (r.T + 1)) ≤ highH (cQ r.x) (mQ r.x) (wt (r.T + 1))) && (decide (resH (cQ r.x) (lQ r.x) (mQ r.x) (vQ r.x) r.T = (r.d, r.t)) && decide (laidL (nmT r.d.toNat) (((nmT r.d.toNat).length : Int) + r.t) = r.l))))
theorem catL_top {S : Sto} {l m : List D} : catL (.ref S.length) (.lst m) (S ++ [.lst l]) = .chk (l.length + m.length ≤ sizeLine) (.ok (l ++ m) (S ++ [.lst l])) := by
  unfold catL
  rw [show (D.ref S.length).lseq (S ++ [Ob.lst l]) = some l by unfold D.lseq; dsimp only; rw [top_get]]
  rfl
noncomputable def gTupB (n : Nat) (gs : FGs) : FG := fun d δ S => match d with
  | .tup l => gTupD n gs (.tup l) δ S
  | d => gTupL n gs d δ S
theorem gB_tup {n : Nat} {gs : FGs} {l : List D} {δ : Dl} {S : Sto} : gTupB n gs (.tup l) δ S = gTupD n gs (.tup l) δ S := rfl
theorem gB_lst {n : Nat} {gs : FGs} {l : List D} {δ : Dl} {S : Sto} : gTupB n gs (.lst l) δ S = if l.length = n then gs l δ S else .bad := rfl
/-! all figures of a value -/
def exW (x : Nm) : Int := x.bits * 2 ^ x.scale.toNat * 5 ^ (-x.scale).toNat
def exS (x : Nm) : Str := if x.bits = 0 then "" else Txt.rstripChars (Str.ofString (toString (exW x))) "0"
def exT (x : Nm) : Int := if x.bits = 0 then 0 else (figN (exW x) : Int) - 1 + (if x.scale < 0 then x.scale else 0)
end DW
namespace DW
open PySem PySem.Spec PySem.NumText PyProof.Rows L2
/-! ### figures without the noughts behind -/
def rsL (l : List Nat) : List Nat := (l.reverse.dropWhile (· == 48)).reverse
def exF (x : Nm) : List Nat := if x.bits = 0 then [] else rsL (nmT (exW x).toNat)
def nxL (x : Nm) (g m : Nat) : List Nat := ((exF x).drop g).take m ++ List.replicate (m - (((exF x).drop g).take m).length) 48
def exL (x : Nm) (g : Int) : List D := [numD x, .int g, .str (exS x), .int (exT x)]
def exO (x : Nm) (g : Int) : Ob := .ins "Expansion" expKs (exL x g)
def ExAt (S : Sto) (d : D) (x : Nm) (g : Int) : Prop := d.fields S "Expansion" = some (expKs, exL x g)
theorem ExAt.ref {S : Sto} {k : Nat} {x : Nm} {g : Int} (h : S[k]? = some (exO x g)) : ExAt S (.ref k) x g := by
  unfold ExAt D.fields
  dsimp only
  rw [h]
  rfl
theorem ExAt.dat {S : Sto} {x : Nm} {g : Int} : ExAt S (.ins "Expansion" expKs (exL x g)) x g := rfl
section
variable {S : Sto} {d : D} {x : Nm} {g : Int} {m : FM} {n k : Nat} {src : List SrcD} {r z : Sto → R (List D)} {Q : D → Sto → Prop} {E : Xc → Sto → Prop}
end
end DW
namespace DW
open PySem PySem.Spec PySem.NumText PyProof.Rows L2
section
variable {S : Sto} {n : Nat} {l m : List D} {i : Int} {x y : D} {g : D → List D → Sto → R D} {r : Sto → R (List D)}
theorem at_seq (h : S[n]? = some (.lst l)) : (D.ref n).seq S = some l := by
  unfold D.seq
  dsimp only
  rw [h]
theorem at_rseq (h : S[n]? = some (.lst l)) : (D.ref n).rseq S = some l := by
  unfold D.rseq
  dsimp only
  rw [h]
theorem at_app (h : S[n]? = some (.lst l)) : appD (.ref n) [y] S = .chk (l.length < sizeLine) (.ok .non (S.set n (.lst (l ++ [y])))) := by
  unfold appD
  simp only [h]
theorem at_lm (h : S[n]? = some (.lst l)) : lmR g r (.ref n) S = (r S).bind fun vs S => g (.ref n) vs S := by
  unfold lmR
  rw [at_rseq h]
end
section
variable {d : Dw} {Z Y : Sto} {k : Nat} {o : Ob}
end
end DW
namespace DW
open PySem PySem.Spec PyProof.Rows L2
/-! ### a < b < c < d -/
section
variable {X : Cx} {a b c d : Expr} {ta tb tc td : TE} {pos : Pos}
end
section
variable {c : Cc} {X : Cx} {W : WX} {a b e e3 : Expr} {pos : Pos} {fa fb fe fd : FE} {op op' op2 : CmpOp} {g g' g2 : D → D → Sto → R D} {δ : Dl} {S : Sto}
def eChain3 (g g' g2 : D → D → Sto → R D) (fa fb fe fd : FE) : FE := fun δ S => (fa δ S).bind fun x S => (fb δ S).bind fun y S => (g x y S).bind (andR fun S => (fe δ S).bind fun w S => (g' y w S).bind (andR fun S => (fd δ S).bind fun v S => g2 w v S))
theorem c_chain3 {Q : D → Sto → Prop} {E : Xc → Sto → Prop} : wq (eChain3 g g' g2 fa fb fe fd δ S) Q E .a = wq (fa δ S) (fun x s => wq ((fb δ s).bind fun y S => (g x y S).bind (andR fun S => (fe δ S).bind fun w S => (g' y w S).bind (andR fun S => (fd δ S).bind fun v S => g2 w v S))) Q E .a) E .a := by
  unfold eChain3
  exact q_bind
end
end DW
namespace DW
open PySem PySem.Spec PySem.NumText PyProof.Rows L2
/-! ### what is written with figures, as so many of a power of ten -/
def amtW (x : Nm) (n : Nat) (T : Int) (w : Str) : Int := wfA x n w * 10 ^ (wfP x n w - T).toNat
structure WaysOk (x : Nm) (n : Nat) (low st T : Int) : Prop where
  zA : wfA x n "zero" = low
  zP : wfP x n "zero" = T
  l0 : 0 ≤ low
  s01 : st = 0 ∨ st = 1
  dn : amtW x n T "down" = low + st * (if x.side = 1 then 1 else 0)
  up : amtW x n T "up" = low + st * (if x.side = 0 then 1 else 0)
  nr : low ≤ amtW x n T "nearest" ∧ amtW x n T "nearest" ≤ amtW x n T "away" ∧ amtW x n T "away" ≤ low + st
  P : ∀ w : Str, T ≤ wfP x n w ∧ wfP x n w ≤ T + 1 ∧ 0 ≤ wfA x n w ∧ wfA x n w < 10 ^ n ∧ -5000 ≤ wfP x n w ∧ wfP x n w ≤ 5000
  fl : (wfF x n = .tup [] ∧ st = 0) ∨ (wfF x n = .tup [.str "inexact"] ∧ st = 1)
  dig : (digitsVal (nxL x 0 n) : Int) = low
  over : (exF x).length ≤ n ↔ st = 0
theorem allS_tx {l : List Nat} : allS (l.map fun (c : Nat) => D.str (tx [c])) = some (l.map fun c => tx [c]) := by
  induction l with
  | nil => rfl
  | cons c l ih =>
    simp only [List.map_cons, allS, ih]
    try rfl
theorem glue_l (g : Str) (hg : g.cps.toList = []) : ∀ (ps : List Str) (acc : Array Nat), (ps.foldl (fun acc p => acc ++ g.cps ++ p.cps) acc).toList = acc.toList ++ (ps.map fun p => p.cps.toList).flatten
  | [], acc => by simp
  | p :: ps, acc => by
    rw [List.foldl_cons, glue_l g hg ps]
    simp [hg]
theorem join_l (ps : List Str) : (Txt.join (Str.ofString "") ps).cps.toList = (ps.map fun p => p.cps.toList).flatten := by
  have hg : (Str.ofString "").cps.toList = [] := by decide +kernel
  unfold Txt.join Builtin.Str.glued
  cases ps with
  | nil => rfl
  | cons p ps =>
    show (ps.foldl _ p.cps).toList = _
    rw [glue_l _ hg]
    simp
theorem join_tx {l : List Nat} : Txt.join (Str.ofString "") (l.map fun c => tx [c]) = tx l := by
  refine str_ext ?_
  rw [tx_l, join_l, List.map_map]
  induction l with
  | nil => rfl
  | cons c l ih =>
    rw [List.map_cons, List.flatten_cons, ih]
    show (tx [c]).cps.toList ++ l = _
    rw [tx_l]
    rfl
theorem o_joinC {l : List Nat} {S : Sto} : joinD (Str.ofString "") (.lst (l.map fun (c : Nat) => D.str (tx [c]))) S = .chk (l.length ≤ 16777216) (.ok (.str (tx l)) S) := by
  unfold joinD
  rw [show (D.lst (l.map fun (c : Nat) => D.str (tx [c]))).seq S = some (l.map fun (c : Nat) => D.str (tx [c])) from rfl]
  dsimp only
  rw [allS_tx]
  dsimp only
  rw [join_tx]
  have e : (((l.map fun c => tx [c]).map (·.length)).sum + (l.map fun c => tx [c]).length * (Str.ofString "").length) = l.length := by
    rw [show (Str.ofString "").length = 0 by decide +kernel, Nat.mul_zero, Nat.add_zero, List.map_map]
    induction l with
    | nil => rfl
    | cons c l ih =>
      rw [List.map_cons, List.sum_cons, ih]
      show (tx [c]).length + _ = _
      rw [tx_len]
      simp
      omega
  rw [e]
end DW
namespace DW
open PySem PySem.Spec PyProof.Rows L2
/-! ### dicts whose keys are tuples of texts and whole numbers, some of each -/
def keysL : List D → Option (List Key)
  | [] => some []
  | .int i :: l => (keysL l).map (.inl i :: ·)
  | .str x :: l => (keysL l).map (.inr x :: ·)
  | _ :: _ => none
section
variable {c : Cc} {X : Cx} {W : WX} {ρ : List Addr} {S : Sto} {G H : Hp}
variable {a b e : Expr} {fa fb fe : FE} {pos : Pos}
end
/-! walks -/
section
variable {S : Sto} {n : Nat} {ks : List (List Key)} {l : List D} {k d v : D} {t : List Key}
end
/-! a dict of keys that are there or not -/
section
variable {κ : Type} [DecidableEq κ]
end
section
variable {S : Sto} {n : Nat} {K : List (List Key)} {k : D} {t : List Key}
end
end DW
namespace DW
open PySem PySem.Spec PyProof.Rows L2
/-! ### l.count(x), of a list of texts -/
section
variable {X : Cx}
end
section
variable {c : Cc} {X : Cx} {W : WX} {o e : Expr} {es : List Expr} {fo : FE} {fr : FA} {apos cpos pos : Pos}
noncomputable def sliceTA (d : D) (lo hi : Option Int) (S : Sto) : R D := match d with
  | .tup l => .ok (.tup (cutL l lo hi)) S
  | _ => .bad
noncomputable def eSliceA (fa : FE) (fl fh : FO) : FE := fun δ S => (fa δ S).bind fun x S => (fl δ S).bind fun lo S => (fh δ S).bind fun hi S => sliceTA x lo hi S
variable {a : Expr} {lo hi : Option Expr} {fa : FE} {fl fh : FO} {p2 : Pos}
end
/-! walks -/
section
variable {fa : FE} {fl fh : FO} {δ : Dl} {S : Sto} {l : List D} {lo hi : Option Int}
theorem c_sliceA {Q : D → Sto → Prop} {E : Xc → Sto → Prop} : wq (eSliceA fa fl fh δ S) Q E .a = wq (fa δ S) (fun a s => wq ((fun d S => (fl δ S).bind fun lo S => (fh δ S).bind fun hi S => sliceTA d lo hi S) a s) Q E .a) E .a := q_bind
theorem o_sliceTA : sliceTA (.tup l) lo hi S = .ok (.tup (cutL l lo hi)) S := rfl
end
end DW
namespace DW
open PySem PySem.Spec PyProof.Rows L2
/-! ### len(set(l)), of a list of whole numbers -/
section
variable {X : Cx}
end
section
variable {X : Cx}
end
section
variable {S : Sto} {n : Nat}
end
section
variable {c : Cc} {X : Cx} {W : WX} {a : Expr} {fr : FA} {p p2 q pos : Pos}
end
end DW
namespace DW
open PySem PySem.Spec PyProof.Rows L2
/-! ### a dict display with one tuple as its key: a dict of which no more is known -/
noncomputable def eOdd (fa fb : FE) : FE := fun δ S => (fa δ S).bind fun k S => (fb δ S).bind fun _ S => match k with
  | .tup l => .chk ((keysL l).isSome = true) (.ok (.ref S.length) (S ++ [.odd]))
  | _ => .bad
section
variable {c : Cc} {X : Cx} {W : WX} {a b : Expr} {fa fb : FE} {pos : Pos}
theorem c_odd {δ : Dl} {S : Sto} {Q : D → Sto → Prop} {E : Xc → Sto → Prop} : wq (eOdd fa fb δ S) Q E .a = wq (fa δ S) (fun k S1 => wq (fb δ S1) (fun _ S2 => wq (match k with
  | .tup l => R.chk ((keysL l).isSome = true) (.ok (.ref S2.length) (S2 ++ [.odd]))
  | _ => .bad) Q E .a) E .a) E .a := by
  show wp (eOdd fa fb δ S) Q E = _
  unfold eOdd
  rw [wp_bind]
  congr 1
  funext k S1
  exact wp_bind
end
/-! ### str of a tuple -/
end DW
namespace DW
open PySem PySem.Spec PyProof.Rows L2
/-! ### walks round a circle: a, a + s, a + 2 * s, .. modulo m; how far below t -/
def dst (a s m t n : Int) : Int := (t - (a + n * s)) % m
structure Bas (s m p u q v : Int) : Prop where
  m0 : 0 < m
  p1 : 1 ≤ p
  q1 : 1 ≤ q
  u0 : 0 ≤ u
  v1 : 1 ≤ v
  det : p * v + q * u = m
  up : ∃ l, u = p * s - m * l
  dn : ∃ i, v = -(q * s) + m * i
section
variable {a s m t p u q v k r w n y : Int} {st : Option Int}
theorem Bas.lat (B : Bas s m p u q v) (h : ∃ j, y = n * s + m * j) : ∃ c d, n = c * p + d * q ∧ y = c * u - d * v := by
  obtain ⟨l, hl⟩ := B.up
  obtain ⟨i, hi⟩ := B.dn
  obtain ⟨j, hj⟩ := h
  have dt := B.det
  have m0 := B.m0
  have key : i * p - l * q = 1 := by
    have e : m * (i * p - l * q) = m * 1 := by
      rw [hl, hi] at dt
      grind
    exact Int.eq_of_mul_eq_mul_left (by omega) e
  exact ⟨n * i + j * q, -(n * l + j * p), by grind, by grind⟩
theorem mul1 {x y : Int} (h : 1 ≤ x) (hy : 0 ≤ y) : y ≤ x * y := by
  have := Int.mul_le_mul_of_nonneg_right h hy
  omega
theorem mul0 {x y : Int} (h : x ≤ 0) (hy : 0 ≤ y) : x * y ≤ 0 := by
  have := Int.mul_le_mul_of_nonneg_right h hy
  omega
theorem mulp {x y : Int} (h : 0 ≤ x) (hy : 0 ≤ y) : 0 ≤ x * y := Int.mul_nonneg h hy
theorem muln {x y : Int} (h : x ≤ -1) (hy : 0 ≤ y) : x * y ≤ -y := by
  have := Int.mul_le_mul_of_nonneg_right h hy
  omega
theorem Bas.gapU (B : Bas s m p u q v) (h : ∃ j, y = n * s + m * j) (y0 : 0 < y) (n1 : n < p + q) (n0 : -q < n) : u ≤ y := by
  obtain ⟨c, d, e1, e2⟩ := B.lat h
  have p1 := B.p1
  have q1 := B.q1
  have u0 := B.u0
  have v1 := B.v1
  by_cases c1 : 1 ≤ c
  · have a1 := mul1 c1 (show 0 ≤ p by omega)
    have a2 := mul1 c1 u0
    by_cases d1 : 1 ≤ d
    · have := mul1 d1 (show 0 ≤ q by omega)
      omega
    · have := mul0 (show d ≤ 0 by omega) (show 0 ≤ v by omega)
      omega
  · have a1 := mul0 (show c ≤ 0 by omega) (show 0 ≤ p by omega)
    have a2 := mul0 (show c ≤ 0 by omega) u0
    by_cases d1 : 0 ≤ d
    · have := mulp d1 (show 0 ≤ v by omega)
      omega
    · have := muln (show d ≤ -1 by omega) (show 0 ≤ q by omega)
      omega
theorem Bas.gapV (B : Bas s m p u q v) (h : ∃ j, y = n * s + m * j) (y0 : 0 < y) (n1 : n < p) (n0 : -(p + q) < n) : v ≤ y := by
  obtain ⟨c, d, e1, e2⟩ := B.lat h
  have p1 := B.p1
  have q1 := B.q1
  have u0 := B.u0
  have v1 := B.v1
  by_cases d0 : 0 ≤ d
  · have b1 := mulp d0 (show 0 ≤ q by omega)
    have b2 := mulp d0 (show 0 ≤ v by omega)
    by_cases c1 : 1 ≤ c
    · have := mul1 c1 (show 0 ≤ p by omega)
      omega
    · have := mul0 (show c ≤ 0 by omega) u0
      omega
  · have b1 := muln (show d ≤ -1 by omega) (show 0 ≤ q by omega)
    have b2 := muln (show d ≤ -1 by omega) (show 0 ≤ v by omega)
    by_cases c0 : 0 ≤ c
    · have := mulp c0 u0
      omega
    · have := muln (show c ≤ -1 by omega) (show 0 ≤ p by omega)
      omega
theorem Bas.gapUV (B : Bas s m p u q v) (h : ∃ j, y = n * s + m * j) (y0 : 0 < y) (n1 : n < p) (n0 : -q < n) : u + v ≤ y := by
  obtain ⟨c, d, e1, e2⟩ := B.lat h
  have p1 := B.p1
  have q1 := B.q1
  have u0 := B.u0
  have v1 := B.v1
  by_cases c1 : 1 ≤ c
  · have a1 := mul1 c1 (show 0 ≤ p by omega)
    have a2 := mul1 c1 u0
    by_cases d0 : 0 ≤ d
    · have := mulp d0 (show 0 ≤ q by omega)
      omega
    · have := muln (show d ≤ -1 by omega) (show 0 ≤ v by omega)
      omega
  · have a1 := mul0 (show c ≤ 0 by omega) (show 0 ≤ p by omega)
    have a2 := mul0 (show c ≤ 0 by omega) u0
    by_cases d0 : 0 ≤ d
    · have := mulp d0 (show 0 ≤ v by omega)
      omega
    · have := muln (show d ≤ -1 by omega) (show 0 ≤ q by omega)
      omega
theorem dst_lat : ∃ j, dst a s m t k - dst a s m t n = (n - k) * s + m * j := by
  unfold dst
  rw [Int.emod_def, Int.emod_def]
  exact ⟨(t - (a + n * s)) / m - (t - (a + k * s)) / m, by grind⟩
theorem dst_nn (m0 : 0 < m) : 0 ≤ dst a s m t n := Int.emod_nonneg _ (by omega)
theorem near_U (B : Bas s m p u q v) (rk : r = dst a s m t k) (g : r < u) (n1 : n - k < p + q) (n0 : -q < n - k) : r ≤ dst a s m t n := by
  rcases Int.lt_or_le (dst a s m t n) r with h | h
  · have nn := dst_nn (a := a) (s := s) (t := t) (n := n) B.m0
    have := B.gapU (n := n - k) (y := r - dst a s m t n) (by rw [rk]; exact dst_lat) (by omega) n1 n0
    omega
  · exact h
theorem near_V (B : Bas s m p u q v) (rk : r = dst a s m t k) (g : r < v) (n1 : n - k < p) (n0 : -(p + q) < n - k) : r ≤ dst a s m t n := by
  rcases Int.lt_or_le (dst a s m t n) r with h | h
  · have nn := dst_nn (a := a) (s := s) (t := t) (n := n) B.m0
    have := B.gapV (n := n - k) (y := r - dst a s m t n) (by rw [rk]; exact dst_lat) (by omega) n1 n0
    omega
  · exact h
theorem near_UV (B : Bas s m p u q v) (rk : r = dst a s m t k) (g : r < u + v) (n1 : n - k < p) (n0 : -q < n - k) : r ≤ dst a s m t n := by
  rcases Int.lt_or_le (dst a s m t n) r with h | h
  · have nn := dst_nn (a := a) (s := s) (t := t) (n := n) B.m0
    have := B.gapUV (n := n - k) (y := r - dst a s m t n) (by rw [rk]; exact dst_lat) (by omega) n1 n0
    omega
  · exact h
def inS (st : Option Int) (n : Int) : Prop := ∀ e, st = some e → n ≤ e
theorem inS.le {i j : Int} (h : inS st j) (hij : i ≤ j) : inS st i := fun e he => by
  have := h e he
  omega
theorem not_inS {i : Int} (h : ¬ inS st i) : ∃ e, st = some e ∧ e < i := by
  cases st with
  | none => exact absurd (fun e he => nomatch he) h
  | some e =>
    refine ⟨e, rfl, ?_⟩
    rcases Int.lt_or_le e i with z | z
    · exact z
    · exact absurd (fun e' he => by cases he; exact z) h
structure RunC (a s m t w : Int) (st : Option Int) (p u q v k r : Int) : Prop where
  B : Bas s m p u q v
  u1 : 1 ≤ u ∨ u = 0 ∧ v = m ∧ q = 1
  k0 : 0 ≤ k
  kL : k ≤ p + q - 1
  rk : r = dst a s m t k
  wr : w < r
  sk : inS st k
  sp : inS st (p - 1)
  sq : inS st (q - 1)
  g1 : k < q → inS st (k + p) → r < u
  g2 : q ≤ k → r < v
  g3 : k < q → r < u + v
structure HitC (a s m t w : Int) (st : Option Int) (k r : Int) : Prop where
  k0 : 0 ≤ k
  rk : r = dst a s m t k
  rw_ : r ≤ w
  sk : inS st k
  fst : ∀ j, 0 ≤ j → j < k → w < dst a s m t j
theorem RunC.near (R : RunC a s m t w st p u q v k r) (n0 : 0 ≤ n) (n1 : n ≤ p + q - 1) (hn : inS st n) : r ≤ dst a s m t n := by
  have kL := R.kL
  have k0 := R.k0
  by_cases hq : q ≤ k
  · exact near_V R.B R.rk (R.g2 hq) (by omega) (by omega)
  · by_cases hs : inS st (k + p)
    · exact near_U R.B R.rk (R.g1 (by omega) hs) (by omega) (by omega)
    · obtain ⟨e, he, h⟩ := not_inS hs
      have := hn e he
      exact near_UV R.B R.rk (R.g3 (by omega)) (by omega) (by omega)
theorem Bas.diff (B : Bas s m p u q v) : ∃ j, u - v = (p + q) * s + m * j := by
  obtain ⟨l, hl⟩ := B.up
  obtain ⟨i, hi⟩ := B.dn
  exact ⟨-l - i, by grind⟩
theorem dst_per (c : Int) {g : Int} (h : ∃ j, g * s = m * j) : dst a s m t (n + c * g) = dst a s m t n := by
  obtain ⟨j, hj⟩ := h
  unfold dst
  have : t - (a + (n + c * g) * s) = t - (a + n * s) + m * (-(c * j)) := by grind
  rw [this, Int.add_mul_emod_self_left]
theorem RunC.over (R : RunC a s m t w st p u q v k r) (h : (∃ e, st = some e ∧ e < p + q) ∨ (u - v) % m = 0) (n0 : 0 ≤ n) (hn : inS st n) : w < dst a s m t n := by
  have p1 := R.B.p1
  have q1 := R.B.q1
  have wr := R.wr
  rcases h with ⟨e, he, h⟩ | h
  · have := hn e he
    have := R.near n0 (by omega) hn
    omega
  · obtain ⟨j, hj⟩ := R.B.diff
    have e1 : ∃ i, (p + q) * s = m * i := by
      have e2 := Int.emod_def (u - v) m
      rw [h] at e2
      exact ⟨(u - v) / m - j, by grind⟩
    have e2 : n = n % (p + q) + n / (p + q) * (p + q) := by
      have := Int.emod_def n (p + q)
      grind
    rw [e2, dst_per _ e1]
    have b0 := Int.emod_nonneg n (show p + q ≠ 0 by omega)
    have b1 := Int.emod_lt_of_pos n (show 0 < p + q by omega)
    have b2 : n % (p + q) ≤ n := by
      have := mulp (Int.ediv_nonneg n0 (show 0 ≤ p + q by omega)) (show 0 ≤ p + q by omega)
      omega
    have := R.near b0 (by omega) (hn.le b2)
    omega
theorem RunC.pm (R : RunC a s m t w st p u q v k r) : p ≤ m ∧ q ≤ m := by
  have p1 := R.B.p1
  have q1 := R.B.q1
  have v1 := R.B.v1
  have u0 := R.B.u0
  have m0 := R.B.m0
  have dt := R.B.det
  have pv := mul1 v1 (show 0 ≤ p by omega)
  have e1 : v * p = p * v := Int.mul_comm _ _
  have e2 : u * q = q * u := Int.mul_comm _ _
  have qu0 := mulp (show 0 ≤ q by omega) u0
  rcases R.u1 with hu | ⟨hu, hv, hq⟩
  · have qu := mul1 hu (show 0 ≤ q by omega)
    have pv0 := mulp (show 0 ≤ p by omega) (show 0 ≤ v by omega)
    omega
  · omega
def FHit (a s m lo hi : Int) (st : Option Int) : Option Int → Prop
  | some n => 0 ≤ n ∧ inS st n ∧ dst a s m hi n ≤ hi - lo ∧ ∀ j, 0 ≤ j → j < n → hi - lo < dst a s m hi j
  | none => ∀ j, 0 ≤ j → inS st j → hi - lo < dst a s m hi j
theorem FHit.lt {lo hi n : Int} (m0 : 0 < m) (h : FHit a s m lo hi st (some n)) : n < m := by
  obtain ⟨a0, a1, a2, a3⟩ := h
  rcases Int.lt_or_le n m with z | z
  · exact z
  · have e : n = (n - m) + 1 * m := by omega
    have := a3 (n - m) (by omega) (by omega)
    have e2 := dst_per (a := a) (s := s) (m := m) (t := hi) (n := n - m) 1 (g := m) ⟨s, rfl⟩
    rw [← e] at e2
    omega
end
structure AskC (a s m lo hi : Int) (st : Option Int) : Prop where
  m0 : 1 ≤ m
  m1 : m ≤ 10 ^ 3000
  a0 : 0 ≤ a
  a1 : a ≤ m - 1
  s0 : 0 ≤ s
  s1 : s ≤ m - 1
  l0 : 0 ≤ lo
  l1 : lo ≤ hi
  h1 : hi ≤ m - 1
  st : ∀ e, st = some e → 0 ≤ e ∧ e ≤ 10 ^ 3000
/-! ### min of three whole numbers -/
def min3D : List D → Sto → R D
  | [.int i, .int j, .int l], S => .ok (.int (if l < (if j < i then j else i) then l else (if j < i then j else i))) S
  | _, _ => .bad
theorem o_min3 {i j l : Int} {S : Sto} : min3D [.int i, .int j, .int l] S = .ok (.int (if l < (if j < i then j else i) then l else (if j < i then j else i))) S := rfl
/-! ### the circle as data -/
def stD : Option Int → D
  | none => .non
  | some e => .int e
def wkD (a s m : Int) : D := .tup [.int a, .int s, .int m]
def ciKs : List Str := ["walk", "stop", "up_steps", "up_gap", "down_steps", "down_gap", "near", "room"]
def ciF (W T : D) (p u q v k r : Int) : List D := [W, T, .int p, .int u, .int q, .int v, .int k, .int r]
def ciO (W T : D) (p u q v k r : Int) : Ob := .ins "Circle" ciKs (ciF W T p u q v k r)
def ciD (W T : D) (p u q v k r : Int) : D := .ins "Circle" ciKs (ciF W T p u q v k r)
section
variable {S : Sto} {W T : D} {p u q v k r x : Int} {n : Nat} {m : FM} {src : List SrcD} {z : Sto → R (List D)} {Q : D → Sto → Prop} {E : Xc → Sto → Prop}
theorem ci_flds : (D.ref S.length).fields (S ++ [ciO W T p u q v k r]) "Circle" = some (ciKs, ciF W T p u q v k r) := by
  unfold D.fields
  dsimp only
  rw [top_get]
  rfl
theorem ci_fld {f : Str} {x : D} (h : kget ciKs (ciF W T p u q v k r) f = some x) : fldD "Circle" f (.ref S.length) (S ++ [ciO W T p u q v k r]) = .ok x (S ++ [ciO W T p u q v k r]) := by
  unfold fldD
  rw [ci_flds]
  dsimp only
  rw [h]
theorem ci_walk : fldD "Circle" "walk" (.ref S.length) (S ++ [ciO W T p u q v k r]) = .ok W (S ++ [ciO W T p u q v k r]) := ci_fld rfl
theorem ci_stop : fldD "Circle" "stop" (.ref S.length) (S ++ [ciO W T p u q v k r]) = .ok T (S ++ [ciO W T p u q v k r]) := ci_fld rfl
theorem ci_ups : fldD "Circle" "up_steps" (.ref S.length) (S ++ [ciO W T p u q v k r]) = .ok (.int p) (S ++ [ciO W T p u q v k r]) := ci_fld rfl
theorem ci_upg : fldD "Circle" "up_gap" (.ref S.length) (S ++ [ciO W T p u q v k r]) = .ok (.int u) (S ++ [ciO W T p u q v k r]) := ci_fld rfl
theorem ci_dns : fldD "Circle" "down_steps" (.ref S.length) (S ++ [ciO W T p u q v k r]) = .ok (.int q) (S ++ [ciO W T p u q v k r]) := ci_fld rfl
theorem ci_dng : fldD "Circle" "down_gap" (.ref S.length) (S ++ [ciO W T p u q v k r]) = .ok (.int v) (S ++ [ciO W T p u q v k r]) := ci_fld rfl
theorem ci_near : fldD "Circle" "near" (.ref S.length) (S ++ [ciO W T p u q v k r]) = .ok (.int k) (S ++ [ciO W T p u q v k r]) := ci_fld rfl
theorem ci_room : fldD "Circle" "room" (.ref S.length) (S ++ [ciO W T p u q v k r]) = .ok (.int r) (S ++ [ciO W T p u q v k r]) := ci_fld rfl
theorem ci_fput {f : Str} {d : D} {p' u' q' v' k' r' : Int} (h1 : kputK ciKs f = ciKs) (h2 : kputL ciKs (ciF W T p u q v k r) f d = ciF W T p' u' q' v' k' r') : fputD "Circle" f (.ref S.length) d (S ++ [ciO W T p u q v k r]) = .ok () (S ++ [ciO W T p' u' q' v' k' r']) := by
  unfold ciO
  rw [top_fput, chk_pos (by decide), h1, h2]
theorem ci_pups : fputD "Circle" "up_steps" (.ref S.length) (.int x) (S ++ [ciO W T p u q v k r]) = .ok () (S ++ [ciO W T x u q v k r]) := ci_fput rfl rfl
theorem ci_pupg : fputD "Circle" "up_gap" (.ref S.length) (.int x) (S ++ [ciO W T p u q v k r]) = .ok () (S ++ [ciO W T p x q v k r]) := ci_fput rfl rfl
theorem ci_pdns : fputD "Circle" "down_steps" (.ref S.length) (.int x) (S ++ [ciO W T p u q v k r]) = .ok () (S ++ [ciO W T p u x v k r]) := ci_fput rfl rfl
theorem ci_pdng : fputD "Circle" "down_gap" (.ref S.length) (.int x) (S ++ [ciO W T p u q v k r]) = .ok () (S ++ [ciO W T p u q x k r]) := ci_fput rfl rfl
theorem ci_pnear : fputD "Circle" "near" (.ref S.length) (.int x) (S ++ [ciO W T p u q v k r]) = .ok () (S ++ [ciO W T p u q v x r]) := ci_fput rfl rfl
theorem ci_proom : fputD "Circle" "room" (.ref S.length) (.int x) (S ++ [ciO W T p u q v k r]) = .ok () (S ++ [ciO W T p u q v k x]) := ci_fput rfl rfl
theorem ciM_second : wq (meR "Circle" "second" m n src z (.ref S.length) (S ++ [ciO W T p u q v k r])) Q E .a = wq (z (S ++ [ciO W T p u q v k r])) (fun vs S' => wq (R.chk (vs.length = n) (m (srcD (.ref S.length :: vs) [] src) S')) Q E .a) E .a := me_any ci_flds (by decide)
theorem ciM_over : wq (meR "Circle" "is_over" m n src z (.ref S.length) (S ++ [ciO W T p u q v k r])) Q E .a = wq (z (S ++ [ciO W T p u q v k r])) (fun vs S' => wq (R.chk (vs.length = n) (m (srcD (.ref S.length :: vs) [] src) S')) Q E .a) E .a := me_any ci_flds (by decide)
theorem ciM_up : wq (meR "Circle" "split_up" m n src z (.ref S.length) (S ++ [ciO W T p u q v k r])) Q E .a = wq (z (S ++ [ciO W T p u q v k r])) (fun vs S' => wq (R.chk (vs.length = n) (m (srcD (.ref S.length :: vs) [] src) S')) Q E .a) E .a := me_any ci_flds (by decide)
theorem ciM_down : wq (meR "Circle" "split_down" m n src z (.ref S.length) (S ++ [ciO W T p u q v k r])) Q E .a = wq (z (S ++ [ciO W T p u q v k r])) (fun vs S' => wq (R.chk (vs.length = n) (m (srcD (.ref S.length :: vs) [] src) S')) Q E .a) E .a := me_any ci_flds (by decide)
theorem cf_ups : fldD "Circle" "up_steps" (ciD W T p u q v k r) S = .ok (.int p) S := rfl
theorem cf_upg : fldD "Circle" "up_gap" (ciD W T p u q v k r) S = .ok (.int u) S := rfl
theorem cf_dns : fldD "Circle" "down_steps" (ciD W T p u q v k r) S = .ok (.int q) S := rfl
theorem cf_dng : fldD "Circle" "down_gap" (ciD W T p u q v k r) S = .ok (.int v) S := rfl
theorem cf_near : fldD "Circle" "near" (ciD W T p u q v k r) S = .ok (.int k) S := rfl
theorem cf_room : fldD "Circle" "room" (ciD W T p u q v k r) S = .ok (.int r) S := rfl
theorem wk_ix0 {a s m : Int} : ixD (wkD a s m) (.int 0) S = .ok (.int a) S := rfl
theorem wk_ix1 {a s m : Int} : ixD (wkD a s m) (.int 1) S = .ok (.int s) S := rfl
theorem wk_ix2 {a s m : Int} : ixD (wkD a s m) (.int 2) S = .ok (.int m) S := rfl
theorem gTup_wk {gs : FGs} {a s m : Int} {δ : Dl} : gTupD 3 gs (wkD a s m) δ S = gs [.int a, .int s, .int m] δ S := rfl
theorem stD_n : stD none = .non := rfl
theorem stD_s {e : Int} : stD (some e) = .int e := rfl
theorem eq_nI {i : Int} : eqD .non (.int i) S = .ok (.bl false) S := by
  show R.chk (SeqAt.shaped .none = true ∧ SeqAt.shaped (.int i) = true) (R.ok (D.bl (PyData.eqv .none (.int i))) S) = _
  rw [chk_pos ⟨rfl, rfl⟩]
  rfl
theorem eq_In {i : Int} : eqD (.int i) .non S = .ok (.bl false) S := by
  show R.chk (SeqAt.shaped (.int i) = true ∧ SeqAt.shaped .none = true) (R.ok (D.bl (PyData.eqv (.int i) .none)) S) = _
  rw [chk_pos ⟨rfl, rfl⟩]
  rfl
theorem eq_nn : eqD .non .non S = .ok (.bl true) S := rfl
theorem eq_st {x : Option Int} : eqD (stD x) (stD x) S = .ok (.bl true) S := by
  cases x with
  | none => rfl
  | some e =>
    show R.ok (D.bl (decide (e = e))) S = _
    rw [decide_eq_true rfl]
theorem cdiv_any {i j : Int} (hj : 0 < j) (hi : Sz i 13000) : CDivC i j := by
  refine ⟨hj, ?_⟩
  by_cases h : j.natAbs < 2 ^ 9000
  · exact .inl h
  · right
    have l1 : Builtin.Int.intBits i ≤ 13000 := by
      unfold Builtin.Int.intBits
      split
      · exact Nat.zero_le _
      · rename_i z
        have z1 : i ≠ 0 := fun e => z (by rw [e]; rfl)
        have := (Nat.log2_lt (n := i.natAbs) (k := 13000) (by omega)).mpr hi
        omega
    have l2 : 9000 ≤ Builtin.Int.intBits j := by
      unfold Builtin.Int.intBits
      have z0 : j ≠ 0 := by omega
      rw [if_neg (by simpa using z0)]
      have := (Nat.le_log2 (n := j.natAbs) (k := 9000) (by omega)).mpr (by omega)
      omega
    omega
end
end DW
namespace DW
open PySem PySem.Spec PyProof.Rows L2 RZ
/-! ### zip of two tuples -/
def zipTI (l : List D) (S : Sto) : R Itm := match l with
  | [.tup l, .tup m] => .ok ⟨fun _ => True, zipped l m⟩ S
  | _ => .bad
def iZipT (fr : FA) : FI := fun δ S => (fr δ S).bind zipTI
section
variable {c : Cc} {X : Cx} {W : WX} {a a2 : Expr} {fr : FA} {pos : Pos}
end
theorem c_zipT {fr : FA} {δ : Dl} {S : Sto} {Q : Itm → Sto → Prop} {E : Xc → Sto → Prop} : wq (iZipT fr δ S) Q E .a = wq (fr δ S) (fun a s => wq (zipTI a s) Q E .a) E .a := q_bind
theorem o_zipT {l m : List D} {S : Sto} : zipTI [.tup l, .tup m] S = .ok ⟨fun _ => True, zipped l m⟩ S := rfl
end DW
namespace DW
open PySem PySem.Spec PyProof.Rows L2
/-! ### dicts of the module, texts by texts: of each text of U what stands there, or that nothing does -/
def KTab (K : PySem.W.Frag) (w : World) (d : Addr) (U : List (Str × Option Str)) : Prop := ∃ es n, L2.KDict K w d es n ∧ ∀ z r, U.lookup z = some r → match r with
  | some v => ∃ u0, PySem.W.nsIn K d z = some (some u0) ∧ RelV (.str v) u0
  | none => PySem.W.nsIn K d z = some none
def kixD (U : List (Str × Option Str)) (d : D) (S : Sto) : R D := match d with
  | .str z => match U.lookup z with
    | some (some v) => .ok (.str v) S
    | _ => .bad
  | _ => .bad
def kinD (U : List (Str × Option Str)) (d : D) (S : Sto) : R D := match d with
  | .str z => match U.lookup z with
    | some r => .ok (.bl r.isSome) S
    | none => .bad
  | _ => .bad
section
variable {c : Cc} {X : Cx} {W : WX} {b : Expr} {fb : FE} {x : Str} {d : Addr} {U : List (Str × Option Str)} {p pos : Pos}
theorem de_kix (hg : Gl X x) (hm : ∃ u, X.mg x = some u ∧ RelV (.ref d) u) (hT : KTab X.K X.w d U) (hb : DE c X W b fb) (hs : PlainIx b := by intro _ _; rfl) (hx : (x == ("__debug__" : Str)) = false := by decide) : DE c X W (.Subscript (.Name x p) b pos) (e1 (kixD U) fb) :=
  pe_imp (pe_ix ix_kdict (pe_gc hg hm hx) hb hs) fun σ H Q q => tD_1 (r := fun y H2 Q => rIxD X.K X.w (.ref d) y H2 Q) (fun ρ S G H e v Q W sb r h q => by
    unfold kixD at q
    split at q
    · rename_i z
      simp only [Dat] at h
      split at q
      · rename_i v0 e2
        obtain ⟨es, n, D, hU⟩ := hT
        obtain ⟨u0, n1, n2⟩ := hU z _ e2
        exact ⟨d, z, .str v0, rfl, h, ⟨es, n, u0, D.at_, D.lit, n1, n2⟩, q _ ρ G H r (Go.refl sb) (by simp only [Dat])⟩
      · exact q.elim
    · exact q.elim) q
theorem pc_kin (hg : Gl X x) (hm : ∃ u, X.mg x = some u ∧ RelV (.ref d) u) (hT : KTab X.K X.w d U) {tb : TE} (hb : L2.PE X b tb) (hx : (x == ("__debug__" : Str)) = false := by decide) :
    PC X .In b (.Name x p) (fun σ H Q => tb σ H fun y H2 => ∃ z r, y = .str z ∧ U.lookup z = some r ∧ Q (.bl r.isSome) H2) := by
  obtain ⟨es, n, D, hU⟩ := hT
  refine ⟨fun pins s σ H Q I h => ?_⟩
  refine thn (hb.run pins s σ H _ I h) fun iv s1 ⟨y, H1, I1, ry, z, r, ey, e2, q1⟩ => thn ((pe_gc (pos := p) hg hm hx).run pins s1 σ H1 (fun v H2 => v = .ref d ∧ H2 = H1) I1 ⟨rfl, rfl⟩) fun u s2 ⟨x2, H2, I2, rx, ev, eH⟩ => ?_
  subst ev
  subst eH
  have hz := hU z r e2
  have e3 : ∃ r0 : Option Value, PySem.W.nsIn X.K d z = some r0 ∧ r0.isSome = r.isSome := by
    cases r with
    | none => exact ⟨none, hz, rfl⟩
    | some v =>
      obtain ⟨u0, n1, n2⟩ := hz
      exact ⟨some u0, n1, rfl⟩
  obtain ⟨r0, n1, n2⟩ := e3
  exact op_in_kd D pins s2 σ H2 y (.ref d) iv u Q I2 ry rx ⟨z, r0, ey, rfl, n1, by rw [n2]; exact q1⟩
theorem kin_ok {ρ : List Addr} {S : Sto} {G : Hp} {e : D} {v : V} {T : D → Sto → Prop} {E : Xc → Sto → Prop} (h : Dat c ρ G e v) (q : wp (kinD U e S) T E) : ∃ z r, v = .str z ∧ U.lookup z = some r ∧ T (.bl r.isSome) S := by
  unfold kinD at q
  split at q
  · rename_i z
    simp only [Dat] at h
    split at q
    · rename_i r e2
      exact ⟨z, r, h, e2, q⟩
    · exact q.elim
  · exact q.elim
theorem dt_kin (hg : Gl X x) (hm : ∃ u, X.mg x = some u ∧ RelV (.ref d) u) (hT : KTab X.K X.w d U) (hb : DE c X W b fb) (hx : (x == ("__debug__" : Str)) = false := by decide) (hmk : behindInMarks .In (.Name x p) = false := by rfl) : DT c X W (.Compare b [.In] [.Name x p] pos) (tst (e1 (kinD U) fb)) :=
  pt_imp (pt_cmp (pc_kin hg hm hT hb hx) hmk) fun σ H Q q => tD_1 (r := fun y H2 Q => ∃ z r, y = .str z ∧ U.lookup z = some r ∧ Q (.bl r.isSome) H2) (fun ρ S G H e v Q W sb r h q => by
    obtain ⟨z, r0, z1, z2, z3⟩ := kin_ok h q
    exact ⟨z, r0, z1, z2, z3 _ ρ G H r (Go.refl sb) (by simp only [Dat])⟩) (tst_tD q)
end
/-! ### x.partition(y) -/
noncomputable def partD (a : Str) (e : D) (S : Sto) : R D := match e with
  | .str b => .chk ((b.length == 0) = false ∧ a.length ≤ sizeLine) (.ok (.tup [.str (Txt.partition a b).1, .str (Txt.partition a b).2.1, .str (Txt.partition a b).2.2]) S)
  | _ => .bad
noncomputable def ePart (fa fb : FE) : FE := fun δ S => (fa δ S).bind fun d S => match d with
  | .str a => (fb δ S).bind fun e S => partD a e S
  | _ => .bad
theorem de_part {c : Cc} {X : Cx} {W : WX} {a b : Expr} {fa fb : FE} {apos pos : Pos} (ha : DE c X W a fa) (hb : DE c X W b fb) (hs : starEach [b] X.env = [(false, eval b X.env)] := by rfl) (hbase : attributeBase a "partition" X.env (eval a X.env) = eval a X.env := by rfl) (hline : (apos.endLine == pos.line) = true := by rfl) :
    DE c X W (.Call (.Attribute a "partition" apos) [b] [] pos) (ePart fa fb) := pe_imp (pe_partition ha hb hs hbase hline) fun σ H Q q => by
  obtain ⟨δ, S, ρ, G, sb, hl, hr, q⟩ := q
  refine ⟨δ, S, ρ, G, sb, hl, hr, ?_⟩
  unfold ePart at q
  rw [wp_bind] at q
  refine wp_mono q (fun d S1 q1 v1 ρ1 G1 H1 r1 e1 dv1 => ?_) (fun _ _ z => z)
  split at q1
  · rename_i x
    simp only [Dat] at dv1
    refine ⟨⟨x, dv1⟩, δ, S1, ρ1, G1, e1.sub, hl.ext e1.ext, r1, ?_⟩
    rw [wp_bind] at q1
    refine wp_mono q1 (fun d2 S2 q2 v2 ρ2 G2 H2 r2 e2 dv2 => ?_) (fun _ _ z => z.go e1)
    unfold partD at q2
    split at q2
    · rename_i y
      simp only [Dat] at dv2
      rw [wp_chk] at q2
      obtain ⟨⟨g1, g2⟩, q2⟩ := q2
      refine ⟨x, y, dv1, by rw [dv2], g1, g2, fun p hp => ?_⟩
      have g12 := e1.trans e2
      exact q2 (.ref p) ρ2 _ _ (r2.new (g12.sub.free hp)) (g12.trans (Go.new g12.sub hp)) (Dat.newT r2 (g12.sub.free hp) (.cons (by simp only [Dat]) (.cons (by simp only [Dat]) (.cons (by simp only [Dat]) .nil))))
    · exact q2.elim
  · exact q1.elim
theorem c_part {fa fb : FE} {δ : Dl} {S : Sto} {Q : D → Sto → Prop} {E : Xc → Sto → Prop} : wq (ePart fa fb δ S) Q E .a = wq (fa δ S) (fun d S1 => wq (match d with
  | .str a => (fb δ S1).bind fun e S => partD a e S
  | _ => .bad) Q E .a) E .a := q_bind
theorem o_part {a b : Str} {S : Sto} : partD a (.str b) S = .chk ((b.length == 0) = false ∧ a.length ≤ sizeLine) (.ok (.tup [.str (Txt.partition a b).1, .str (Txt.partition a b).2.1, .str (Txt.partition a b).2.2]) S) := rfl
theorem o_kix {U : List (Str × Option Str)} {z : Str} {S : Sto} : kixD U (.str z) S = match U.lookup z with
    | some (some v) => .ok (.str v) S
    | _ => .bad := rfl
theorem o_kin {U : List (Str × Option Str)} {z : Str} {S : Sto} : kinD U (.str z) S = match U.lookup z with
    | some r => .ok (.bl r.isSome) S
    | none => .bad := rfl
def KEnt (K : PySem.W.Frag) (d : Addr) (z : Str) : Option Str → Prop
  | some v => ∃ u0, PySem.W.nsIn K d z = some (some u0) ∧ RelV (.str v) u0
  | none => PySem.W.nsIn K d z = some none
def allE (K : PySem.W.Frag) (d : Addr) : List (Str × Option Str) → Prop
  | [] => True
  | p :: l => KEnt K d p.1 p.2 ∧ allE K d l
theorem allE_cons {K : PySem.W.Frag} {d : Addr} {p : Str × Option Str} {l : List (Str × Option Str)} : allE K d (p :: l) = (KEnt K d p.1 p.2 ∧ allE K d l) := rfl
theorem allE_nil {K : PySem.W.Frag} {d : Addr} : allE K d [] = True := rfl
theorem KEnt_s {K : PySem.W.Frag} {d : Addr} {z v : Str} : KEnt K d z (some v) = ∃ u0, PySem.W.nsIn K d z = some (some u0) ∧ RelV (.str v) u0 := rfl
theorem KEnt.s {K : PySem.W.Frag} {d : Addr} {z v : Str} {t} (h : PySem.W.nsIn K d z = some (some (.str v t))) : ∃ u0, PySem.W.nsIn K d z = some (some u0) ∧ RelV (.str v) u0 := ⟨_, h, t, rfl⟩
theorem KEnt_n {K : PySem.W.Frag} {d : Addr} {z : Str} : KEnt K d z none = (PySem.W.nsIn K d z = some none) := rfl
theorem allE_at {K : PySem.W.Frag} {d : Addr} : ∀ {l : List (Str × Option Str)} {z : Str} {r : Option Str}, allE K d l → l.lookup z = some r → KEnt K d z r
  | [], _, _, _, h => nomatch h
  | p :: l, z, r, a, h => by
    rw [List.lookup_cons] at h
    split at h
    · rename_i e
      have e1 : z = p.1 := by simpa using e
      cases h
      rw [e1]
      exact a.1
    · exact allE_at a.2 h
theorem KTab.mk {K : PySem.W.Frag} {w : World} {d : Addr} {U : List (Str × Option Str)} {es : Array DictEntry} {n : Nat} {ks : List Str} (hl : K.lookup d = some ⟨.type "dict", none, .dict es n, #[]⟩) (hk : es.toList.map He.keyOf = He.keysIn w.params ks) (hd : (d == sysModules) = false)
    (hU : allE K d U) : KTab K w d U := ⟨es, n, ⟨hl, He.keysLit_of hk, hd⟩, fun z r e => by
  have := allE_at hU e
  cases r with
  | none => exact this
  | some v => exact this⟩
end DW
namespace DW
open PySem PySem.Spec PyProof.Rows L2
/-! ### beginnings of texts that tell something -/
inductive Stg where
  | start | signed | n | na | nan | i | inn | inf | whole | dot | point | e | ep | e1 | e2 | e3 | e4
deriving DecidableEq
def dgB (c : Nat) : Bool := decide (48 ≤ c ∧ c ≤ 57)
def digs : List Nat := [48, 49, 50, 51, 52, 53, 54, 55, 56, 57]
theorem dg_mem {c : Nat} : c ∈ digs ↔ dgB c = true := by
  unfold digs dgB
  simp only [List.mem_cons, List.not_mem_nil, or_false, decide_eq_true_eq]
  omega
def folT : Stg → List Nat
  | .start => [43, 45, 46] ++ digs ++ [105, 110]
  | .signed => [46] ++ digs ++ [105]
  | .n => [97]
  | .na => [110]
  | .nan => []
  | .i => [110]
  | .inn => [102]
  | .inf => []
  | .whole => [46] ++ digs ++ [101]
  | .dot => digs
  | .point => digs ++ [101]
  | .e => [43, 45] ++ digs
  | .ep => digs
  | .e1 => digs
  | .e2 => digs
  | .e3 => digs
  | .e4 => []
def behE : Stg → Option Stg
  | .e => some .e1
  | .ep => some .e1
  | .e1 => some .e2
  | .e2 => some .e3
  | .e3 => some .e4
  | _ => none
def behT (s : Stg) (c : Nat) : Stg := match behE s with
  | some t => if dgB c = true then t else .ep
  | none => if dgB c = true then (if s = .dot ∨ s = .point then .point else .whole) else if c = 46 then (if s = .whole then .point else .dot) else if c = 43 ∨ c = 45 then .signed else if c = 101 then .e else
    match s with
    | .start => if c = 110 then .n else .i
    | .signed => .i
    | .n => .na
    | .na => .nan
    | .i => .inn
    | .inn => .inf
    | s => s
def stpT (s : Stg) (c : Nat) : Option Stg := if c ∈ folT s then some (behT s c) else none
def runT : Stg → List Nat → Option Stg
  | s, [] => some s
  | s, c :: l => match stpT s c with
    | some t => runT t l
    | none => none
def okB : Option Stg → Bool
  | some .nan => true
  | some .inf => true
  | some .whole => true
  | some .point => true
  | some .e1 => true
  | some .e2 => true
  | some .e3 => true
  | some .e4 => true
  | _ => false
theorem runT_app {s : Stg} {l m : List Nat} : runT s (l ++ m) = (runT s l).bind fun t => runT t m := by
  induction l generalizing s with
  | nil => rfl
  | cons c l ih =>
    show (match stpT s c with | some t => runT t (l ++ m) | none => none) = _
    cases h : stpT s c with
    | none =>
      rw [show runT s (c :: l) = none by unfold runT; rw [h]]
      rfl
    | some t =>
      rw [show runT s (c :: l) = runT t l by conv => lhs; unfold runT; rw [h]]
      exact ih
def sgT : List Nat → List Nat
  | c :: r => if c = 43 ∨ c = 45 then r else c :: r
  | [] => []
def allDg (l : List Nat) : Bool := l.all dgB
def ahT (c : Nat) : List Nat → List Nat
  | [] => []
  | x :: l => if x = c then [] else x :: ahT c l
def bhT (c : Nat) : List Nat → Option (List Nat)
  | [] => none
  | x :: l => if x = c then some l else bhT c l
def expB : Option (List Nat) → Bool
  | none => true
  | some b => decide (1 ≤ (sgT b).length ∧ (sgT b).length ≤ 4) && allDg (sgT b)
def numB (l : List Nat) : Bool := expB (bhT 101 l) && (let w := ahT 46 (ahT 101 l) ++ (bhT 46 (ahT 101 l)).getD []; !w.isEmpty && allDg w)
def whB (l : List Nat) : Bool := decide (l = [110, 97, 110]) || decide (sgT l = [105, 110, 102]) || numB (sgT l)
/-! the same, by the stages -/
theorem run_dg {s : Stg} {l : List Nat} (hs : ∀ c, dgB c = true → stpT s c = some s) (h : allDg l = true) : runT s l = some s := by
  induction l with
  | nil => rfl
  | cons c l ih =>
    unfold allDg at h ih
    rw [List.all_cons, Bool.and_eq_true] at h
    unfold runT
    rw [hs c h.1]
    exact ih h.2
theorem e4_run (l : List Nat) : okB (runT .e4 l) = l.isEmpty := by
  cases l with
  | nil => rfl
  | cons c l => rfl
theorem ex_run {s t : Stg} {k : Nat} (ok : okB (some s) = true) (h1 : ∀ c, dgB c = true → stpT s c = some t) (h2 : ∀ c, dgB c = false → stpT s c = none) (ht : ∀ l, okB (runT t l) = (decide (l.length ≤ k) && allDg l)) (l : List Nat) : okB (runT s l) = (decide (l.length ≤ k + 1) && allDg l) := by
  cases l with
  | nil =>
    rw [show runT s [] = some s from rfl, ok]
    simp [allDg]
  | cons c l =>
    unfold runT
    cases h : dgB c with
    | true =>
      rw [h1 c h]
      show okB (runT t l) = _
      rw [ht]
      unfold allDg
      rw [List.all_cons, h, Bool.true_and, List.length_cons]
      congr 1
      exact decide_eq_decide.mpr (by omega)
    | false =>
      rw [h2 c h]
      unfold allDg
      rw [List.all_cons, h, Bool.false_and, Bool.and_false]
      rfl
theorem stp_e3 {c : Nat} : (dgB c = true → stpT .e3 c = some .e4) ∧ (dgB c = false → stpT .e3 c = none) := by
  have e : stpT .e3 c = if c ∈ digs then some (if dgB c = true then Stg.e4 else .ep) else none := rfl
  rw [e]
  constructor
  · intro h
    rw [if_pos (dg_mem.mpr h), if_pos h]
  · intro h
    rw [if_neg (fun z => by rw [dg_mem.mp z] at h; cases h)]
theorem stp_e2 {c : Nat} : (dgB c = true → stpT .e2 c = some .e3) ∧ (dgB c = false → stpT .e2 c = none) := by
  have e : stpT .e2 c = if c ∈ digs then some (if dgB c = true then Stg.e3 else .ep) else none := rfl
  rw [e]
  constructor
  · intro h
    rw [if_pos (dg_mem.mpr h), if_pos h]
  · intro h
    rw [if_neg (fun z => by rw [dg_mem.mp z] at h; cases h)]
theorem stp_e1 {c : Nat} : (dgB c = true → stpT .e1 c = some .e2) ∧ (dgB c = false → stpT .e1 c = none) := by
  have e : stpT .e1 c = if c ∈ digs then some (if dgB c = true then Stg.e2 else .ep) else none := rfl
  rw [e]
  constructor
  · intro h
    rw [if_pos (dg_mem.mpr h), if_pos h]
  · intro h
    rw [if_neg (fun z => by rw [dg_mem.mp z] at h; cases h)]
theorem stp_ep {c : Nat} : (dgB c = true → stpT .ep c = some .e1) ∧ (dgB c = false → stpT .ep c = none) := by
  have e : stpT .ep c = if c ∈ digs then some (if dgB c = true then Stg.e1 else .ep) else none := rfl
  rw [e]
  constructor
  · intro h
    rw [if_pos (dg_mem.mpr h), if_pos h]
  · intro h
    rw [if_neg (fun z => by rw [dg_mem.mp z] at h; cases h)]
theorem e4_run' (l : List Nat) : okB (runT .e4 l) = (decide (l.length ≤ 0) && allDg l) := by
  rw [e4_run]
  cases l with
  | nil => rfl
  | cons c l => rfl
theorem e1_run (l : List Nat) : okB (runT .e1 l) = (decide (l.length ≤ 3) && allDg l) :=
  ex_run rfl (fun _ => stp_e1.1) (fun _ => stp_e1.2) (ex_run rfl (fun _ => stp_e2.1) (fun _ => stp_e2.2) (ex_run rfl (fun _ => stp_e3.1) (fun _ => stp_e3.2) e4_run')) l
theorem ep_run (l : List Nat) : okB (runT .ep l) = (decide (1 ≤ l.length ∧ l.length ≤ 4) && allDg l) := by
  cases l with
  | nil => rfl
  | cons c l =>
    unfold runT
    cases h : dgB c with
    | true =>
      rw [stp_ep.1 h]
      show okB (runT .e1 l) = _
      rw [e1_run]
      unfold allDg
      rw [List.all_cons, h, Bool.true_and, List.length_cons]
      congr 1
      exact decide_eq_decide.mpr (by omega)
    | false =>
      rw [stp_ep.2 h]
      unfold allDg
      rw [List.all_cons, h, Bool.false_and, Bool.and_false]
      rfl
theorem run_c {s t : Stg} {c : Nat} {l : List Nat} (h : stpT s c = some t) : runT s (c :: l) = runT t l := by
  conv => lhs; unfold runT
  rw [h]
theorem run_n {s : Stg} {c : Nat} {l : List Nat} (h : stpT s c = none) : runT s (c :: l) = none := by
  unfold runT
  rw [h]
theorem all_c {c : Nat} {l : List Nat} : allDg (c :: l) = (dgB c && allDg l) := rfl
theorem dg_ne {c : Nat} (h : dgB c = true) : c ≠ 43 ∧ c ≠ 45 ∧ c ≠ 46 ∧ c ≠ 101 ∧ c ≠ 97 ∧ c ≠ 110 ∧ c ≠ 105 ∧ c ≠ 102 := by
  unfold dgB at h
  rw [decide_eq_true_iff] at h
  omega
theorem ah_no {x c : Nat} {l : List Nat} (h : c ≠ x) : ahT x (c :: l) = c :: ahT x l := by
  conv => lhs; unfold ahT
  rw [if_neg h]
theorem ah_yes {x : Nat} {l : List Nat} : ahT x (x :: l) = [] := by
  unfold ahT
  rw [if_pos rfl]
theorem bh_no {x c : Nat} {l : List Nat} (h : c ≠ x) : bhT x (c :: l) = bhT x l := by
  conv => lhs; unfold bhT
  rw [if_neg h]
theorem bh_yes {x : Nat} {l : List Nat} : bhT x (x :: l) = some l := by
  unfold bhT
  rw [if_pos rfl]
theorem stp_e {c : Nat} : (c = 43 ∨ c = 45 → stpT .e c = some .ep) ∧ (dgB c = true → stpT .e c = some .e1) ∧ (¬ (c = 43 ∨ c = 45) → dgB c = false → stpT .e c = none) := by
  have e : stpT .e c = if c ∈ [43, 45] ++ digs then some (if dgB c = true then Stg.e1 else .ep) else none := rfl
  rw [e]
  refine ⟨fun h => ?_, fun h => ?_, fun h1 h2 => ?_⟩
  · rw [if_pos (List.mem_append_left _ (by rcases h with rfl | rfl <;> simp)), if_neg (by rcases h with rfl | rfl <;> decide)]
  · rw [if_pos (List.mem_append_right _ (dg_mem.mpr h)), if_pos h]
  · rw [if_neg]
    intro z
    rcases List.mem_append.mp z with z | z
    · exact h1 (by simpa using z)
    · rw [dg_mem.mp z] at h2
      cases h2
theorem e_run (l : List Nat) : okB (runT .e l) = (decide (1 ≤ (sgT l).length ∧ (sgT l).length ≤ 4) && allDg (sgT l)) := by
  cases l with
  | nil => rfl
  | cons c r =>
    by_cases hs : c = 43 ∨ c = 45
    · rw [run_c (stp_e.1 hs), show sgT (c :: r) = r by show (if c = 43 ∨ c = 45 then r else c :: r) = _; rw [if_pos hs]]
      exact ep_run r
    · rw [show sgT (c :: r) = c :: r by show (if c = 43 ∨ c = 45 then r else c :: r) = _; rw [if_neg hs], all_c]
      cases h : dgB c with
      | true =>
        rw [run_c (stp_e.2.1 h), e1_run, Bool.true_and, List.length_cons]
        congr 1
        exact decide_eq_decide.mpr (by omega)
      | false =>
        rw [run_n (stp_e.2.2 hs h), Bool.false_and, Bool.and_false]
        rfl
theorem stp_point {c : Nat} : (dgB c = true → stpT .point c = some .point) ∧ stpT .point 101 = some .e ∧ (c ≠ 101 → dgB c = false → stpT .point c = none) := by
  refine ⟨fun h => ?_, by decide, fun h1 h2 => ?_⟩
  · have e : stpT .point c = if c ∈ digs ++ [101] then some (if dgB c = true then Stg.point else if c = 46 then .dot else if c = 43 ∨ c = 45 then .signed else if c = 101 then .e else .point) else none := rfl
    rw [e, if_pos (List.mem_append_left _ (dg_mem.mpr h)), if_pos h]
  · unfold stpT
    rw [if_neg]
    intro z
    rcases List.mem_append.mp (show c ∈ digs ++ [101] from z) with z | z
    · rw [dg_mem.mp z] at h2
      cases h2
    · exact h1 (by simpa using z)
theorem point_run : ∀ l : List Nat, okB (runT .point l) = (allDg (ahT 101 l) && expB (bhT 101 l))
  | [] => rfl
  | c :: l => by
    by_cases h1 : c = 101
    · subst h1
      rw [run_c (stp_point (c := 0)).2.1, ah_yes, bh_yes, e_run]
      rfl
    · rw [ah_no h1, bh_no h1, all_c]
      cases h : dgB c with
      | true =>
        rw [run_c (stp_point.1 h), point_run l, Bool.true_and]
      | false =>
        rw [run_n (stp_point.2.2 h1 h), Bool.false_and, Bool.false_and]
        rfl
theorem stp_whole {c : Nat} : (dgB c = true → stpT .whole c = some .whole) ∧ stpT .whole 101 = some .e ∧ stpT .whole 46 = some .point ∧ (c ≠ 101 → c ≠ 46 → dgB c = false → stpT .whole c = none) := by
  refine ⟨fun h => ?_, by decide, by decide, fun h1 h3 h2 => ?_⟩
  · have e : stpT .whole c = if c ∈ [46] ++ digs ++ [101] then some (if dgB c = true then Stg.whole else if c = 46 then .point else if c = 43 ∨ c = 45 then .signed else if c = 101 then .e else .whole) else none := rfl
    rw [e, if_pos (List.mem_append_left _ (List.mem_append_right _ (dg_mem.mpr h))), if_pos h]
  · unfold stpT
    rw [if_neg]
    intro z
    rcases List.mem_append.mp (show c ∈ [46] ++ digs ++ [101] from z) with z | z
    · rcases List.mem_append.mp z with z | z
      · exact h3 (by simpa using z)
      · rw [dg_mem.mp z] at h2
        cases h2
    · exact h1 (by simpa using z)
def ptT (a : List Nat) : List Nat := ahT 46 a ++ (bhT 46 a).getD []
theorem pt_c {c : Nat} {l : List Nat} (h : c ≠ 46) : ptT (c :: l) = c :: ptT l := by
  unfold ptT
  rw [ah_no h, bh_no h]
  rfl
theorem pt_p {l : List Nat} : ptT (46 :: l) = l := by
  unfold ptT
  rw [ah_yes, bh_yes]
  rfl
theorem whole_run : ∀ l : List Nat, okB (runT .whole l) = (expB (bhT 101 l) && allDg (ptT (ahT 101 l)))
  | [] => rfl
  | c :: l => by
    by_cases h1 : c = 101
    · subst h1
      rw [run_c (stp_whole (c := 0)).2.1, ah_yes, bh_yes, e_run]
      show _ = (expB (some l) && true)
      rw [Bool.and_true]
      rfl
    · rw [ah_no h1, bh_no h1]
      by_cases h2 : c = 46
      · subst h2
        rw [run_c (stp_whole (c := 46)).2.2.1, pt_p, point_run, Bool.and_comm]
      · rw [pt_c h2, all_c]
        cases h : dgB c with
        | true => rw [run_c (stp_whole.1 h), whole_run l, Bool.true_and]
        | false =>
          rw [run_n (stp_whole.2.2.2 h1 h2 h), Bool.false_and, Bool.and_false]
          rfl
theorem stp_dot {c : Nat} : (dgB c = true → stpT .dot c = some .point) ∧ (dgB c = false → stpT .dot c = none) := by
  have e : stpT .dot c = if c ∈ digs then some (if dgB c = true then Stg.point else if c = 46 then .dot else if c = 43 ∨ c = 45 then .signed else if c = 101 then .e else .dot) else none := rfl
  rw [e]
  constructor
  · intro h
    rw [if_pos (dg_mem.mpr h), if_pos h]
  · intro h
    rw [if_neg (fun z => by rw [dg_mem.mp z] at h; cases h)]
theorem dot_run (l : List Nat) : okB (runT .dot l) = (expB (bhT 101 l) && (!(ahT 101 l).isEmpty && allDg (ahT 101 l))) := by
  cases l with
  | nil => rfl
  | cons c l =>
    by_cases h1 : c = 101
    · subst h1
      rw [run_n (stp_dot.2 (by decide)), ah_yes]
      simp [okB]
    · rw [ah_no h1, bh_no h1, all_c]
      cases h : dgB c with
      | true =>
        rw [run_c (stp_dot.1 h), point_run, Bool.true_and]
        simp [Bool.and_comm]
      | false =>
        rw [run_n (stp_dot.2 h)]
        simp [okB]
theorem num_eq {l : List Nat} : numB l = (expB (bhT 101 l) && (!(ptT (ahT 101 l)).isEmpty && allDg (ptT (ahT 101 l)))) := rfl
theorem num_bad {c : Nat} {l : List Nat} (h1 : c ≠ 46) (h : dgB c = false) : numB (c :: l) = false := by
  rw [num_eq]
  by_cases h2 : c = 101
  · subst h2
    rw [ah_yes]
    simp [ptT, ahT, bhT]
  · rw [ah_no h2, pt_c h1, all_c, h]
    simp
theorem stp_signed {c : Nat} : (dgB c = true → stpT .signed c = some .whole) ∧ stpT .signed 46 = some .dot ∧ stpT .signed 105 = some .i ∧ (c ≠ 46 → c ≠ 105 → dgB c = false → stpT .signed c = none) := by
  refine ⟨fun h => ?_, by decide, by decide, fun h1 h3 h2 => ?_⟩
  · have e : stpT .signed c = if c ∈ [46] ++ digs ++ [105] then some (if dgB c = true then Stg.whole else if c = 46 then .dot else if c = 43 ∨ c = 45 then .signed else if c = 101 then .e else .i) else none := rfl
    rw [e, if_pos (List.mem_append_left _ (List.mem_append_right _ (dg_mem.mpr h))), if_pos h]
  · unfold stpT
    rw [if_neg]
    intro z
    rcases List.mem_append.mp (show c ∈ [46] ++ digs ++ [105] from z) with z | z
    · rcases List.mem_append.mp z with z | z
      · exact h1 (by simpa using z)
      · rw [dg_mem.mp z] at h2
        cases h2
    · exact h3 (by simpa using z)
theorem one_run {s t : Stg} {x : Nat} {m : List Nat} (h0 : okB (some s) = false) (hf : folT s = [x]) (hb : behT s x = t) (ht : ∀ l, okB (runT t l) = decide (l = m)) (l : List Nat) : okB (runT s l) = decide (l = x :: m) := by
  cases l with
  | nil =>
    rw [show runT s [] = some s from rfl, h0]
    rfl
  | cons c l =>
    by_cases h : c = x
    · subst h
      rw [run_c (t := t) (by unfold stpT; rw [hf, if_pos (by simp), hb]), ht]
      exact decide_eq_decide.mpr ⟨fun z => by rw [z], fun z => (List.cons.inj z).2⟩
    · rw [run_n (by unfold stpT; rw [hf, if_neg (by simpa using h)])]
      exact (decide_eq_false fun z => h (List.cons.inj z).1).symm
theorem end_run {s : Stg} (h0 : okB (some s) = true) (hf : folT s = []) (l : List Nat) : okB (runT s l) = decide (l = []) := by
  cases l with
  | nil => exact h0
  | cons c l =>
    rw [run_n (by unfold stpT; rw [hf, if_neg (by simp)])]
    rfl
theorem i_run (l : List Nat) : okB (runT .i l) = decide (l = [110, 102]) := one_run (t := .inn) rfl rfl rfl (one_run (t := .inf) rfl rfl rfl (end_run rfl rfl)) l
theorem n_run (l : List Nat) : okB (runT .n l) = decide (l = [97, 110]) := one_run (t := .na) rfl rfl rfl (one_run (t := .nan) rfl rfl rfl (end_run rfl rfl)) l
theorem signed_run (l : List Nat) : okB (runT .signed l) = (decide (l = [105, 110, 102]) || numB l) := by
  cases l with
  | nil => rfl
  | cons c l =>
    by_cases h1 : c = 46
    · subst h1
      rw [run_c (stp_signed (c := 46)).2.1, dot_run, num_eq, ah_no (by decide), bh_no (by decide), pt_p, decide_eq_false (by intro z; cases z), Bool.false_or]
    · by_cases h2 : c = 105
      · subst h2
        rw [run_c (stp_signed (c := 105)).2.2.1, i_run, num_bad (by decide) (by decide), Bool.or_false]
        exact decide_eq_decide.mpr ⟨fun z => by rw [z], fun z => (List.cons.inj z).2⟩
      · cases h : dgB c with
        | true =>
          obtain ⟨_, _, _, n1, _⟩ := dg_ne h
          rw [run_c (stp_signed.1 h), whole_run, num_eq, ah_no n1, bh_no n1, pt_c h1, all_c, h, decide_eq_false (fun z => h2 (List.cons.inj z).1)]
          simp
        | false =>
          rw [run_n (stp_signed.2.2.2 h1 h2 h), num_bad h1 h, decide_eq_false (fun z => h2 (List.cons.inj z).1)]
          rfl
theorem stp_start {c : Nat} : (c = 43 ∨ c = 45 → stpT .start c = some .signed) ∧ stpT .start 110 = some .n ∧ (¬ (c = 43 ∨ c = 45) → c ≠ 110 → stpT .start c = stpT .signed c) := by
  refine ⟨fun h => by rcases h with rfl | rfl <;> decide, by decide, fun h1 h2 => ?_⟩
  cases h : dgB c with
  | true =>
    rw [stp_signed.1 h]
    have e : stpT .start c = if c ∈ [43, 45, 46] ++ digs ++ [105, 110] then some (if dgB c = true then Stg.whole else if c = 46 then .dot else if c = 43 ∨ c = 45 then .signed else if c = 101 then .e else if c = 110 then .n else .i) else none := rfl
    rw [e, if_pos (List.mem_append_left _ (List.mem_append_right _ (dg_mem.mpr h))), if_pos h]
  | false =>
    by_cases h3 : c = 46
    · subst h3
      decide
    · by_cases h4 : c = 105
      · subst h4
        decide
      · rw [stp_signed.2.2.2 h3 h4 h]
        unfold stpT
        rw [if_neg]
        intro z
        rcases List.mem_append.mp (show c ∈ [43, 45, 46] ++ digs ++ [105, 110] from z) with z | z
        · rcases List.mem_append.mp z with z | z
          · simp only [List.mem_cons, List.not_mem_nil, or_false] at z
            omega
          · rw [dg_mem.mp z] at h
            cases h
        · simp only [List.mem_cons, List.not_mem_nil, or_false] at z
          omega
theorem start_run (l : List Nat) : okB (runT .start l) = whB l := by
  cases l with
  | nil => rfl
  | cons c l =>
    unfold whB
    by_cases hs : c = 43 ∨ c = 45
    · rw [run_c (stp_start.1 hs), signed_run, show sgT (c :: l) = l by show (if c = 43 ∨ c = 45 then l else c :: l) = _; rw [if_pos hs], decide_eq_false (show ¬ c :: l = [110, 97, 110] from fun z => by have := (List.cons.inj z).1; omega), Bool.false_or]
    · rw [show sgT (c :: l) = c :: l by show (if c = 43 ∨ c = 45 then l else c :: l) = _; rw [if_neg hs]]
      by_cases hn : c = 110
      · subst hn
        rw [run_c (stp_start (c := 0)).2.1, n_run, num_bad (by decide) (by decide), decide_eq_false (show ¬ 110 :: l = [105, 110, 102] from fun z => by cases z), Bool.or_false, Bool.or_false]
        exact decide_eq_decide.mpr ⟨fun z => by rw [z], fun z => (List.cons.inj z).2⟩
      · have e : runT .start (c :: l) = runT .signed (c :: l) := by
          unfold runT
          rw [stp_start.2.2 hs hn]
        rw [e, signed_run, decide_eq_false (show ¬ c :: l = [110, 97, 110] from fun z => hn (List.cons.inj z).1), Bool.false_or]
def moreT : Stg → List Nat
  | .start => [48]
  | .signed => [48]
  | .n => [97, 110]
  | .na => [110]
  | .nan => []
  | .i => [110, 102]
  | .inn => [102]
  | .inf => []
  | .whole => []
  | .dot => [48]
  | .point => []
  | .e => [48]
  | .ep => [48]
  | _ => []
def mores : List (List Nat) := [[], [48], [97, 110], [110], [110, 102], [102]]
theorem more_ok : ∀ s : Stg, moreT s ∈ mores ∧ okB (runT s (moreT s)) = true := by
  intro s
  cases s <;> decide
def bgB (l : List Nat) : Bool := mores.any fun m => whB (l ++ m)
theorem bg_run (l : List Nat) : bgB l = (runT .start l).isSome := by
  unfold bgB
  cases h : runT .start l with
  | none =>
    rw [List.any_eq_false.mpr]
    · rfl
    · intro m _ z
      rw [← start_run, runT_app, h] at z
      cases z
  | some s =>
    rw [List.any_eq_true.mpr]
    · rfl
    · refine ⟨moreT s, (more_ok s).1, ?_⟩
      rw [← start_run, runT_app, h]
      exact (more_ok s).2
end DW
namespace DW
open PySem PySem.Spec PyProof.Rows L2
/-! ### x.partition(sign) -/
theorem ah_at {c : Nat} : ∀ {l : List Nat} {i : Nat}, l[i]? = some c → (∀ k, k < i → l[k]? ≠ some c) → ahT c l = l.take i ∧ bhT c l = some (l.drop (i + 1))
  | [], i, h, _ => by simp at h
  | x :: r, 0, h, _ => by
    have e : x = c := by simpa using h
    subst e
    exact ⟨ah_yes, bh_yes⟩
  | x :: r, i + 1, h, hn => by
    have h1 : x ≠ c := fun e => hn 0 (by omega) (by simp [e])
    have ih := ah_at (c := c) (l := r) (i := i) (by simpa using h) (fun j hj => by have := hn (j + 1) (by omega); simpa using this)
    rw [ah_no h1, bh_no h1, ih.1, ih.2]
    exact ⟨rfl, rfl⟩
theorem ah_none {c : Nat} : ∀ {l : List Nat}, c ∉ l → ahT c l = l ∧ bhT c l = none
  | [], _ => ⟨rfl, rfl⟩
  | x :: r, h => by
    have h1 : x ≠ c := fun e => h (e ▸ List.mem_cons_self ..)
    have ih := ah_none (c := c) (l := r) (fun m => h (List.mem_cons_of_mem _ m))
    rw [ah_no h1, bh_no h1, ih.1, ih.2]
    exact ⟨rfl, rfl⟩
theorem part_tx {c : Nat} {l : List Nat} : Txt.partition (tx l) (tx [c]) = (tx (ahT c l), tx (if (bhT c l).isSome = true then [c] else []), tx ((bhT c l).getD [])) := by
  rcases PyProof.Rows.partition_whole (tx l) (tx [c]) with ⟨h0, hn⟩ | ⟨i, h0, hi, hn⟩
  · rw [h0]
    have hf : c ∉ l := fun m => by
      obtain ⟨j, hj⟩ := List.getElem?_of_mem m
      exact hn j ((StrLaws.subAt_one (tx l) c j).mpr (by rw [tx_l]; exact hj))
    rw [(ah_none hf).1, (ah_none hf).2]
    rfl
  · rw [h0]
    have hm := (StrLaws.subAt_one (tx l) c i).mp hi
    rw [tx_l] at hm
    have hn' : ∀ k, k < i → l[k]? ≠ some c := fun k hk e => hn k hk ((StrLaws.subAt_one (tx l) c k).mpr (by rw [tx_l]; exact e))
    obtain ⟨a, b⟩ := ah_at hm hn'
    have hi2 := (List.getElem?_eq_some_iff.mp hm).1
    rw [a, b]
    refine Prod.ext ?_ (Prod.ext rfl ?_)
    · refine str_ext ?_
      rw [tx_l]
      show ((l.toArray).extract 0 i).toList = _
      simp
    · refine str_ext ?_
      rw [tx_l]
      show ((l.toArray).extract (i + 1) (tx l).length).toList = l.drop (i + 1)
      rw [tx_len]
      simp
      rw [List.take_of_length_le (by rw [List.length_drop]; omega)]
theorem o_partT {c : Nat} {l : List Nat} {S : Sto} : partD (tx l) (.str (tx [c])) S = .chk (l.length ≤ sizeLine) (.ok (.tup [.str (tx (ahT c l)), .str (tx (if (bhT c l).isSome = true then [c] else [])), .str (tx ((bhT c l).getD []))]) S) := by
  rw [o_part, part_tx, tx_len, tx_len]
  have e : ((([c] : List Nat).length == 0) = false ∧ l.length ≤ sizeLine) = (l.length ≤ sizeLine) := by
    rw [show (([c] : List Nat).length == 0) = false from rfl]
    simp
  rw [e]
theorem ah_len {c : Nat} : ∀ l : List Nat, (ahT c l).length ≤ l.length ∧ ((bhT c l).getD []).length ≤ l.length ∧ (ahT c l ++ (bhT c l).getD []).length ≤ l.length
  | [] => ⟨Nat.le_refl _, Nat.le_refl _, Nat.le_refl _⟩
  | x :: r => by
    have ih := ah_len (c := c) r
    by_cases h : x = c
    · subst h
      rw [ah_yes, bh_yes]
      refine ⟨by simp, by simp, by simp⟩
    · rw [ah_no h, bh_no h]
      simp only [List.length_cons, List.length_append] at ih ⊢
      omega
/-! ### the stages as texts -/
def stgS : Stg → Str
  | .start => "start" | .signed => "signed" | .n => "n" | .na => "na" | .nan => "nan" | .i => "i" | .inn => "in" | .inf => "inf"
  | .whole => "whole" | .dot => "dot" | .point => "point" | .e => "e" | .ep => "e+" | .e1 => "e1" | .e2 => "e2" | .e3 => "e3" | .e4 => "e4"
def folS : Stg → Str
  | .start => "+-.0123456789in" | .signed => ".0123456789i" | .n => "a" | .na => "n" | .nan => "" | .i => "n" | .inn => "f" | .inf => ""
  | .whole => ".0123456789e" | .dot => "0123456789" | .point => "0123456789e" | .e => "+-0123456789" | .ep => "0123456789"
  | .e1 => "0123456789" | .e2 => "0123456789" | .e3 => "0123456789" | .e4 => ""
theorem fol_tx (s : Stg) : (folS s).cps.toList = folT s := by
  cases s <;> decide +kernel
def stgD : Option Stg → D
  | some s => .str (stgS s)
  | none => .non
def allG : List Nat := [43, 45, 46] ++ digs ++ [97, 101, 102, 105, 110]
theorem allG_tx : Str.ofString "+-.0123456789aefin" = tx allG := tx_lit (by decide +kernel)
theorem dig_tx : (Str.ofString "0123456789").cps.toList = digs := by decide +kernel
theorem in_dig {c : Nat} {S : Sto} : inD (.str (tx [c])) (.str (Str.ofString "0123456789")) S = .ok (.bl (dgB c)) S := by
  rw [o_inDg, dig_tx]
  congr 2
  rw [Bool.eq_iff_iff, decide_eq_true_eq]
  exact dg_mem
theorem in_pm {c : Nat} {S : Sto} : inD (.str (tx [c])) (.str (Str.ofString "+-")) S = .ok (.bl (decide (c = 43 ∨ c = 45))) S := by
  rw [o_inDg, show (Str.ofString "+-").cps.toList = [43, 45] by decide +kernel]
  congr 2
  simp
theorem in_fol {c : Nat} {s : Stg} {S : Sto} : inD (.str (tx [c])) (.str (folS s)) S = .ok (.bl (decide (c ∈ folT s))) S := by
  rw [o_inDg, fol_tx]
/-! ### how many signs are let by -/
def letT : Stg → List Nat → Nat
  | _, [] => 0
  | s, c :: l => match stpT s c with
    | some t => letT t l + 1
    | none => 0
theorem let_some {s t : Stg} {c : Nat} {l : List Nat} (h : stpT s c = some t) : letT s (c :: l) = letT t l + 1 := by
  conv => lhs; unfold letT
  rw [h]
theorem let_none {s : Stg} {c : Nat} {l : List Nat} (h : stpT s c = none) : letT s (c :: l) = 0 := by
  conv => lhs; unfold letT
  rw [h]
theorem let_le : ∀ (l : List Nat) (s : Stg), letT s l ≤ l.length
  | [], s => Nat.le_refl _
  | c :: l, s => by
    cases h : stpT s c with
    | some t =>
      rw [let_some h, List.length_cons]
      have := let_le l t
      omega
    | none =>
      rw [let_none h]
      omega
theorem run_take : ∀ (l : List Nat) (s : Stg) (k : Nat), k ≤ l.length → (runT s (l.take k)).isSome = decide (k ≤ letT s l)
  | l, s, 0, _ => by
    rw [List.take_zero, decide_eq_true (Nat.zero_le _)]
    rfl
  | [], s, k + 1, h => absurd h (by simp)
  | c :: l, s, k + 1, h => by
    rw [List.take_succ_cons]
    cases e : stpT s c with
    | some t =>
      rw [run_c e, let_some e, run_take l t k (by simpa using h)]
      exact decide_eq_decide.mpr (by omega)
    | none =>
      rw [run_n e, let_none e, decide_eq_false (by omega)]
      rfl
theorem let_all {l : List Nat} {s : Stg} : letT s l = l.length ↔ (runT s l).isSome = true := by
  have := run_take l s l.length (Nat.le_refl _)
  rw [List.take_length] at this
  rw [this, decide_eq_true_eq]
  have := let_le l s
  omega
theorem let_app {l m : List Nat} {s t : Stg} (h : runT s l = some t) : letT s (l ++ m) = l.length + letT t m := by
  induction l generalizing s with
  | nil =>
    cases h
    simp
  | cons c l ih =>
    cases e : stpT s c with
    | some u =>
      rw [run_c e] at h
      rw [List.cons_append, let_some e, ih h, List.length_cons]
      omega
    | none =>
      rw [run_n e] at h
      cases h
/-! ### a comprehension that leaves some out -/
theorem compL_filt {α : Type} {src : Sto → Prop} {p : Pt} {vs : List Nat} {tt : FT} {fe : FE} {δ : Dl} {items : List D} {Q : List D → Sto → Prop} {E : Xc → Sto → Prop} {S : Sto} (as : List α) (g : α → D) (f : α → D) (c : α → Bool) (hs : src S) (hl : as.length ≤ 1000000)
    (st : ∀ a ∈ as, ∃ δ', p.d (g a) (wipeD δ vs) = some δ' ∧ wp (tt δ' S) (fun b S' => S' = S ∧ b = c a) (fun _ _ => False) ∧ wp (fe δ' S) (fun y S' => S' = S ∧ y = f a) (fun _ _ => False)) (q : Q ((as.filter c).map f) S) (e : items = as.map g := by rfl) : wp (compL src p vs tt fe δ items [] S) Q E := by
  rw [e]
  refine compL_inv _ (fun i acc S' => S' = S ∧ acc = ((as.take i).filter c).map f) ⟨rfl, by simp⟩ ?_ ?_
  · rintro i d acc S' hd ⟨rfl, rfl⟩
    rw [List.getElem?_map] at hd
    cases e : as[i]? with
    | none =>
      rw [e] at hd
      cases hd
    | some a =>
      rw [e] at hd
      cases hd
      have hi := (List.getElem?_eq_some_iff.mp e).1
      obtain ⟨δ', h1, h2, h3⟩ := st a (List.mem_of_getElem? e)
      refine ⟨hs, δ', h1, wp_mono h2 (fun b S2 z => ?_) fun _ _ z => z⟩
      obtain ⟨rfl, rfl⟩ := z
      have et : as.take (i + 1) = as.take i ++ [a] := by rw [List.take_succ, e]; rfl
      have ll : (((as.take i).filter c).map f).length ≤ 1000000 := by
        rw [List.length_map]
        refine Nat.le_trans (List.length_filter_le _ _) ?_
        rw [List.length_take]
        omega
      by_cases hc : c a = true
      · rw [if_pos hc]
        refine wp_mono h3 (fun y S3 z => ?_) fun _ _ z => z
        obtain ⟨rfl, rfl⟩ := z
        refine ⟨Nat.lt_of_le_of_lt ll (by decide), rfl, ?_⟩
        rw [et, List.filter_append, List.map_append]
        simp [hc]
      · rw [if_neg hc]
        refine ⟨rfl, ?_⟩
        rw [et, List.filter_append, List.map_append]
        simp [hc]
  · rintro acc S' ⟨rfl, rfl⟩
    rw [List.length_map, List.take_length]
    exact ⟨hs, q⟩
/-! ### a feed in the store -/
def fdKs : List Str := ["to_shape", "by_way", "all_pieces"]
def fdF (sh : D) (p : Nat) : List D := [sh, .str "nearest", .ref p]
def fdO (sh : D) (p : Nat) : Ob := .ins "Feed" fdKs (fdF sh p)
section
variable {S : Sto} {a p : Nat} {sh : D} {m : FM} {n k : Nat} {src : List SrcD} {r z : Sto → R (List D)} {Q : D → Sto → Prop} {E : Xc → Sto → Prop}
theorem fd_flds (h : S[a]? = some (fdO sh p)) : (D.ref a).fields S "Feed" = some (fdKs, fdF sh p) := by
  unfold D.fields
  dsimp only
  rw [h]
  rfl
theorem fd_me (h : S[a]? = some (fdO sh p)) {mn : Str} (hm : mn ∉ fdKs := by decide) : wq (meR "Feed" mn m n src r (.ref a) S) Q E .a = wq (r S) (fun vs S => wq (R.chk (vs.length = n) (m (srcD (.ref a :: vs) [] src) S)) Q E .a) E .a := me_any (fd_flds h) hm
theorem fd_pcs (h : S[a]? = some (fdO sh p)) : fldD "Feed" "all_pieces" (.ref a) S = .ok (.ref p) S := by
  unfold fldD
  rw [fd_flds h]
  rfl
def txsD (ps : List (List Nat)) : List D := ps.map fun l => .str (tx l)
theorem txs_len {ps : List (List Nat)} : (txsD ps).length = ps.length := by unfold txsD; rw [List.length_map]
theorem txs_app {ps : List (List Nat)} {l : List Nat} : txsD ps ++ [.str (tx l)] = txsD (ps ++ [l]) := by unfold txsD; rw [List.map_append]; rfl
theorem allS_txs : ∀ ps : List (List Nat), allS (txsD ps) = some (ps.map tx)
  | [] => rfl
  | l :: ps => by
    show (allS (txsD ps)).map (tx l :: ·) = _
    rw [allS_txs ps]
    rfl
theorem join_txs : ∀ ps : List (List Nat), Txt.join (Str.ofString "") (ps.map tx) = tx ps.flatten := by
  intro ps
  refine str_ext ?_
  rw [tx_l, join_l, List.map_map]
  congr 1
  have : (fun u : List Nat => (tx u).cps.toList) = id := by
    funext u
    exact tx_l u
  show List.map (fun u : List Nat => (tx u).cps.toList) ps = ps
  rw [this, List.map_id]
theorem join_at {ps : List (List Nat)} (h : S[p]? = some (.lst (txsD ps))) : joinD (Str.ofString "") (.ref p) S = .chk (ps.flatten.length ≤ 16777216) (.ok (.str (tx ps.flatten)) S) := by
  unfold joinD
  rw [at_seq h]
  dsimp only
  rw [allS_txs]
  dsimp only
  rw [join_txs]
  have e : (((ps.map tx).map (·.length)).sum + (ps.map tx).length * (Str.ofString "").length) = ps.flatten.length := by
    rw [show (Str.ofString "").length = 0 by decide +kernel, Nat.mul_zero, Nat.add_zero, List.map_map]
    clear h
    induction ps with
    | nil => rfl
    | cons c l ih =>
      rw [List.map_cons, List.sum_cons, ih]
      show (tx c).length + _ = _
      rw [tx_len, List.flatten_cons, List.length_append]
  rw [e]
end
/-! ### signs below 128 -/
def asc (l : List Nat) : Bool := l.all fun c => decide (c < 128)
theorem asc_app {a b : List Nat} : asc (a ++ b) = (asc a && asc b) := List.all_append
theorem asc_mem {l : List Nat} (h : asc l = true) {c : Nat} (hc : c ∈ l) : c < 128 := of_decide_eq_true (List.all_eq_true.mp h c hc)
theorem asc_of {l : List Nat} (h : ∀ c ∈ l, c < 128) : asc l = true := List.all_eq_true.mpr fun c hc => decide_eq_true (h c hc)
theorem asc_sub {l m : List Nat} (h : asc l = true) (s : ∀ c ∈ m, c ∈ l) : asc m = true := asc_of fun c hc => asc_mem h (s c hc)
theorem asc_take {l : List Nat} {k : Nat} (h : asc l = true) : asc (l.take k) = true := asc_sub h fun c hc => List.mem_of_mem_take hc
theorem asc_drop {l : List Nat} {k : Nat} (h : asc l = true) : asc (l.drop k) = true := asc_sub h fun c hc => List.mem_of_mem_drop hc
theorem strOk_tx {l : List Nat} (h : asc l = true) : PyData.strOk (tx l) = true := by
  unfold PyData.strOk
  show l.toArray.all _ = true
  rw [List.all_toArray, List.all_eq_true]
  intro c hc
  have := asc_mem h hc
  simp only [Bool.and_eq_true, Bool.or_eq_true, Bool.not_eq_true', decide_eq_true_eq, decide_eq_false_iff_not]
  omega
theorem eq_lnil {l : List D} {S : Sto} (h : okAll 59 l = true) : eqD (.lst l) (.lst []) S = .ok (.bl l.isEmpty) S := by
  rw [o_eqL h rfl]
  cases l with
  | nil => rw [q_nn]; rfl
  | cons x l => rw [q_cn]; rfl
theorem ok_txs {n : Nat} : ∀ ps : List (List Nat), (∀ l ∈ ps, asc l = true) → okAll n (txsD ps) = true
  | [], _ => rfl
  | l :: ps, h => by
    unfold txsD
    rw [List.map_cons]
    unfold okAll okD
    rw [strOk_tx (h l (List.mem_cons_self ..)), Bool.true_and]
    exact ok_txs ps fun m hm => h m (List.mem_cons_of_mem _ hm)
theorem in_2l {u a b : Str} {S : Sto} : inD (.str u) (.lst [.str a, .str b]) S = .ok (.bl (decide (u = a ∨ u = b))) S := by
  have := o_inTS (u := u) (ss := [a, b]) (S := S)
  have e : inD (.str u) (.lst [.str a, .str b]) S = inD (.str u) (.tup [.str a, .str b]) S := rfl
  rw [e]
  simpa using this
theorem sg_cut {l : List Nat} : (if tx (l.take 1) = Str.ofString "+" ∨ tx (l.take 1) = Str.ofString "-" then tx (l.drop 1) else tx l) = tx (sgT l) := by
  rw [lit_p, lit_m]
  cases l with
  | nil => rfl
  | cons c r =>
    show (if tx [c] = tx [43] ∨ tx [c] = tx [45] then tx r else tx (c :: r)) = tx (if c = 43 ∨ c = 45 then r else c :: r)
    by_cases h : c = 43 ∨ c = 45
    · rw [if_pos h, if_pos (h.imp (fun e => by rw [e]) (fun e => by rw [e]))]
    · rw [if_neg h, if_neg (fun z => h (z.imp (fun e => (List.cons.inj (tx_inj.mp e)).1) (fun e => (List.cons.inj (tx_inj.mp e)).1)))]
theorem sg_len (l : List Nat) : (sgT l).length ≤ l.length := by
  cases l with
  | nil => exact Nat.le_refl _
  | cons c r =>
    show (if c = 43 ∨ c = 45 then r else c :: r).length ≤ _
    split <;> simp
theorem sg_mem {l : List Nat} : ∀ c ∈ sgT l, c ∈ l := by
  cases l with
  | nil => exact fun c h => h
  | cons c r =>
    intro x hx
    have hx : x ∈ (if c = 43 ∨ c = 45 then r else c :: r) := hx
    split at hx
    · exact List.mem_cons_of_mem _ hx
    · exact hx
theorem ah_mem {x : Nat} : ∀ {l : List Nat}, (∀ c ∈ ahT x l, c ∈ l) ∧ (∀ c ∈ (bhT x l).getD [], c ∈ l)
  | [] => ⟨fun c h => h, fun c h => h⟩
  | y :: r => by
    have ih := ah_mem (x := x) (l := r)
    by_cases h : y = x
    · subst h
      rw [ah_yes, bh_yes]
      exact ⟨fun c h => (by cases h), fun c h => List.mem_cons_of_mem _ h⟩
    · rw [ah_no h, bh_no h]
      refine ⟨fun c hc => ?_, fun c hc => List.mem_cons_of_mem _ (ih.2 c hc)⟩
      rcases List.mem_cons.mp hc with rfl | hc
      · exact List.mem_cons_self ..
      · exact List.mem_cons_of_mem _ (ih.1 c hc)
theorem ix_txt {u : Str} {r : Int} {S : Sto} (hu : asc u.cps.toList = true ∧ u.length ≤ 100000) (h0 : 0 ≤ r) (h1 : r < u.length) : ∃ c : Nat, c ∈ u.cps.toList ∧ asc [c] = true ∧ ixD (D.str u) (D.int r) S = .ok (.str (tx [c])) S := by
  obtain ⟨n, rfl⟩ := Int.eq_ofNat_of_zero_le h0
  have hl : u.length = u.cps.toList.length := by
    have := tx_len u.cps.toList
    rw [tx_of] at this
    exact this
  have hn : n < u.cps.toList.length := by omega
  obtain ⟨c, hc⟩ := get_lt hn
  have hm := List.mem_of_getElem? hc
  refine ⟨c, hm, asc_of fun x hx => by rw [List.mem_singleton.mp hx]; exact asc_mem hu.1 hm, ?_⟩
  have := o_ixTx (S := S) hc (by omega)
  rw [tx_of] at this
  exact this
theorem at_fewA {ss : List Str} {r : Int} {n : Nat} (hn : ∀ u ∈ ss, u.length ≤ n ∧ asc u.cps.toList = true) (h0 : 0 ≤ r) (h1 : r < ss.length) : ∃ l : List Nat, l.length ≤ n ∧ asc l = true ∧ atI (ss.map D.str) r = some (.str (tx l)) := by
  obtain ⟨x, hx, e⟩ := atI_any (l := ss.map D.str) h0 (by rw [List.length_map]; exact h1)
  obtain ⟨u, hu, rfl⟩ := List.mem_map.mp hx
  refine ⟨u.cps.toList, ?_, (hn u hu).2, by rw [e, tx_of]⟩
  have := (hn u hu).1
  rw [← tx_of u, tx_len] at this
  exact this
theorem ix_fewA {ss : List Str} {r : Int} {n : Nat} {S : Sto} (hn : ∀ u ∈ ss, u.length ≤ n ∧ asc u.cps.toList = true) (h0 : 0 ≤ r) (h1 : r < ss.length) : ∃ l : List Nat, l.length ≤ n ∧ asc l = true ∧ ixD (D.lst (ss.map D.str)) (D.int r) S = .ok (.str (tx l)) S := by
  obtain ⟨x, hx, e⟩ := atI_any (l := ss.map D.str) h0 (by rw [List.length_map]; exact h1)
  obtain ⟨u, hu, rfl⟩ := List.mem_map.mp hx
  refine ⟨u.cps.toList, ?_, (hn u hu).2, by rw [o_ixL, e, tx_of]; rfl⟩
  have := (hn u hu).1
  rw [← tx_of u, tx_len] at this
  exact this
end DW
namespace DW
open PySem PySem.Spec PyProof.Rows L2 LamX
local macro_rules | `(tactic| walk_at "vc") => `(tactic| try simp only [o_fn, wp_fin, v_var0, v_varS, v_c, v_seq, v_set, v_expr, v_ret, v_retN, v_next, v_bad, v_if, v_par, v_par2, v_par3, v_par33, v_aug, v_aug2, v_toN, wpS_toN, v_mk, num_form, num_side, num_bits, num_scale, num_state, top_fput, v_asg, v_put, v_fput, v_for, v_e2, v_e1, v_eA, v_fA, v_aN, v_aC, v_call, v_me, v_frz, v_mut, v_ifE, v_and, v_or, v_andB, v_orB, v_chain, v_tst, v_asB, v_tand, v_tor, v_tnot, v_yes, v_not, v_comp, v_seqI, v_seqL, v_seqT, v_seqC, v_rng1, v_rng2, v_rng1i, v_rng2i, v_enum, v_enumC, v_enumL, v_gnm, v_gtp, v_gsN, v_gsC, v_ptN, v_pN, v_pC, v_pairS, v_pairI, v_dict, v_dict0, v_dictF0, shD_ix0, shD_ix1, shD_ix2, tup_ix0, tup_ix1, tup_ix2, tup_ix3, gTup_sh, o_addI, o_addS, o_addT, o_iaddI, o_op, o_opC, o_neg, o_opt, o_ixL, o_ixT, o_ixC, o_tup, o_lst, o_abs, o_max, o_min, o_divmod, o_intI, o_intB, o_lenL, o_lenT, o_lenC, o_eqI, o_eqS, o_eqB, o_ne, o_isN, o_isNI, o_isNS, o_isNT, o_notN, o_notNI, o_isB, o_notB, o_bits, o_src0, o_srcp, o_srck, o_srcd,
  wpS_seq, wpS_go, wpS_nx, wpS_rt, wpS_bad, wpS_chk, wp_bind, wp_ok, wp_bad, wp_chk, wp_noX, wp_ite, wpS_ite, wipeD,
  List.map_cons, List.map_nil, List.length_cons, List.length_nil, List.replicate_succ, List.replicate_zero, Nat.reduceAdd, Nat.reduceSub, Nat.reduceMul, List.cons_append, List.nil_append, List.set_cons_zero, List.set_cons_succ, List.getD_cons_zero, List.getD_cons_succ, Nat.reduceEqDiff, Nat.reduceLeDiff, sizeLine_eq, and_true, true_and, and_self, if_true, if_false, ite_true, ite_false, Bool.false_eq_true, Bool.not_true, Bool.not_false, decide_true, decide_false, reduceIte, decide_eq_true_eq, Bool.not_eq_true', Bool.not_eq_true, decide_eq_false_iff_not, CPow, Int.reducePow, Int.reduceToNat, Int.reduceLE, Int.reduceLT, Int.reduceAbs, Nat.reducePow, Nat.reduceLT, Int.reduceNeg, not_false_eq_true, ne_eq, reduceCtorEq])
local macro_rules | `(tactic| walk_at "vd") => `(tactic| try simp only [o_fn, wp_fin, v_var0, v_varS, v_c, v_seq, v_set, v_expr, v_ret, v_retN, v_next, v_bad, v_if, v_par, v_par2, v_par3, v_par33, v_aug, v_aug2, v_toN, wpS_toN, v_mk, num_form, num_side, num_bits, num_scale, num_state, top_fput, v_asg, v_put, v_fput, v_for, v_e2, v_e1, v_eA, v_fA, v_aN, v_aC, v_call, v_me, v_frz, v_mut, v_ifE, v_and, v_or, v_andB, v_orB, v_chain, v_tst, v_asB, v_tand, v_tor, v_tnot, v_yes, v_not, v_comp, v_seqI, v_seqL, v_seqT, v_seqC, v_rng1, v_rng2, v_rng1i, v_rng2i, v_enum, v_enumC, v_enumL, v_gnm, v_gtp, v_gsN, v_gsC, v_ptN, v_pN, v_pC, v_pairS, v_pairI, v_dict, v_dict0, v_dictF0, shD_ix0, shD_ix1, shD_ix2, tup_ix0, tup_ix1, tup_ix2, tup_ix3, gTup_sh, o_addI, o_addS, o_addT, o_iaddI, o_op, o_opC, o_neg, o_opt, o_ixL, o_ixT, o_ixC, o_tup, o_lst, o_abs, o_max, o_min, o_divmod, o_intI, o_intB, o_lenL, o_lenT, o_lenC, o_eqI, o_eqS, o_eqB, o_ne, o_isN, o_isNI, o_isNS, o_isNT, o_notN, o_notNI, o_isB, o_notB, o_bits, o_src0, o_srcp, o_srck, o_srcd,
  wpS_seq, wpS_go, wpS_nx, wpS_rt, wpS_bad, wpS_chk, wp_bind, wp_ok, wp_bad, wp_chk, wp_noX, wp_ite, wpS_ite, wipeD,
  List.map_cons, List.map_nil, List.length_cons, List.length_nil, List.replicate_succ, List.replicate_zero, Nat.reduceAdd, Nat.reduceSub, Nat.reduceMul, List.cons_append, List.nil_append, List.set_cons_zero, List.set_cons_succ, List.getD_cons_zero, List.getD_cons_succ, Nat.reduceEqDiff, Nat.reduceLeDiff, sizeLine_eq, and_true, true_and, and_self, if_true, if_false, ite_true, ite_false, Bool.false_eq_true, Bool.not_true, Bool.not_false, decide_true, decide_false, reduceIte, decide_eq_true_eq, Bool.not_eq_true', Bool.not_eq_true, decide_eq_false_iff_not, CPow, Int.reduceToNat, Int.reduceLE, Int.reduceLT, Int.reduceAbs, Nat.reducePow, Nat.reduceLT, Int.reduceNeg, not_false_eq_true, ne_eq, reduceCtorEq,
  v_slice, v_oS, v_oN, v_oI, o_slice1n, o_eqSh, o_eqT, o_eqL, q_nn, q_nc, q_cn, q_cc, q_int, q_str, q_bl, q_non, q_tup, q_lst, q_is, q_si, q_in, q_ni, k_nil, k_cons, k_int, k_bl, k_non, k_str, k_tup, k_lst, k_ints, q_ints, q_strs, o_inTS, isi_num, in_2, in_3, o_notIn, isi_i, isi_b, isi_t, isi_s, isi_l, isi_bi, isi_numI, o_neI, o_eqIn, o_boolR, gTup_pair, Bool.and_true, Bool.true_and, ok_iteI, at0, at_1, at_2, at_3, at_4, at_5, Int.reduceEq, mx0, Int.toNat_natCast, Int.toNat_zero, Int.neg_zero, Int.reduceSub, Int.reduceGT, gt_iff_lt, ge_iff_le, Int.zero_sub])
local macro_rules | `(tactic| walk_at "ve") => `(tactic| try simp only [o_fn, wp_fin, v_var0, v_varS, v_c, v_seq, v_set, v_expr, v_ret, v_retN, v_next, v_bad, v_if, v_par, v_par2, v_par3, v_par33, v_aug, v_aug2, v_toN, wpS_toN, v_mk, num_form, num_side, num_bits, num_scale, num_state, top_fput, v_asg, v_put, v_fput, v_for, v_e2, v_e1, v_eA, v_fA, v_aN, v_aC, v_call, v_me, v_frz, v_mut, v_ifE, v_and, v_or, v_andB, v_orB, v_chain, v_tst, v_asB, v_tand, v_tor, v_tnot, v_yes, v_not, v_comp, v_seqI, v_seqL, v_seqT, v_seqC, v_rng1, v_rng2, v_rng1i, v_rng2i, v_enum, v_enumC, v_enumL, v_gnm, v_gtp, v_gsN, v_gsC, v_ptN, v_pN, v_pC, v_pairS, v_pairI, v_dict, v_dict0, v_dictF0, shD_ix0, shD_ix1, shD_ix2, tup_ix0, tup_ix1, tup_ix2, tup_ix3, gTup_sh, o_addI, o_addS, o_addT, o_iaddI, o_op, o_opC, o_neg, o_opt, o_ixL, o_ixT, o_ixC, o_tup, o_lst, o_abs, o_max, o_min, o_divmod, o_intI, o_intB, o_lenL, o_lenT, o_lenC, o_eqI, o_eqS, o_eqB, o_ne, o_isN, o_isNI, o_isNS, o_isNT, o_notN, o_notNI, o_isB, o_notB, o_bits, o_src0, o_srcp, o_srck, o_srcd,
  wpS_seq, wpS_go, wpS_nx, wpS_rt, wpS_bad, wpS_chk, wp_bind, wp_ok, wp_bad, wp_chk, wp_noX, wp_ite, wpS_ite, wipeD,
  List.map_cons, List.map_nil, List.length_cons, List.length_nil, List.replicate_succ, List.replicate_zero, Nat.reduceAdd, Nat.reduceSub, Nat.reduceMul, List.cons_append, List.nil_append, List.set_cons_zero, List.set_cons_succ, List.getD_cons_zero, List.getD_cons_succ, Nat.reduceEqDiff, Nat.reduceLeDiff, sizeLine_eq, and_true, true_and, and_self, if_true, if_false, ite_true, ite_false, Bool.false_eq_true, Bool.not_true, Bool.not_false, decide_true, decide_false, reduceIte, decide_eq_true_eq, Bool.not_eq_true', Bool.not_eq_true, decide_eq_false_iff_not, CPow, Int.reduceToNat, Int.reduceLE, Int.reduceLT, Int.reduceAbs, Nat.reducePow, Nat.reduceLT, Int.reduceNeg, not_false_eq_true, ne_eq, reduceCtorEq,
  v_slice, v_oS, v_oN, v_oI, o_slice1n, o_eqSh, o_eqT, o_eqL, q_nn, q_nc, q_cn, q_cc, q_int, q_str, q_bl, q_non, q_tup, q_lst, q_is, q_si, q_in, q_ni, k_nil, k_cons, k_int, k_bl, k_non, k_str, k_tup, k_lst, k_ints, q_ints, q_strs, o_inTS, isi_num, in_2, in_3, o_notIn, isi_i, isi_b, isi_t, isi_s, isi_l, isi_bi, isi_numI, o_neI, o_eqIn, o_boolR, gTup_pair, Bool.and_true, Bool.true_and, ok_iteI, at0, at_1, at_2, at_3, at_4, at_5, Int.reduceEq, mx0, Int.toNat_natCast, Int.toNat_zero, Int.neg_zero, Int.reduceSub, Int.reduceGT, gt_iff_lt, ge_iff_le, Int.zero_sub, v_zip, v_zipL, s_lst, s_tup, s_scr, s_rlst, s_rscr, v_lm, lm_top, app_top, v_rep, v_repL, v_cat, v_catL, o_all, o_all_n, o_all_c, zipped, wpS_goT])
local macro_rules | `(tactic| walk_at "x") => `(tactic| try simp only [wq_of, qs_of, ↓c_e2, ↓c_e1, ↓c_eA, ↓c_fA, ↓c_aC, ↓c_call, ↓c_me, ↓c_frz, ↓c_mut, ↓c_ifE, ↓c_tst, ↓c_tand, ↓c_tor, ↓c_tnot, ↓c_comp, ↓c_seqI, ↓c_rng1, ↓c_rng2, ↓c_enum, ↓c_zip, ↓c_mk, ↓c_slice, ↓c_oS, ↓c_rep, ↓c_cat, ↓c_lm, ↓c_set, ↓c_expr, ↓c_ret, ↓c_if, ↓c_par, ↓c_par3, ↓c_asg, ↓c_put, ↓c_fput, ↓c_for, ↓c_and, ↓c_or, ↓c_chain, ↓c_alt, ↓c_aug, ↓c_seq, ↓c_next, ↓c_retN, ↓c_bad, ↓q_fn, ↓q_bind, ↓q_chk, ↓q_ite, ↓q_noX, ↓qs_go, ↓qs_seq, ↓qs_chk, ↓qs_ite, ↓qs_toN, ↓qs_goT, q_ok, q_ex, q_bad, qs_nx, qs_rt, qs_ex, qs_bad, l_c, l_aN, l_yes, l_oN, l_d0, l_dF, o_ne, bind_ok,
  v_var0, v_varS, v_par2, v_par33, v_aug2, dec_amount, dec_shift, dec_side, isi_dec, o_strW, o_lenS, num_form, num_side, num_bits, num_scale, num_state, top_fput, v_andB, v_orB, v_asB, v_not, v_seqL, v_seqT, v_seqC, v_rng1i, v_rng2i, v_enumC, v_enumL, v_gnm, v_gtp, v_gsN, v_gsC, v_ptN, v_pN, v_pC, v_pairS, v_pairI, v_dict, shD_ix0, shD_ix1, shD_ix2, tup_ix0, tup_ix1, tup_ix2, tup_ix3, gTup_sh, o_addI, o_addS, o_addT, o_iaddI, o_op, o_opC, o_neg, o_opt, o_ixL, o_ixT, o_ixC, o_tup, o_lst, o_abs, o_max, o_min, o_divmod, o_intI, o_intB, o_lenL, o_lenT, o_lenC, o_eqI, o_eqS, o_eqB, o_isN, o_isNI, o_isNS, o_isNT, o_notN, o_notNI, o_isB, o_notB, o_bits, o_src0, o_srcp, o_srck, o_srcd, wipeD, List.map_cons, List.map_nil, List.length_cons, List.length_nil, List.replicate_succ, List.replicate_zero, Nat.reduceAdd, Nat.reduceSub, Nat.reduceMul, List.cons_append, List.nil_append, List.set_cons_zero, List.set_cons_succ, List.getD_cons_zero, List.getD_cons_succ, Nat.reduceEqDiff, Nat.reduceLeDiff, sizeLine_eq, and_true, true_and, and_self, if_true, if_false, ite_true, ite_false, Bool.false_eq_true, Bool.not_true, Bool.not_false, decide_true, decide_false, reduceIte, decide_eq_true_eq, Bool.not_eq_true', Bool.not_eq_true, decide_eq_false_iff_not, CPow, Int.reduceToNat, Int.reduceLE, Int.reduceLT, Int.reduceAbs, Nat.reducePow, Nat.reduceLT, Int.reduceNeg, not_false_eq_true, ne_eq, reduceCtorEq, v_oI, o_slice1n, o_eqSh, o_eqT, o_eqL, q_nn, q_nc, q_cn, q_cc, q_int, q_str, q_bl, q_non, q_tup, q_lst, q_is, q_si, q_in, q_ni, k_nil, k_cons, k_int, k_bl, k_non, k_str, k_tup, k_lst, k_ints, q_ints, q_strs, o_inTS, isi_num, in_2, in_3, o_notIn, isi_i, isi_b, isi_t, isi_s, isi_l, isi_bi, isi_numI, o_neI, o_eqIn, o_boolR, gTup_pair, Bool.and_true, Bool.true_and, at0, at_1, at_2, at_3, at_4, at_5, Int.reduceEq, mx0, Int.toNat_natCast, Int.toNat_zero, Int.neg_zero, Int.reduceSub, Int.reduceGT, gt_iff_lt, ge_iff_le, Int.zero_sub, v_zipL, s_lst, s_tup, s_scr, s_rlst, s_rscr, lm_top, app_top, v_repL, v_catL, o_all, o_all_n, o_all_c, zipped])
local macro_rules | `(tactic| walk_at "y") => `(tactic| try simp only [wq_of, qs_of, ↓c_e2, ↓c_e1, ↓c_eA, ↓c_fA, ↓c_aC, ↓c_call, ↓c_me, ↓c_frz, ↓c_mut, ↓c_ifE, ↓c_tst, ↓c_tand, ↓c_tor, ↓c_tnot, ↓c_comp, ↓c_seqI, ↓c_rng1, ↓c_rng2, ↓c_enum, ↓c_zip, ↓c_mk, ↓c_slice, ↓c_oS, ↓c_rep, ↓c_cat, ↓c_lm, ↓c_set, ↓c_expr, ↓c_ret, ↓c_if, ↓c_par, ↓c_par3, ↓c_asg, ↓c_put, ↓c_fput, ↓c_for, ↓c_and, ↓c_or, ↓c_chain, ↓c_alt, ↓c_aug, ↓c_seq, ↓c_next, ↓c_retN, ↓c_bad, ↓q_fn, ↓q_bind, ↓q_chk, ↓q_ite, ↓q_noX, ↓qs_go, ↓qs_seq, ↓qs_chk, ↓qs_ite, ↓qs_toN, ↓qs_goT, q_ok, q_ex, q_bad, qs_nx, qs_rt, qs_ex, qs_bad, l_c, l_aN, l_yes, l_oN, l_d0, l_dF, o_ne, bind_ok,
  v_var0, v_varS, v_par2, v_par33, v_aug2, dec_amount, dec_shift, dec_side, isi_dec, o_strW, o_lenS, num_form, num_side, num_bits, num_scale, num_state, top_fput, v_andB, v_orB, v_asB, v_not, v_seqL, v_seqT, v_seqC, v_rng1i, v_rng2i, v_enumC, v_enumL, v_gnm, v_gtp, v_gsN, v_gsC, v_ptN, v_pN, v_pC, v_pairS, v_pairI, v_dict, shD_ix0, shD_ix1, shD_ix2, tup_ix0, tup_ix1, tup_ix2, tup_ix3, gTup_sh, o_addI, o_addS, o_addT, o_iaddI, o_op, o_opC, o_neg, o_opt, o_ixL, o_ixT, o_ixC, o_tup, o_lst, o_abs, o_max, o_min, o_divmod, o_intI, o_intB, o_lenL, o_lenT, o_lenC, o_eqI, o_eqS, o_eqB, o_isN, o_isNI, o_isNS, o_isNT, o_notN, o_notNI, o_isB, o_notB, o_bits, o_src0, o_srcp, o_srck, o_srcd, wipeD, List.map_cons, List.map_nil, List.length_cons, List.length_nil, List.replicate_succ, List.replicate_zero, Nat.reduceAdd, Nat.reduceSub, Nat.reduceMul, List.cons_append, List.nil_append, List.set_cons_zero, List.set_cons_succ, List.getD_cons_zero, List.getD_cons_succ, Nat.reduceEqDiff, Nat.reduceLeDiff, sizeLine_eq, and_true, true_and, and_self, if_true, if_false, ite_true, ite_false, Bool.false_eq_true, Bool.not_true, Bool.not_false, decide_true, decide_false, reduceIte, decide_eq_true_eq, Bool.not_eq_true', Bool.not_eq_true, decide_eq_false_iff_not, CPow, Int.reduceToNat, Int.reduceLE, Int.reduceLT, Int.reduceAbs, Nat.reducePow, Nat.reduceLT, Int.reduceNeg, not_false_eq_true, ne_eq, reduceCtorEq, v_oI, o_slice1n, o_eqSh, o_eqT, o_eqL, q_nn, q_nc, q_cn, q_cc, q_int, q_str, q_bl, q_non, q_tup, q_lst, q_is, q_si, q_in, q_ni, k_nil, k_cons, k_int, k_bl, k_non, k_str, k_tup, k_lst, k_ints, q_ints, q_strs, o_inTS, isi_num, in_2, in_3, o_notIn, isi_i, isi_b, isi_t, isi_s, isi_l, isi_bi, isi_numI, o_neI, o_eqIn, o_boolR, gTup_pair, Bool.and_true, Bool.true_and, at0, at_1, at_2, at_3, at_4, at_5, Int.reduceEq, mx0, Int.toNat_natCast, Int.toNat_zero, Int.neg_zero, Int.reduceSub, Int.reduceGT, gt_iff_lt, ge_iff_le, Int.zero_sub, v_zipL, s_lst, s_tup, s_scr, s_rlst, s_rscr, lm_top, app_top, v_repL, v_catL, o_all, o_all_n, o_all_c, zipped, ↓c_meK, ↓c_faug, isC_v, isV_nn, isV_nd, isV_dd, isV_dn, ↓meN_shape, ↓meN_sign, ↓meN_kind, ↓meN_need_finite, ↓meN_parts, ↓meN_value, ↓meN_rank, ↓meN_word, ↓meN_stepped, ↓meN_up, ↓meN_down, ↓meN_negated, ↓meD_digits, ↓meD_tens, ↓meD_sign, ↓meD_value, ↓meD_plain, lm_r2, lm_r3, lm_r4, app_r2, app_r3, app_r4, ix_r2, ix_r3, ix_r4, ds_app, ds_len, ↓c_js, c_js0, o_jsA, o_fmtS, o_fmtI, o_ownSN, o_ownSD, o_ownLD, o_strOnly, o_lenOnly, ↓c_S1, o_s1A, o_join2, o_join4, lims_ix0, lims_ix1, lims_ix2, fr_ix0, fr_ix1, gTup_fr, o_slice1L, ↓c_told, ↓c_raise, o_xf, ix_BadValue_BadValue, ix_BadValue_BadText, ix_BadValue_NotFinite, ix_BadValue_NoPaper, ix_BadValue_CantBe, ix_BadValue_NoRow, ix_BadValue_ValueError, ix_BadValue_ArithmeticError, ix_BadValue_IndexError, ix_BadValue_RuntimeError, ix_BadText_BadValue, ix_BadText_BadText, ix_BadText_NotFinite, ix_BadText_NoPaper, ix_BadText_CantBe, ix_BadText_NoRow, ix_BadText_ValueError, ix_BadText_ArithmeticError, ix_BadText_IndexError, ix_BadText_RuntimeError, ix_NotFinite_BadValue, ix_NotFinite_BadText, ix_NotFinite_NotFinite, ix_NotFinite_NoPaper, ix_NotFinite_CantBe, ix_NotFinite_NoRow, ix_NotFinite_ValueError, ix_NotFinite_ArithmeticError, ix_NotFinite_IndexError, ix_NotFinite_RuntimeError, ix_NoPaper_BadValue, ix_NoPaper_BadText, ix_NoPaper_NotFinite, ix_NoPaper_NoPaper, ix_NoPaper_CantBe, ix_NoPaper_NoRow, ix_NoPaper_ValueError, ix_NoPaper_ArithmeticError, ix_NoPaper_IndexError, ix_NoPaper_RuntimeError, ix_CantBe_BadValue, ix_CantBe_BadText, ix_CantBe_NotFinite, ix_CantBe_NoPaper, ix_CantBe_CantBe, ix_CantBe_NoRow, ix_CantBe_ValueError, ix_CantBe_ArithmeticError, ix_CantBe_IndexError, ix_CantBe_RuntimeError, ix_NoRow_BadValue, ix_NoRow_BadText, ix_NoRow_NotFinite, ix_NoRow_NoPaper, ix_NoRow_CantBe, ix_NoRow_NoRow, ix_NoRow_ValueError, ix_NoRow_ArithmeticError, ix_NoRow_IndexError, ix_NoRow_RuntimeError, ↓c_asg2, o_asg2, kg_0, kg_pw])
local macro_rules | `(tactic| walk_at "z") => `(tactic| try simp only [wq_of, qs_of, ↓c_e2, ↓c_e1, ↓c_eA, ↓c_fA, ↓c_aC, ↓c_call, ↓c_me, ↓c_frz, ↓c_mut, ↓c_ifE, ↓c_tst, ↓c_tand, ↓c_tor, ↓c_tnot, ↓c_comp, ↓c_seqI, ↓c_rng1, ↓c_rng2, ↓c_enum, ↓c_zip, ↓c_mk, ↓c_slice, ↓c_oS, ↓c_rep, ↓c_cat, ↓c_lm, ↓c_set, ↓c_expr, ↓c_ret, ↓c_if, ↓c_par, ↓c_par3, ↓c_asg, ↓c_put, ↓c_fput, ↓c_for, ↓c_and, ↓c_or, ↓c_chain, ↓c_alt, ↓c_aug, ↓c_seq, ↓c_next, ↓c_retN, ↓c_bad, ↓q_fn, ↓q_bind, ↓q_chk, ↓q_ite, ↓q_noX, ↓qs_go, ↓qs_seq, ↓qs_chk, ↓qs_ite, ↓qs_toN, ↓qs_goT, q_ok, q_ex, q_bad, qs_nx, qs_rt, qs_ex, qs_bad, l_c, l_aN, l_yes, l_oN, l_d0, l_dF, o_ne, bind_ok,
  v_var0, v_varS, v_par2, v_par33, v_aug2, dec_amount, dec_shift, dec_side, isi_dec, o_strW, o_lenS, num_form, num_side, num_bits, num_scale, num_state, top_fput, v_andB, v_orB, v_asB, v_not, v_seqL, v_seqT, v_seqC, v_rng1i, v_rng2i, v_enumC, v_enumL, v_gnm, v_gtp, v_gsN, v_gsC, v_ptN, v_pN, v_pC, v_pairS, v_pairI, v_dict, shD_ix0, shD_ix1, shD_ix2, tup_ix0, tup_ix1, tup_ix2, tup_ix3, gTup_sh, o_addI, o_addS, o_addT, o_iaddI, o_op, o_opC, o_neg, o_opt, o_ixL, o_ixT, o_ixC, o_tup, o_lst, o_abs, o_max, o_min, o_divmod, o_intI, o_intB, o_lenL, o_lenT, o_lenC, o_eqI, o_eqS, o_eqB, o_isN, o_isNI, o_isNS, o_isNT, o_notN, o_notNI, o_isB, o_notB, o_bits, o_src0, o_srcp, o_srck, o_srcd, wipeD, List.map_cons, List.map_nil, List.length_cons, List.length_nil, List.replicate_succ, List.replicate_zero, Nat.reduceAdd, Nat.reduceSub, Nat.reduceMul, List.cons_append, List.nil_append, List.set_cons_zero, List.set_cons_succ, List.getD_cons_zero, List.getD_cons_succ, Nat.reduceEqDiff, Nat.reduceLeDiff, sizeLine_eq, and_true, true_and, and_self, if_true, if_false, ite_true, ite_false, Bool.false_eq_true, Bool.not_true, Bool.not_false, decide_true, decide_false, reduceIte, decide_eq_true_eq, Bool.not_eq_true', Bool.not_eq_true, decide_eq_false_iff_not, CPow, Int.reduceToNat, Int.reduceLE, Int.reduceLT, Int.reduceAbs, Nat.reducePow, Nat.reduceLT, Int.reduceNeg, not_false_eq_true, ne_eq, reduceCtorEq, v_oI, o_slice1n, o_eqSh, o_eqT, o_eqL, q_nn, q_nc, q_cn, q_cc, q_int, q_str, q_bl, q_non, q_tup, q_lst, q_is, q_si, q_in, q_ni, k_nil, k_cons, k_int, k_bl, k_non, k_str, k_tup, k_lst, k_ints, q_ints, q_strs, o_inTS, isi_num, in_2, in_3, o_notIn, isi_i, isi_b, isi_t, isi_s, isi_l, isi_bi, isi_numI, o_neI, o_eqIn, o_boolR, gTup_pair, Bool.and_true, Bool.true_and, at0, at_1, at_2, at_3, at_4, at_5, Int.reduceEq, mx0, Int.toNat_natCast, Int.toNat_zero, Int.neg_zero, Int.reduceSub, Int.reduceGT, gt_iff_lt, ge_iff_le, Int.zero_sub, v_zipL, s_lst, s_tup, s_scr, s_rlst, s_rscr, lm_top, app_top, v_repL, v_catL, o_all, o_all_n, o_all_c, zipped, ↓c_meK, ↓c_faug, isC_v, isV_nn, isV_nd, isV_dd, isV_dn, ↓meN_shape, ↓meN_sign, ↓meN_kind, ↓meN_need_finite, ↓meN_parts, ↓meN_value, ↓meN_rank, ↓meN_word, ↓meN_stepped, ↓meN_up, ↓meN_down, ↓meN_negated, ↓meD_digits, ↓meD_tens, ↓meD_sign, ↓meD_value, ↓meD_plain, lm_r2, lm_r3, lm_r4, app_r2, app_r3, app_r4, ix_r2, ix_r3, ix_r4, ds_app, ds_len, ↓c_js, c_js0, o_jsA, o_fmtS, o_fmtI, o_ownSN, o_ownSD, o_ownLD, o_strOnly, o_lenOnly, ↓c_S1, o_s1A, o_join2, o_join4, lims_ix0, lims_ix1, lims_ix2, fr_ix0, fr_ix1, gTup_fr, o_slice1L, ↓c_told, ↓c_raise, o_xf, ix_BadValue_BadValue, ix_BadValue_BadText, ix_BadValue_NotFinite, ix_BadValue_NoPaper, ix_BadValue_CantBe, ix_BadValue_NoRow, ix_BadValue_ValueError, ix_BadValue_ArithmeticError, ix_BadValue_IndexError, ix_BadValue_RuntimeError, ix_BadText_BadValue, ix_BadText_BadText, ix_BadText_NotFinite, ix_BadText_NoPaper, ix_BadText_CantBe, ix_BadText_NoRow, ix_BadText_ValueError, ix_BadText_ArithmeticError, ix_BadText_IndexError, ix_BadText_RuntimeError, ix_NotFinite_BadValue, ix_NotFinite_BadText, ix_NotFinite_NotFinite, ix_NotFinite_NoPaper, ix_NotFinite_CantBe, ix_NotFinite_NoRow, ix_NotFinite_ValueError, ix_NotFinite_ArithmeticError, ix_NotFinite_IndexError, ix_NotFinite_RuntimeError, ix_NoPaper_BadValue, ix_NoPaper_BadText, ix_NoPaper_NotFinite, ix_NoPaper_NoPaper, ix_NoPaper_CantBe, ix_NoPaper_NoRow, ix_NoPaper_ValueError, ix_NoPaper_ArithmeticError, ix_NoPaper_IndexError, ix_NoPaper_RuntimeError, ix_CantBe_BadValue, ix_CantBe_BadText, ix_CantBe_NotFinite, ix_CantBe_NoPaper, ix_CantBe_CantBe, ix_CantBe_NoRow, ix_CantBe_ValueError, ix_CantBe_ArithmeticError, ix_CantBe_IndexError, ix_CantBe_RuntimeError, ix_NoRow_BadValue, ix_NoRow_BadText, ix_NoRow_NotFinite, ix_NoRow_NoPaper, ix_NoRow_CantBe, ix_NoRow_NoRow, ix_NoRow_ValueError, ix_NoRow_ArithmeticError, ix_NoRow_IndexError, ix_NoRow_RuntimeError, ↓c_asg2, o_asg2, kg_0, kg_pw, strOk_of, ofS_inj, String.reduceEq, o_repS, o_repT, kn_non, kn_bl, kn_int, kn_str, kn_tup, kn_lst, kn_num, kn_dec, pl_fin, pl_inf, pl_nan, st_inf, st_fin, st_nan, sh_inf, sh_fin, sh_nan, sd_inf, sd_fin, sd_nan, bt_inf, bt_fin, bt_nan, scl_inf, scl_fin, scl_nan, pl_ix0, pl_ix1, pl_ix2, k_sh, q_sh, ↓c_gat, cat_r2, sh_list, sh_sl2, sh_sl1, sh_add, en_r4, o_intWi, o_intWb, ↓c_SM, o_smA, o_zfill, o_ljust, o_rstrip, sc_text, sc_at, sc_put, ↓scM_ahead, ↓scM_took, ↓scM_word, ↓scM_over, ↓scM_figs, ↓scK_figs, o_slS, o_in1S, o_rev, isi_lT, isi_tL, isi_tS, isi_sD, c_dictF, o_notNT, catL_top, gB_tup, gB_lst, ↓c_chain3, ↓c_sliceA, o_sliceTA, c_odd, ci_walk, ci_stop, ci_ups, ci_upg, ci_dns, ci_dng, ci_near, ci_room, ci_pups, ci_pupg, ci_pdns, ci_pdng, ci_pnear, ci_proom, ↓ciM_second, ↓ciM_over, ↓ciM_up, ↓ciM_down, cf_ups, cf_upg, cf_dns, cf_dng, cf_near, cf_room, wk_ix0, wk_ix1, wk_ix2, gTup_wk, stD_n, stD_s, eq_nI, eq_In, eq_nn, o_min3, ↓c_zipT, o_zipT, eq_st, ↓c_part])
def U_BEHIND_E : List (Str × Option Str) := [("e", some "e1"), ("e+", some "e1"), ("e1", some "e2"), ("e2", some "e3"), ("e3", some "e4"), ("start", none), ("signed", none), ("n", none), ("na", none), ("nan", none), ("i", none), ("in", none), ("inf", none), ("whole", none), ("dot", none), ("point", none), ("e4", none)]
def U_FOLLOWING : List (Str × Option Str) := [("e", some "+-0123456789"), ("e+", some "0123456789"), ("e1", some "0123456789"), ("e2", some "0123456789"), ("e3", some "0123456789"), ("start", some "+-.0123456789in"), ("signed", some ".0123456789i"), ("n", some "a"), ("na", some "n"), ("nan", some ""), ("i", some "n"), ("in", some "f"), ("inf", some ""), ("whole", some ".0123456789e"), ("dot", some "0123456789"), ("point", some "0123456789e"), ("e4", some "")]
noncomputable def f__law_folded : FS :=
    (sSeq (sSet 1 (eMut (fComp (iRange1 (aCons (eC (.int 64)) aNil)) (.nm 2) [2] tYesD (e2 addD (eC (.int 17)) (eVar 2)))))
    (sSeq (sFor (iEnumD (aCons (eVar 0) aNil)) (gTupD 2 (gsCons (gNm 2) (gsCons (gNm 3) gsNil)))
    (sPut lputD (eVar 1) (e2 modD (eVar 2) (eC (.int 64))) (e2 modD (e2 addD (e2 mulD (e2 ixD (eVar 1) (e2 modD (eVar 2) (eC (.int 64)))) (eC (.int 48271))) (eVar 3)) (eC (.int 2147483647)))))
    (sSeq (sFor (iRange2 (aCons (eC (.int 1)) (aCons (eC (.int 64)) aNil))) (gNm 2)
    (sPut lputD (eVar 1) (eVar 2) (e2 modD (e2 addD (e2 ixD (eVar 1) (eVar 2)) (e2 mulD (e2 ixD (eVar 1) (e2 subD (eVar 2) (eC (.int 1)))) (eC (.int 16807)))) (eC (.int 2147483647)))))
    (sRet (eVar 1)))))
noncomputable def m__law_folded : FM := fnT (fnD 4 f__law_folded)
noncomputable def f__law_begun : FS :=
    (sSeq (sSet 1 (eDictM (pCons (eC (.str "cells")) (eCall m__law_folded 1 0 [.p 0] (aCons (eVar 0) aNil) aNil) (pCons (eC (.str "left")) (eFrz (fA lstF aNil)) (pCons (eC (.str "spot")) (eC (.int 0)) pNil)))))
    (sSeq (sPut dputD (eVar 1) (eC (.str "left")) (eMut (fComp (iSeq (eVar 0)) (.nm 2) [2] tYesD (eIf (tst (e2 geD (eVar 2) (e2 powD (eC (.int 10)) (eC (.int 18))))) (eVar 2) (eC (.int 0))))))
    (sRet (eVar 1))))
noncomputable def m__law_begun : FM := fnD 3 f__law_begun
noncomputable def f__law_deep : FS :=
    (sSeq (sAsg (eA tupD (aCons (eA tupD aNil) (aCons (eA tupD aNil) aNil))) (gTupD 2 (gsCons (gNm 0) (gsCons (gNm 1) gsNil))))
    (sSeq (sFor (iRange1 (aCons (eC (.int 2000)) aNil)) (gNm 2)
    (sSet 0 (eA tupD (aCons (eVar 0) aNil))))
    (sSeq (sFor (iRange1 (aCons (eC (.int 50)) aNil)) (gNm 2)
    (sSet 1 (eA tupD (aCons (eVar 1) (aCons (eVar 1) aNil)))))
    (sRet (eFrz (fA lstF (aCons (eVar 0) (aCons (eVar 1) aNil))))))))
noncomputable def m__law_deep : FM := fnD 3 f__law_deep
noncomputable def f_stage_behind : FS :=
    (sSeq (sIf (tst (e1 (kinD U_BEHIND_E) (eVar 0)))
    (sRet (eIf (tst (e2 inD (eVar 1) (eC (.str "0123456789")))) (e1 (kixD U_BEHIND_E) (eVar 0)) (eC (.str "e+"))))
    sNext)
    (sSeq (sIf (tst (e2 inD (eVar 1) (eC (.str "0123456789"))))
    (sRet (eIf (tst (e2 inD (eVar 0) (eA tupD (aCons (eC (.str "dot")) (aCons (eC (.str "point")) aNil))))) (eC (.str "point")) (eC (.str "whole"))))
    sNext)
    (sSeq (sIf (tst (e2 eqD (eVar 1) (eC (.str "."))))
    (sRet (eIf (tst (e2 eqD (eVar 0) (eC (.str "whole")))) (eC (.str "point")) (eC (.str "dot"))))
    sNext)
    (sSeq (sIf (tst (e2 inD (eVar 1) (eC (.str "+-"))))
    (sRet (eC (.str "signed")))
    sNext)
    (sSeq (sIf (tst (e2 eqD (eVar 1) (eC (.str "e"))))
    (sRet (eC (.str "e")))
    sNext)
    (sRet (eIf (tst (e2 inD (eVar 0) (eA tupD (aCons (eC (.str "start")) (aCons (eC (.str "signed")) aNil))))) (eVar 1) (e2 addD (eVar 0) (eVar 1)))))))))
noncomputable def m_stage_behind : FM := fnD 2 f_stage_behind
noncomputable def f_stage_of : FS :=
    (sSeq (sSet 1 (eC (.str "start")))
    (sSeq (sFor (iSeq (eVar 0)) (gNm 2)
    (sSeq (sIf (tst (e2 notInD (eVar 2) (e1 (kixD U_FOLLOWING) (eVar 1))))
    (sRet (eC .non))
    sNext)
    (sSet 1 (eCall m_stage_behind 2 0 [.p 0, .p 1] (aCons (eVar 1) (aCons (eVar 2) aNil)) aNil))))
    (sRet (eVar 1))))
noncomputable def m_stage_of : FM := fnD 3 f_stage_of
noncomputable def f_follows : FS :=
    (sSeq (sSet 1 (eIf (tst (eA isiD (aCons (eVar 0) (aCons (eC (.ty "str")) aNil)))) (eCall m_stage_of 1 0 [.p 0] (aCons (eVar 0) aNil) aNil) (eC .non)))
    (sRet (eIf (tst (e2 isNV (eVar 1) (eC .non))) (eC (.str "")) (eS1 joinD (eC (.str "")) (eFrz (fComp (iSeq (eC (.str "+-.0123456789aefin"))) (.nm 2) [2] (tst (e2 inD (eVar 2) (e1 (kixD U_FOLLOWING) (eVar 1)))) (eVar 2)))))))
noncomputable def m_follows : FM := fnD 3 f_follows
noncomputable def f__law_mixed : FS :=
    (sSeq (sSet 2 (e2 addD (e2 addD (e2 modD (e2 mulD (e2 mulD (eVar 0) (e2 addD (eC (.int 1)) (e2 mulD (eC (.int 2)) (eVar 1)))) (eC (.int 48271))) (eC (.int 2147483647))) (e2 mulD (e2 mulD (eC (.int 7919)) (eVar 1)) (eVar 1))) (e2 mulD (eC (.int 104729)) (eVar 1))))
    (sRet (e2 fdivD (e2 modD (e2 mulD (eVar 2) (eC (.int 69621))) (eC (.int 2147483629))) (eC (.int 7)))))
noncomputable def m__law_mixed : FM := fnD 3 f__law_mixed
noncomputable def f__law_draw : FS :=
    (sSeq (sSet 2 (e2 dixD (eVar 0) (eC (.str "spot"))))
    (sSeq (sPut dputD (eVar 0) (eC (.str "spot")) (e2 addD (eVar 2) (eC (.int 1))))
    (sSeq (sIf (tst (e2 neD (e2 dixD (eVar 0) (eC (.str "left"))) (eFrz (fA lstF aNil))))
    (sSeq (sSet 3 (e2 modD (eVar 2) (eA lenD (aCons (e2 dixD (eVar 0) (eC (.str "left"))) aNil))))
    (sSeq (sSet 4 (e2 ixD (e2 dixD (eVar 0) (eC (.str "left"))) (eVar 3)))
    (sIf (tst (e2 gtD (eVar 4) (eC (.int 0))))
    (sSeq (sPut lputD (e2 dixD (eVar 0) (eC (.str "left"))) (eVar 3) (e2 fdivD (eVar 4) (eVar 1)))
    (sRet (e2 modD (eVar 4) (eVar 1))))
    sNext)))
    sNext)
    (sRet (e2 modD (eCall m__law_mixed 2 0 [.p 0, .p 1] (aCons (eCall m__law_mixed 2 0 [.p 0, .p 1] (aCons (e2 addD (e2 ixD (e2 dixD (eVar 0) (eC (.str "cells"))) (e2 modD (eVar 2) (eC (.int 64)))) (e2 mulD (eC (.int 31)) (e2 fdivD (eVar 2) (eC (.int 64))))) (aCons (eVar 2) aNil)) aNil) (aCons (e2 addD (eVar 2) (eC (.int 7))) aNil)) aNil) (eVar 1))))))
noncomputable def m__law_draw : FM := fnD 5 f__law_draw
noncomputable def f__law_long_right : FS :=
    (sSeq (sSet 1 (e2 ixD (eC (.str "0123456789")) (eCall m__law_draw 2 0 [.p 0, .p 1] (aCons (eVar 0) (aCons (eC (.int 10)) aNil)) aNil)))
    (sSeq (sSet 2 (e2 repSD (eVar 1) (e2 ixD (eFrz (fA lstF (aCons (eC (.int 1898)) (aCons (eC (.int 1899)) (aCons (eC (.int 1900)) (aCons (eC (.int 1901)) (aCons (e2 addD (eC (.int 2500)) (eCall m__law_draw 2 0 [.p 0, .p 1] (aCons (eVar 0) (aCons (eC (.int 99)) aNil)) aNil)) aNil))))))) (eCall m__law_draw 2 0 [.p 0, .p 1] (aCons (eVar 0) (aCons (eC (.int 5)) aNil)) aNil))))
    (sSeq (sIf (tOrD (tst (e2 neD (eCall m_follows 1 0 [.p 0] (aCons (eVar 2) aNil) aNil) (eC (.str ".0123456789e")))) (tst (e2 neD (eCall m_follows 1 0 [.p 0] (aCons (e2 addD (e2 addD (eC (.str "-")) (eVar 2)) (eC (.str "."))) aNil) aNil) (eC (.str "0123456789e")))))
    (sRet (eC (.bl false)))
    sNext)
    (sRet (eAnd (e2 eqD (eCall m_follows 1 0 [.p 0] (aCons (e2 addD (eC (.str ".")) (eVar 2)) aNil) aNil) (eC (.str "0123456789e"))) (e2 eqD (eCall m_follows 1 0 [.p 0] (aCons (e2 addD (e2 addD (eC (.str "+")) (eVar 2)) (eC (.str "e"))) aNil) aNil) (eC (.str "+-0123456789"))))))))
noncomputable def m__law_long_right : FM := fnD 3 f__law_long_right
noncomputable def f__law_figures : FS :=
    (sSeq (sPar 2 3 (aCons (eCall m__law_draw 2 0 [.p 0, .p 1] (aCons (eVar 0) (aCons (eC (.int 4)) aNil)) aNil) (aCons (eC (.str "")) aNil)))
    (sSeq (sFor (iRange1 (aCons (eVar 1) aNil)) (gNm 4)
    (sSet 3 (e2 addD (eVar 3) (e2 ixD (eFrz (fA lstF (aCons (eC (.str "0")) (aCons (eC (.str "9")) (aCons (e2 ixD (eC (.str "0123456789")) (eCall m__law_draw 2 0 [.p 0, .p 1] (aCons (eVar 0) (aCons (eC (.int 10)) aNil)) aNil)) (aCons (e2 ixD (eC (.str "0000000005")) (eCall m__law_draw 2 0 [.p 0, .p 1] (aCons (eVar 0) (aCons (eC (.int 10)) aNil)) aNil)) aNil)))))) (eVar 2)))))
    (sRet (eVar 3))))
noncomputable def m__law_figures : FM := fnD 5 f__law_figures
noncomputable def f__law_any_text : FS :=
    (sSeq (sPar 1 2 (aCons (e2 ixD (eFrz (fA lstF (aCons (eC (.str "")) (aCons (eC (.str "-")) (aCons (eC (.str "+")) aNil))))) (eCall m__law_draw 2 0 [.p 0, .p 1] (aCons (eVar 0) (aCons (eC (.int 3)) aNil)) aNil)) (aCons (eCall m__law_draw 2 0 [.p 0, .p 1] (aCons (eVar 0) (aCons (eC (.int 9)) aNil)) aNil) aNil)))
    (sSeq (sIf (tst (e2 eqD (eVar 2) (eC (.int 0))))
    (sRet (e2 ixD (eFrz (fA lstF (aCons (eC (.str "nan")) (aCons (e2 addD (eVar 1) (eC (.str "inf"))) aNil)))) (eCall m__law_draw 2 0 [.p 0, .p 1] (aCons (eVar 0) (aCons (eC (.int 2)) aNil)) aNil)))
    sNext)
    (sSeq (sSet 3 (eCall m__law_figures 2 0 [.p 0, .p 1] (aCons (eVar 0) (aCons (e2 ixD (eFrz (fA lstF (aCons (eC (.int 0)) (aCons (eC (.int 1)) (aCons (eC (.int 3)) (aCons (eC (.int 9)) (aCons (eC (.int 20)) aNil))))))) (eCall m__law_draw 2 0 [.p 0, .p 1] (aCons (eVar 0) (aCons (eC (.int 5)) aNil)) aNil)) aNil)) aNil))
    (sSeq (sSet 4 (eCall m__law_figures 2 0 [.p 0, .p 1] (aCons (eVar 0) (aCons (e2 ixD (eFrz (fA lstF (aCons (eC (.int 0)) (aCons (eC (.int 0)) (aCons (eC (.int 1)) (aCons (eC (.int 5)) (aCons (eC (.int 30)) aNil))))))) (eCall m__law_draw 2 0 [.p 0, .p 1] (aCons (eVar 0) (aCons (eC (.int 5)) aNil)) aNil)) aNil)) aNil))
    (sSeq (sSet 5 (e2 addD (eVar 1) (eIf (tst (e2 neD (e2 addD (eVar 3) (eVar 4)) (eC (.str "")))) (eVar 3) (eC (.str "0")))))
    (sSeq (sIf (tOrD (tst (e2 neD (eVar 4) (eC (.str "")))) (tst (e2 eqD (eCall m__law_draw 2 0 [.p 0, .p 1] (aCons (eVar 0) (aCons (eC (.int 4)) aNil)) aNil) (eC (.int 0)))))
    (sSet 5 (e2 addD (e2 addD (eVar 5) (eC (.str "."))) (eVar 4)))
    sNext)
    (sSeq (sIf (tst (e2 ltD (eVar 2) (eC (.int 5))))
    (sSet 5 (e2 addD (e2 addD (e2 addD (eVar 5) (eC (.str "e"))) (e2 ixD (eFrz (fA lstF (aCons (eC (.str "")) (aCons (eC (.str "-")) (aCons (eC (.str "+")) aNil))))) (eCall m__law_draw 2 0 [.p 0, .p 1] (aCons (eVar 0) (aCons (eC (.int 3)) aNil)) aNil))) (eCall m__law_figures 2 0 [.p 0, .p 1] (aCons (eVar 0) (aCons (e2 addD (eC (.int 1)) (eCall m__law_draw 2 0 [.p 0, .p 1] (aCons (eVar 0) (aCons (eC (.int 4)) aNil)) aNil)) aNil)) aNil)))
    sNext)
    (sRet (eVar 5)))))))))
noncomputable def m__law_any_text : FM := fnD 6 f__law_any_text
noncomputable def f__law_spoilt : FS :=
    (sSeq (sPar 2 3 (aCons (eCall m__law_draw 2 0 [.p 0, .p 1] (aCons (eVar 0) (aCons (e2 addD (eA lenD (aCons (eVar 1) aNil)) (eC (.int 1))) aNil)) aNil) (aCons (eCall m__law_draw 2 0 [.p 0, .p 1] (aCons (eVar 0) (aCons (eC (.int 4)) aNil)) aNil) aNil)))
    (sSeq (sSet 4 (e2 ixD (eC (.str "+-.0123456789aefin Eg")) (eCall m__law_draw 2 0 [.p 0, .p 1] (aCons (eVar 0) (aCons (eC (.int 21)) aNil)) aNil)))
    (sSeq (sIf (tst (e2 eqD (eVar 3) (eC (.int 0))))
    (sRet (e2 addD (e2 addD (eSlice (eVar 1) oNone (oSome (eVar 2))) (eVar 4)) (eSlice (eVar 1) (oSome (eVar 2)) oNone)))
    sNext)
    (sSeq (sIf (tst (e2 eqD (eVar 3) (eC (.int 1))))
    (sRet (e2 addD (eSlice (eVar 1) oNone (oSome (eVar 2))) (eSlice (eVar 1) (oSome (e2 addD (eVar 2) (eC (.int 1)))) oNone)))
    sNext)
    (sSeq (sIf (tst (e2 eqD (eVar 3) (eC (.int 2))))
    (sRet (e2 addD (e2 addD (eSlice (eVar 1) oNone (oSome (eVar 2))) (eVar 4)) (eSlice (eVar 1) (oSome (e2 addD (eVar 2) (eC (.int 1)))) oNone)))
    sNext)
    (sRet (e2 addD (eSlice (eVar 1) (oSome (eVar 2)) oNone) (eSlice (eVar 1) oNone (oSome (eVar 2))))))))))
noncomputable def m__law_spoilt : FM := fnD 5 f__law_spoilt
noncomputable def f__law_all_figures : FS :=
    (sRet (e2 eqD (eFrz (fComp (iSeq (eVar 0)) (.nm 1) [1] (tst (e2 notInD (eVar 1) (eC (.str "0123456789")))) (eVar 1))) (eFrz (fA lstF aNil))))
noncomputable def m__law_all_figures : FM := fnD 2 f__law_all_figures
noncomputable def f__law_is_whole_text : FS :=
    (sSeq (sSet 1 (eIf (tst (e2 inD (eSlice (eVar 0) oNone (oSome (eC (.int 1)))) (eFrz (fA lstF (aCons (eC (.str "+")) (aCons (eC (.str "-")) aNil)))))) (eSlice (eVar 0) (oSome (eC (.int 1))) oNone) (eVar 0)))
    (sSeq (sIf (tOrD (tst (e2 eqD (eVar 0) (eC (.str "nan")))) (tst (e2 eqD (eVar 1) (eC (.str "inf")))))
    (sRet (eC (.bl true)))
    sNext)
    (sSeq (sAsg (ePart (eVar 1) (eC (.str "e"))) (gTupD 3 (gsCons (gNm 2) (gsCons (gNm 3) (gsCons (gNm 4) gsNil)))))
    (sSeq (sIf (tst (e2 eqD (eVar 3) (eC (.str "e"))))
    (sSeq (sSet 5 (eIf (tst (e2 inD (eSlice (eVar 4) oNone (oSome (eC (.int 1)))) (eFrz (fA lstF (aCons (eC (.str "+")) (aCons (eC (.str "-")) aNil)))))) (eSlice (eVar 4) (oSome (eC (.int 1))) oNone) (eVar 4)))
    (sIf (tOrD (tNotD (tst (eChain leD leD (eC (.int 1)) (eA lenD (aCons (eVar 5) aNil)) (eC (.int 4))))) (tNotD (tst (eCall m__law_all_figures 1 0 [.p 0] (aCons (eVar 5) aNil) aNil))))
    (sRet (eC (.bl false)))
    sNext))
    sNext)
    (sSeq (sAsg (ePart (eVar 2) (eC (.str "."))) (gTupD 3 (gsCons (gNm 6) (gsCons (gNm 7) (gsCons (gNm 8) gsNil)))))
    (sRet (eAnd (e2 neD (e2 addD (eVar 6) (eVar 8)) (eC (.str ""))) (eCall m__law_all_figures 1 0 [.p 0] (aCons (e2 addD (eVar 6) (eVar 8)) aNil) aNil))))))))
noncomputable def m__law_is_whole_text : FM := fnD 9 f__law_is_whole_text
noncomputable def f__law_begins : FS :=
    (sRet (e2 neD (eFrz (fComp (iSeq (eFrz (fA lstF (aCons (eC (.str "")) (aCons (eC (.str "0")) (aCons (eC (.str "an")) (aCons (eC (.str "n")) (aCons (eC (.str "nf")) (aCons (eC (.str "f")) aNil))))))))) (.nm 1) [1] (tst (eCall m__law_is_whole_text 1 0 [.p 0] (aCons (e2 addD (eVar 0) (eVar 1)) aNil) aNil)) (eVar 1))) (eFrz (fA lstF aNil))))
noncomputable def m__law_begins : FM := fnD 2 f__law_begins
noncomputable def f__law_signs_due : FS :=
    (sSeq (sIf (tOrD (tNotD (tst (eA isiD (aCons (eVar 0) (aCons (eC (.ty "str")) aNil))))) (tNotD (tst (eCall m__law_begins 1 0 [.p 0] (aCons (eVar 0) aNil) aNil))))
    (sRet (eC (.str "")))
    sNext)
    (sRet (eS1 joinD (eC (.str "")) (eFrz (fComp (iSeq (eC (.str "+-.0123456789aefin"))) (.nm 1) [1] (tst (eCall m__law_begins 1 0 [.p 0] (aCons (e2 addD (eVar 0) (eVar 1)) aNil) aNil)) (eVar 1))))))
noncomputable def m__law_signs_due : FM := fnD 2 f__law_signs_due
noncomputable def f__law_let_by : FS :=
    (sSeq (sSet 1 (eC (.int 0)))
    (sSeq (sWhile (tAndD (tst (e2 ltD (eVar 1) (eA lenD (aCons (eVar 0) aNil)))) (tst (eCall m__law_begins 1 0 [.p 0] (aCons (eSlice (eVar 0) oNone (oSome (e2 addD (eVar 1) (eC (.int 1))))) aNil) aNil)))
    (sSet 1 (e2 addD (eVar 1) (eC (.int 1)))))
    (sRet (eVar 1))))
noncomputable def m__law_let_by : FM := fnD 2 f__law_let_by
noncomputable def f_is_whole : FS :=
    (sRet (eAnd (eA isiD (aCons (eVar 0) (aCons (eC (.ty "int")) aNil))) (eAnd (e1 notR (eA isiD (aCons (eVar 0) (aCons (eC (.ty "bool")) aNil)))) (eChain leD leD (eVar 1) (eVar 0) (eVar 2)))))
noncomputable def m_is_whole : FM := fnD 3 f_is_whole
noncomputable def f_is_shape : FS :=
    (sSeq (sIf (tOrD (tNotD (tst (eA isiD (aCons (eVar 0) (aCons (eC (.ty "tuple")) aNil))))) (tOrD (tst (e2 neD (eA lenD (aCons (eVar 0) aNil)) (eC (.int 3)))) (tNotD (tst (eCall m_is_whole 3 0 [.p 0, .p 1, .p 2] (aCons (e2 ixD (eVar 0) (eC (.int 0))) (aCons (eC (.int 2)) (aCons (eC (.int (64))) aNil))) aNil)))))
    (sRet (eC (.bl false)))
    sNext)
    (sRet (eAnd (eCall m_is_whole 3 0 [.p 0, .p 1, .p 2] (aCons (e2 ixD (eVar 0) (eC (.int 1))) (aCons (eC (.int (-1100))) (aCons (eC (.int 0)) aNil))) aNil) (eCall m_is_whole 3 0 [.p 0, .p 1, .p 2] (aCons (e2 ixD (eVar 0) (eC (.int 2))) (aCons (e2 ixD (eVar 0) (eC (.int 1))) (aCons (eC (.int (1000))) aNil))) aNil))))
noncomputable def m_is_shape : FM := fnD 1 f_is_shape
noncomputable def f_is_way : FS :=
    (sRet (eAnd (eA isiD (aCons (eVar 0) (aCons (eC (.ty "str")) aNil))) (e2 inD (eVar 0) (eA tupD (aCons (eC (.str "nearest")) (aCons (eC (.str "away")) (aCons (eC (.str "zero")) (aCons (eC (.str "up")) (aCons (eC (.str "down")) aNil)))))))))
noncomputable def m_is_way : FM := fnD 1 f_is_way
noncomputable def f_need_ways : FS :=
    (sSeq (sIf (tNotD (tst (eCall m_is_shape 1 0 [.p 0] (aCons (eVar 0) aNil) aNil)))
    (sRaise "BadValue" ["what"] gd1 (eC (.str "shape")))
    sNext)
    (sIf (tNotD (tst (eCall m_is_way 1 0 [.p 0] (aCons (eVar 1) aNil) aNil)))
    (sRaise "BadValue" ["what"] gd1 (eC (.str "way")))
    sNext))
noncomputable def m_need_ways : FM := fnD 2 f_need_ways
noncomputable def f_Feed___init__ : FS :=
    (sSeq (sExpr (eCall m_need_ways 2 0 [.p 0, .p 1] (aCons (eVar 1) (aCons (eVar 2) aNil)) aNil))
    (sSeq (sFput "Feed" "to_shape" (eVar 0) (eVar 1))
    (sSeq (sFput "Feed" "by_way" (eVar 0) (eVar 2))
    (sFput "Feed" "all_pieces" (eVar 0) (eMut (fA lstF aNil))))))
noncomputable def m_Feed___init__ : FM := fnD 3 f_Feed___init__
noncomputable def f_Feed_heard : FS :=
    (sRet (eS1 joinD (eC (.str "")) (e1 (fldD "Feed" "all_pieces") (eVar 0))))
noncomputable def m_Feed_heard : FM := fnD 1 f_Feed_heard
noncomputable def f_Feed_is_text : FS :=
    (sRet (e2 inD (eCall m_stage_of 1 0 [.p 0] (aCons (eMe "Feed" "heard" m_Feed_heard 0 [.p 0] (eVar 0) aNil) aNil) aNil) (eC (.tup [(.str "nan"), (.str "inf"), (.str "whole"), (.str "point"), (.str "e1"), (.str "e2"), (.str "e3"), (.str "e4")]))))
noncomputable def m_Feed_is_text : FM := fnD 1 f_Feed_is_text
noncomputable def f_Feed_push : FS :=
    (sSeq (sIf (tNotD (tst (eA isiD (aCons (eVar 1) (aCons (eC (.ty "str")) aNil)))))
    (sRaise "BadValue" ["what"] gd1 (eC (.str "piece")))
    sNext)
    (sSeq (sPar 2 3 (aCons (eCall m_stage_of 1 0 [.p 0] (aCons (eMe "Feed" "heard" m_Feed_heard 0 [.p 0] (eVar 0) aNil) aNil) aNil) (aCons (eA lenD (aCons (eMe "Feed" "heard" m_Feed_heard 0 [.p 0] (eVar 0) aNil) aNil)) aNil)))
    (sSeq (sFor (iSeq (eVar 1)) (gNm 4)
    (sSeq (sIf (tOrD (tst (e2 eqD (eVar 3) (eC (.int (1900))))) (tst (e2 notInD (eVar 4) (e1 (kixD U_FOLLOWING) (eVar 2)))))
    (sRaise "BadText" ["place", "what"] gdT (eVar 3))
    sNext)
    (sPar 2 3 (aCons (eCall m_stage_behind 2 0 [.p 0, .p 1] (aCons (eVar 2) (aCons (eVar 4) aNil)) aNil) (aCons (e2 addD (eVar 3) (eC (.int 1))) aNil)))))
    (sSeq (sExpr (eLm appD (e1 (fldD "Feed" "all_pieces") (eVar 0)) (aCons (eVar 1) aNil)))
    (sRet (eVar 3))))))
noncomputable def m_Feed_push : FM := fnD 5 f_Feed_push
noncomputable def f_Feed___len__ : FS :=
    (sRet (eA lenD (aCons (eMe "Feed" "heard" m_Feed_heard 0 [.p 0] (eVar 0) aNil) aNil)))
noncomputable def m_Feed___len__ : FM := fnD 1 f_Feed___len__
noncomputable def f__law_class : FS :=
    (sSeq (sIf (tst (eA isxD (aCons (eVar 0) (aCons (eC (.xcl "BadText")) aNil))))
    (sRet (eIf (tAndD (tst (eA isxD (aCons (eVar 0) (aCons (eC (.xcl "BadValue")) aNil)))) (tst (e2 eqD (e1 (xfD "what") (eVar 0)) (eC (.str "text"))))) (eA tupD (aCons (eC (.str "text")) (aCons (e1 (xfD "place") (eVar 0)) aNil))) (eA tupD (aCons (eC (.str "else")) aNil))))
    sNext)
    (sSeq (sIf (tst (eA isxD (aCons (eVar 0) (aCons (eC (.xcl "BadValue")) aNil))))
    (sRet (eIf (tst (eA isxD (aCons (eVar 0) (aCons (eC (.ty "ValueError")) aNil)))) (eA tupD (aCons (eC (.str "value")) (aCons (e1 (xfD "what") (eVar 0)) aNil))) (eA tupD (aCons (eC (.str "else")) aNil))))
    sNext)
    (sRet (eIf (tst (eA isxD (aCons (eVar 0) (aCons (eC (.ty "ArithmeticError")) aNil)))) (eA tupD (aCons (eC (.str "finite")) (aCons (e1 (xfD "state") (eVar 0)) aNil))) (eA tupD (aCons (eC (.str "else")) aNil))))))
noncomputable def m__law_class : FM := fnD 1 f__law_class
noncomputable def f__law_feed_right : FS :=
    (sSeq (sAsg (eA tupD (aCons (eMkB false "Feed" m_Feed___init__ 0 0 [.p 0, .d (.tup [(.int (53)), (.int (-1074)), (.int (971))]), .d (.str "nearest")] aNil aNil) (aCons (eCall m__law_let_by 1 0 [.p 0] (aCons (eVar 0) aNil) aNil) aNil))) (gTupD 2 (gsCons (gNm 1) (gsCons (gNm 2) gsNil))))
    (sSeq (sFor (iRange1 (aCons (eVar 2) aNil)) (gNm 3)
    (sIf (tOrD (tst (e2 neD (eMe "Feed" "push" m_Feed_push 1 [.p 0, .p 1] (eVar 1) (aCons (e2 ixD (eVar 0) (eVar 3)) aNil)) (e2 addD (eVar 3) (eC (.int 1))))) (tst (e2 neD (eMe "Feed" "is_text" m_Feed_is_text 0 [.p 0] (eVar 1) aNil) (eCall m__law_is_whole_text 1 0 [.p 0] (aCons (eSlice (eVar 0) oNone (oSome (e2 addD (eVar 3) (eC (.int 1))))) aNil) aNil))))
    (sRet (eC (.bl false)))
    sNext))
    (sSeq (sSet 4 (eMkB false "Feed" m_Feed___init__ 0 0 [.p 0, .d (.tup [(.int (53)), (.int (-1074)), (.int (971))]), .d (.str "nearest")] aNil aNil))
    (sSeq (sSet 5 (eIf (tst (e2 eqD (eVar 2) (eA lenD (aCons (eVar 0) aNil)))) (eFrz (fA lstF (aCons (eA lenD (aCons (eVar 0) aNil)) aNil))) (eA tupD (aCons (eC (.str "text")) (aCons (eVar 2) aNil)))))
    (sSeq (sIf (tOrD (tst (e2 neD (eTold xNs (eMe "Feed" "push" m_Feed_push 1 [.p 0, .p 1] (eVar 4) (aCons (eVar 0) aNil)) m__law_class) (eVar 5))) (tst (e2 neD (eA (ownL "Feed" m_Feed___len__) (aCons (eVar 4) aNil)) (eIf (tst (e2 eqD (eVar 2) (eA lenD (aCons (eVar 0) aNil)))) (eA lenD (aCons (eVar 0) aNil)) (eC (.int 0))))))
    (sRet (eC (.bl false)))
    sNext)
    (sSeq (sIf (tAndD (tst (e2 ltD (eVar 2) (eA lenD (aCons (eVar 0) aNil)))) (tst (e2 neD (eTold xNs (eMe "Feed" "push" m_Feed_push 1 [.p 0, .p 1] (eVar 1) (aCons (e2 ixD (eVar 0) (eVar 2)) aNil)) m__law_class) (eA tupD (aCons (eC (.str "text")) (aCons (eVar 2) aNil))))))
    (sRet (eC (.bl false)))
    sNext)
    (sRet (e2 eqD (eMe "Feed" "heard" m_Feed_heard 0 [.p 0] (eVar 1) aNil) (eSlice (eVar 0) oNone (oSome (eVar 2)))))))))))
noncomputable def m__law_feed_right : FM := fnT (fnD 6 f__law_feed_right)
noncomputable def f_law : FS :=
    (sSeq (sSet 1 (eCall m__law_begun 1 0 [.p 0] (aCons (eVar 0) aNil) aNil))
    (sSeq (sFor (iSeq (eFrz (catF (eFrz (fA lstF (aCons (eC .non) (aCons (eC (.int 5)) (aCons (eFrz (fA lstF (aCons (eC (.str "1")) aNil))) (aCons (eA tupD aNil) (aCons (eC (.bl true)) aNil))))))) (eCall m__law_deep 0 0 [] aNil aNil)))) (gNm 2)
    (sIf (tst (e2 neD (eCall m_follows 1 0 [.p 0] (aCons (eVar 2) aNil) aNil) (eC (.str ""))))
    (sRet (eC (.bl false)))
    sNext))
    (sSeq (sIf (tNotD (tst (eCall m__law_long_right 1 0 [.p 0] (aCons (eVar 1) aNil) aNil)))
    (sRet (eC (.bl false)))
    sNext)
    (sSeq (sFor (iRange1 (aCons (eA minD (aCons (eC (.int 16)) (aCons (e2 addD (eC (.int 4)) (e2 fdivD (eA lenD (aCons (eVar 0) aNil)) (eC (.int 4)))) aNil))) aNil)) (gNm 3)
    (sSeq (sSet 4 (eCall m__law_any_text 1 0 [.p 0] (aCons (eVar 1) aNil) aNil))
    (sSeq (sSet 5 (eCall m__law_spoilt 2 0 [.p 0, .p 1] (aCons (eVar 1) (aCons (eVar 4) aNil)) aNil))
    (sSeq (sFor (iSeq (eA tupD (aCons (eVar 4) (aCons (eVar 5) (aCons (eSlice (eVar 4) oNone (oSome (eCall m__law_draw 2 0 [.p 0, .p 1] (aCons (eVar 1) (aCons (e2 addD (eA lenD (aCons (eVar 4) aNil)) (eC (.int 1))) aNil)) aNil))) aNil))))) (gNm 6)
    (sIf (tst (e2 neD (eCall m_follows 1 0 [.p 0] (aCons (eVar 6) aNil) aNil) (eCall m__law_signs_due 1 0 [.p 0] (aCons (eVar 6) aNil) aNil)))
    (sRet (eC (.bl false)))
    sNext))
    (sIf (tOrD (tNotD (tst (eCall m__law_feed_right 1 0 [.p 0] (aCons (eVar 4) aNil) aNil))) (tNotD (tst (eCall m__law_feed_right 1 0 [.p 0] (aCons (eVar 5) aNil) aNil))))
    (sRet (eC (.bl false)))
    sNext)))))
    (sRet (eC (.bl true)))))))
noncomputable def m_law : FM := fnD 7 f_law
theorem wp_folded {ns : List Int} {S : Sto} {Q : D → Sto → Prop} {E : Xc → Sto → Prop} (q : ∀ cs : List Int, cs.length = 64 → (∀ x ∈ cs, 0 ≤ x ∧ x < 2147483648) → Q (.lst (cs.map .int)) S) : wp (m__law_folded [.scr (ns.map .int)] S) Q E := by
  unfold m__law_folded f__law_folded
  rw [v_fnT]
  walk_at "vc"
  refine compL_inv _ (fun i acc S' => S' = S ∧ ∃ cs : List Int, acc = cs.map .int ∧ cs.length = i ∧ ∀ x ∈ cs, 0 ≤ x ∧ x < 2147483648) ⟨rfl, [], rfl, rfl, fun x hx => by cases hx⟩ ?_ ?_
  · rintro i d acc S' hd ⟨rfl, cs, rfl, hl, hb⟩
    obtain ⟨hi, rfl⟩ := range_get hd
    refine ⟨trivial, _, rfl, ?_⟩
    walk_at "vc"
    refine ⟨by rw [List.length_map]; omega, cs ++ [17 + (i : Int)], by simp, by simp [hl], fun x hx => ?_⟩
    rcases List.mem_append.mp hx with hx | hx
    · exact hb x hx
    · have z : x = 17 + (i : Int) := by simpa using hx
      omega
  · rintro acc S' ⟨rfl, cs, rfl, hl, hb⟩
    rw [List.length_map, List.length_range] at hl
    refine ⟨trivial, ?_⟩
    walk_at "vc"
    refine forL_inv _ (fun i δ S2 => ∃ y2 y3 cs, δ = [some (.scr (ns.map .int)), some (.ref S'.length), y2, y3] ∧ S2 = S' ++ [.lst (cs.map .int)] ∧ cs.length = 64 ∧ ∀ x ∈ cs, 0 ≤ x ∧ x < 2147483648) ⟨none, none, cs, rfl, rfl, hl, hb⟩ ?_ ?_
    · rintro i d δ S2 hd ⟨y2, y3, cs, rfl, rfl, hl, hb⟩
      obtain ⟨z, _, hi, rfl⟩ := numbered_ints hd
      refine ⟨rfl, ?_⟩
      obtain ⟨c1, hc1, e1⟩ := atI_ints (ns := cs) (i := (i : Int) % 64) (by omega) (by omega)
      walk_at "vc"
      rw [top_ix, e1]
      walk_at "vc"
      rw [top_put (by omega) (by rw [List.length_map]; omega)]
      walk_at "vc"
      refine ⟨.inl (.inr ⟨by decide, by decide⟩), _, _, cs.set ((i : Int) % 64).toNat ((c1 * 48271 + z) % 2147483647), rfl, by rw [List.map_set], by rw [List.length_set]; exact hl, fun x hx => ?_⟩
      rcases mem_set_of hx with rfl | hx
      · omega
      · exact hb x hx
    · rintro δ S2 ⟨y2, y3, cs, rfl, rfl, hl, hb⟩
      refine ⟨rfl, ?_⟩
      walk_at "vc"
      refine forL_inv _ (fun i δ S2 => ∃ y2 cs, δ = [some (.scr (ns.map .int)), some (.ref S'.length), y2, y3] ∧ S2 = S' ++ [.lst (cs.map .int)] ∧ cs.length = 64 ∧ ∀ x ∈ cs, 0 ≤ x ∧ x < 2147483648) ⟨y2, cs, rfl, rfl, hl, hb⟩ ?_ ?_
      · rintro i d δ S2 hd ⟨y2, cs, rfl, rfl, hl, hb⟩
        obtain ⟨hi, rfl⟩ := range_get hd
        have hi' : i < 63 := hi
        refine ⟨trivial, ?_⟩
        obtain ⟨c1, hc1, e1⟩ := atI_ints (ns := cs) (i := 1 + (i : Int)) (by omega) (by omega)
        obtain ⟨c2, hc2, e2⟩ := atI_ints (ns := cs) (i := 1 + (i : Int) - 1) (by omega) (by omega)
        walk_at "vc"
        simp only [top_ix, e1, e2]
        walk_at "vc"
        simp only [top_ix, e1, e2]
        walk_at "vc"
        refine ⟨.inl (.inr ⟨by decide, by decide⟩), ?_⟩
        rw [top_put (by omega) (by rw [List.length_map]; omega)]
        walk_at "vc"
        refine ⟨_, cs.set (1 + (i : Int)).toNat ((c1 + c2 * 16807) % 2147483647), rfl, by rw [List.map_set], by rw [List.length_set]; exact hl, fun x hx => ?_⟩
        rcases mem_set_of hx with rfl | hx
        · omega
        · exact hb x hx
      · rintro δ S2 ⟨y2, cs, rfl, rfl, hl, hb⟩
        refine ⟨trivial, ?_⟩
        walk_at "vc"
        exact top_out (bel_ints cs) (q cs hl hb)
theorem wp_begun {ns : List Int} {Q : D → Sto → Prop} {E : Xc → Sto → Prop} (hn : ns.length ≤ 63) (q : ∀ d : Dw, d.ok 0 → Q (.ref 0) (d.s [])) : wp (m__law_begun [.scr (ns.map .int)] []) Q E := by
  unfold m__law_begun f__law_begun
  walk_at "vc"
  refine wp_folded fun cs hl hb => ?_
  walk_at "vc"
  refine ⟨by decide, ?_⟩
  refine compL_inv _ (fun i acc S' => S' = [Ob.dct drawKs [.lst (cs.map .int), .lst [], .int 0]] ∧ ∃ ls : List Int, acc = ls.map .int ∧ ls.length = i) ⟨rfl, [], rfl, rfl⟩ ?_ ?_
  · rintro i d acc S' hd ⟨rfl, ls, rfl, hl⟩
    obtain ⟨z, _, hi, rfl⟩ := ints_get hd
    refine ⟨rfl, _, rfl, ?_⟩
    walk_at "vc"
    split
    · exact ⟨by rw [List.length_map]; omega, ls ++ [z], by simp, by simp [hl]⟩
    · exact ⟨by rw [List.length_map]; omega, ls ++ [0], by simp, by simp [hl]⟩
  · rintro acc S' ⟨rfl, ls, rfl, hl'⟩
    rw [List.length_map] at hl'
    refine ⟨rfl, ?_⟩
    walk_at "vc"
    rw [drw_made]
    exact q ⟨cs, ls, 0⟩ ⟨hl, hb, by show ls.length ≤ 63; omega, Nat.le_refl _⟩
def nestD : Nat → D
  | 0 => .tup []
  | n + 1 => .tup [nestD n]
def twiceD : Nat → D
  | 0 => .tup []
  | n + 1 => .tup [twiceD n, twiceD n]
theorem wp_ldeep {S : Sto} {Q : D → Sto → Prop} {E : Xc → Sto → Prop} (q : Q (.lst [nestD 2000, twiceD 50]) S) : wp (m__law_deep [] S) Q E := by
  unfold m__law_deep f__law_deep
  walk_at "z"
  refine ⟨by decide, ?_⟩
  refine forL_inv _ (fun i δ S' => ∃ y, δ = [some (nestD i), some (.tup []), y] ∧ S' = S) ⟨none, rfl, rfl⟩ ?_ ?_
  · rintro i it δ S' hi ⟨y, rfl, rfl⟩
    refine ⟨trivial, ?_⟩
    walk_at "z"
    exact ⟨_, rfl⟩
  · rintro δ S' ⟨y, rfl, rfl⟩
    rw [List.length_map, List.length_range]
    refine ⟨trivial, ?_⟩
    obtain ⟨n1, hn1⟩ : ∃ n, n = nestD 2000 := ⟨_, rfl⟩
    rw [← hn1]
    rw [← hn1] at q
    walk_at "z"
    refine ⟨by decide, ?_⟩
    refine forL_inv _ (fun i δ S2 => ∃ y, δ = [some n1, some (twiceD i), y] ∧ S2 = S') ⟨y, rfl, rfl⟩ ?_ ?_
    · rintro i it δ S2 hi ⟨y, rfl, rfl⟩
      refine ⟨trivial, ?_⟩
      walk_at "z"
      exact ⟨_, rfl⟩
    · rintro δ S2 ⟨y, rfl, rfl⟩
      rw [List.length_map, List.length_range]
      refine ⟨trivial, ?_⟩
      obtain ⟨n2, hn2⟩ : ∃ n, n = twiceD 50 := ⟨_, rfl⟩
      rw [← hn2]
      rw [← hn2] at q
      walk_at "z"
      exact q
theorem k_fol {s : Stg} {S : Sto} : kixD U_FOLLOWING (.str (stgS s)) S = .ok (.str (folS s)) S := by
  rw [o_kix]
  have e : U_FOLLOWING.lookup (stgS s) = some (some (folS s)) := by cases s <;> decide +kernel
  rw [e]
theorem k_beh {s : Stg} : U_BEHIND_E.lookup (stgS s) = some ((behE s).map stgS) := by cases s <;> decide +kernel
theorem k_behin {s : Stg} {S : Sto} : kinD U_BEHIND_E (.str (stgS s)) S = .ok (.bl (behE s).isSome) S := by
  rw [o_kin, k_beh]
  cases behE s <;> rfl
theorem k_behix {s t : Stg} {S : Sto} (h : behE s = some t) : kixD U_BEHIND_E (.str (stgS s)) S = .ok (.str (stgS t)) S := by
  rw [o_kix, k_beh, h]
  rfl
theorem stg_inj : ∀ {s t : Stg}, stgS s = stgS t ↔ s = t := by
  intro s t
  constructor
  · intro h
    cases s <;> cases t <;> first | rfl | exact absurd h (by decide +kernel)
  · intro h
    rw [h]
theorem beh_end {s : Stg} {c : Nat} (hc : c ∈ folT s) (h0 : behE s = none) (h1 : dgB c = false) (h2 : c ≠ 46) (h3 : ¬ (c = 43 ∨ c = 45)) (h4 : c ≠ 101) : (if stgS s = stgS .start ∨ stgS s = stgS .signed then tx [c] else stgS s ++ tx [c]) = stgS (behT s c) := by
  have nd : c ∉ digs := fun z => by rw [dg_mem.mp z] at h1; cases h1
  have nd2 : dgB 97 = false ∧ dgB 110 = false ∧ dgB 105 = false ∧ dgB 102 = false := by decide
  cases s
  all_goals simp only [folT, List.mem_append, List.mem_cons, List.not_mem_nil, or_false, nd, false_or] at hc
  all_goals first
    | (exfalso; omega)
    | (rcases hc with hc | hc
       · exact absurd hc (by omega)
       · rcases hc with rfl | rfl <;> decide +kernel)
    | (rcases hc with hc | hc
       · exact absurd hc h2
       · subst hc; decide +kernel)
    | (subst hc; first | decide +kernel | exact absurd rfl h4)
    | (cases h0; done)
theorem wp_behind {s : Stg} {c : Nat} {S : Sto} {Q : D → Sto → Prop} {E : Xc → Sto → Prop} (hc : c ∈ folT s) (q : Q (.str (stgS (behT s c))) S) : wp (m_stage_behind [.str (stgS s), .str (tx [c])] S) Q E := by
  have l1 : Str.ofString "." = tx [46] := tx_lit (by decide +kernel)
  unfold m_stage_behind f_stage_behind
  walk_at "z"
  rw [k_behin]
  cases hb : behE s with
  | some t =>
    have e : behT s c = if dgB c = true then t else .ep := by
      unfold behT
      rw [hb]
    rw [e] at q
    walk_at "z"
    rw [in_dig]
    cases hd : dgB c with
    | true =>
      rw [hd] at q
      walk_at "z"
      rw [k_behix hb]
      exact q
    | false =>
      rw [hd] at q
      walk_at "z"
      exact q
  | none =>
    have e : ∀ {d : Bool}, dgB c = d → behT s c = if d = true then (if s = .dot ∨ s = .point then .point else .whole) else if c = 46 then (if s = .whole then .point else .dot) else if c = 43 ∨ c = 45 then .signed else if c = 101 then .e else behT s c := by
      intro d hd
      by_cases h0 : d = true
      · rw [if_pos h0]
        unfold behT
        rw [hb]
        dsimp only
        rw [hd, if_pos h0]
      · rw [if_neg h0]
        have hd' : ¬ dgB c = true := by rw [hd]; exact h0
        by_cases h1 : c = 46
        · rw [if_pos h1]
          unfold behT
          rw [hb]
          dsimp only
          rw [if_neg hd', if_pos h1]
        · rw [if_neg h1]
          by_cases h2 : c = 43 ∨ c = 45
          · rw [if_pos h2]
            unfold behT
            rw [hb]
            dsimp only
            rw [if_neg hd', if_neg h1, if_pos h2]
          · rw [if_neg h2]
            by_cases h3 : c = 101
            · rw [if_pos h3]
              unfold behT
              rw [hb]
              dsimp only
              rw [if_neg hd', if_neg h1, if_neg h2, if_pos h3]
            · rw [if_neg h3]
    walk_at "z"
    rw [in_dig]
    cases hd : dgB c with
    | true =>
      rw [e hd, if_pos rfl] at q
      walk_at "z"
      rw [if_neg (show ¬ (none : Option Stg).isSome = true by decide)]
      by_cases z : s = .dot ∨ s = .point
      · rw [if_pos z] at q
        rw [if_pos (show stgS s = Str.ofString "dot" ∨ stgS s = Str.ofString "point" from z.imp (fun e => by rw [e]; rfl) (fun e => by rw [e]; rfl))]
        exact q
      · rw [if_neg z] at q
        rw [if_neg (show ¬ (stgS s = Str.ofString "dot" ∨ stgS s = Str.ofString "point") from fun w => z (w.imp (fun e => stg_inj.mp e) (fun e => stg_inj.mp e)))]
        exact q
    | false =>
      have be := fun h2 h3 h4 => beh_end (s := s) hc hb hd h2 h3 h4
      rw [e hd, if_neg (by decide)] at q
      rw [l1, lit_e]
      walk_at "z"
      rw [if_neg (show ¬ (none : Option Stg).isSome = true by decide), in_pm]
      walk_at "z"
      have t1 : ∀ x y : Nat, (tx [x] = tx [y]) = (x = y) := fun x y => propext ⟨fun h => by simpa using tx_inj.mp h, fun h => by rw [h]⟩
      simp only [t1]
      by_cases h2 : c = 46
      · rw [if_pos h2] at q ⊢
        rw [show (Str.ofString "whole" : Str) = stgS .whole from rfl]
        simp only [stg_inj]
        split at q
        · rename_i z
          rw [if_pos z]
          exact q
        · rename_i z
          rw [if_neg z]
          exact q
      · rw [if_neg h2] at q ⊢
        by_cases h3 : c = 43 ∨ c = 45
        · rw [if_pos h3] at q ⊢
          exact q
        · rw [if_neg h3] at q ⊢
          by_cases h4 : c = 101
          · rw [if_pos h4] at q ⊢
            rw [← lit_e]
            exact q
          · rw [if_neg h4] at q ⊢
            rw [← be h2 h3 h4] at q
            by_cases z : stgS s = stgS .start ∨ stgS s = stgS .signed
            · rw [if_pos z] at q
              rw [if_pos (show stgS s = Str.ofString "start" ∨ stgS s = Str.ofString "signed" from z)]
              exact q
            · rw [if_neg z] at q
              rw [if_neg (show ¬ (stgS s = Str.ofString "start" ∨ stgS s = Str.ofString "signed") from z), tx_len]
              have sl : (stgS s).length ≤ 10 := by cases s <;> decide +kernel
              exact ⟨by rw [show ([c] : List Nat).length = 1 from rfl]; omega, q⟩
theorem run_snoc {s t : Stg} {l : List Nat} {c : Nat} (h : runT s l = some t) : runT s (l ++ [c]) = stpT t c := by
  rw [runT_app, h]
  show runT t [c] = _
  unfold runT
  cases stpT t c <;> rfl
theorem run_no {s : Stg} {a b : List Nat} (h : runT s a = none) : runT s (a ++ b) = none := by
  rw [runT_app, h]
  rfl
theorem get_tx {l : List Nat} {i : Nat} {it : D} (h : (l.map fun k => D.str (tx [k]))[i]? = some it) : ∃ c, l[i]? = some c ∧ it = .str (tx [c]) ∧ l.take (i + 1) = l.take i ++ [c] := by
  rw [List.getElem?_map] at h
  cases e : l[i]? with
  | none =>
    rw [e] at h
    cases h
  | some c =>
    rw [e] at h
    cases h
    exact ⟨c, rfl, rfl, by rw [List.take_succ, e]; rfl⟩
theorem wp_stage {l : List Nat} {S : Sto} {Q : D → Sto → Prop} {E : Xc → Sto → Prop} (q : Q (stgD (runT .start l)) S) : wp (m_stage_of [.str (tx l)] S) Q E := by
  unfold m_stage_of f_stage_of
  walk_at "z"
  rw [seqI_tx]
  walk_at "z"
  refine forL_inv _ (fun i δ S' => ∃ s y, runT .start (l.take i) = some s ∧ δ = [some (.str (tx l)), some (.str (stgS s)), y] ∧ S' = S) ⟨.start, none, rfl, rfl, rfl⟩ ?_ ?_
  · rintro i it δ S' hi ⟨s, y, hr, rfl, rfl⟩
    obtain ⟨c, hc, rfl, ht⟩ := get_tx hi
    refine ⟨trivial, ?_⟩
    walk_at "z"
    rw [k_fol]
    walk_at "z"
    rw [fol_tx]
    by_cases hm : c ∈ folT s
    · have e : stpT s c = some (behT s c) := by unfold stpT; rw [if_pos hm]
      rw [if_neg (not_not_intro hm)]
      refine wp_behind hm ?_
      walk_at "z"
      exact ⟨behT s c, _, by rw [ht, run_snoc hr, e], rfl⟩
    · have e : stpT s c = none := by unfold stpT; rw [if_neg hm]
      rw [if_pos hm]
      have : runT .start l = none := by
        rw [← List.take_append_drop (i + 1) l]
        exact run_no (by rw [ht, run_snoc hr, e])
      rw [this] at q
      exact q
  · rintro δ S' ⟨s, y, hr, rfl, rfl⟩
    rw [List.length_map, List.take_length] at hr
    rw [hr] at q
    refine ⟨trivial, ?_⟩
    walk_at "z"
    exact q
def folO : Option Stg → List Nat
  | some s => allG.filter fun c => decide (c ∈ folT s)
  | none => []
theorem wp_follows {l : List Nat} {S : Sto} {Q : D → Sto → Prop} {E : Xc → Sto → Prop} (q : Q (.str (tx (folO (runT .start l)))) S) : wp (m_follows [.str (tx l)] S) Q E := by
  unfold m_follows f_follows
  walk_at "z"
  refine wp_stage ?_
  cases h : runT .start l with
  | none =>
    rw [h] at q
    unfold stgD
    walk_at "z"
    rw [tx_nil]
    exact q
  | some s =>
    rw [h] at q
    unfold stgD
    walk_at "z"
    rw [allG_tx, seqI_tx]
    walk_at "z"
    refine compL_filt allG _ (fun c => .str (tx [c])) (fun c => decide (c ∈ folT s)) trivial (by decide) (fun c _ => ⟨_, rfl, ?_, ?_⟩) ?_
    · walk_at "z"
      rw [k_fol]
      walk_at "z"
      rw [in_fol]
      try walk_at "z"
    · walk_at "z"
    · rw [o_joinC]
      walk_at "z"
      refine ⟨?_, q⟩
      exact Nat.le_trans (List.length_filter_le _ _) (by decide)
theorem wp_followsN {d : D} {S : Sto} {Q : D → Sto → Prop} {E : Xc → Sto → Prop} (hi : isiD [d, .ty "str"] S = .ok (.bl false) S) (q : Q (.str "") S) : wp (m_follows [d] S) Q E := by
  unfold m_follows f_follows
  walk_at "z"
  rw [hi]
  walk_at "z"
  exact q
theorem wp_mixed {c k : Int} {S : Sto} {Q : D → Sto → Prop} {E : Xc → Sto → Prop} (h0 : 0 ≤ c) (h1 : c < 2 ^ 60) (h2 : 0 ≤ k) (h3 : k ≤ 2 ^ 50) (q : ∀ r : Int, 0 ≤ r → r < 2147483648 → Q (.int r) S) : wp (m__law_mixed [.int c, .int k] S) Q E := by
  have m1 : CMulC 2 k := .inl (.inl ⟨by decide, by decide⟩)
  have m2 : CMulC c (1 + 2 * k) := .inl (.inl ⟨by omega, by omega⟩)
  have m3 : ∀ x, CMulC x 48271 := fun x => .inl (.inr ⟨by decide, by decide⟩)
  have m4 : CMulC 7919 k := .inl (.inl ⟨by decide, by decide⟩)
  have m5 : CMulC (7919 * k) k := .inl (.inr ⟨by omega, by omega⟩)
  have m6 : CMulC 104729 k := .inl (.inl ⟨by decide, by decide⟩)
  have m7 : ∀ x, CMulC x 69621 := fun x => .inl (.inr ⟨by decide, by decide⟩)
  have d1 : ∀ x, CDivC x 7 := fun x => ⟨by decide, .inl (by decide)⟩
  unfold m__law_mixed f__law_mixed
  walk_at "vc"
  refine ⟨m1, m2, m3 _, m4, m5, m6, m7 _, d1 _, ?_⟩
  refine q _ ?_ ?_ <;> omega
theorem wp_draw {d : Dw} {b : Nat} {top : Int} {Z : Sto} {Q : D → Sto → Prop} {E : Xc → Sto → Prop} (h : d.ok b) (hb : b ≤ 2 ^ 40) (h0 : 0 < top) (h1 : top < 2 ^ 30) (q : ∀ (r : Int) (d' : Dw), 0 ≤ r → r < top → d'.ok (b + 1) → Q (.int r) (d'.s Z)) : wp (m__law_draw [.ref 0, .int top] (d.s Z)) Q E := by
  have hk := h.k1
  unfold m__law_draw f__law_draw
  walk_at "vc"
  simp only [drw_spot, wp_ok, o_addI]
  rw [show ((d.k : Int) + 1) = ((d.k + 1 : Nat) : Int) by omega]
  have hd : ({ d with k := d.k + 1 } : Dw).ok (b + 1) := ⟨h.c1, h.c2, h.l1, by show d.k + 1 ≤ b + 1; omega⟩
  have hk2 : ({ d with k := d.k + 1 } : Dw).cs = d.cs := rfl
  generalize hd2 : ({ d with k := d.k + 1 } : Dw) = d2 at hd hk2
  have mix : wp (dixD (.ref 0) (.str "cells") (d2.s Z)) (fun a s => wp (ixD a (.int ((d.k : Int) % 64)) s) (fun a s => CDivC (d.k : Int) 64 ∧ CMulC 31 ((d.k : Int) / 64) ∧ wp (addD a (.int (31 * ((d.k : Int) / 64))) s) (fun a s =>
      wp (m__law_mixed [a, .int (d.k : Int)] s) (fun a s => wp (m__law_mixed [a, .int ((d.k : Int) + 7)] s) (fun a s => wp (modD a (.int top) s) Q fun e s => E e s) fun e s => E e s) fun e s => E e s) fun e s => E e s) fun e s => E e s) fun e s => E e s := by
    simp only [drw_cells, wp_ok, o_ixL]
    obtain ⟨x, hx, e⟩ := atI_ints (ns := d2.cs) (i := (d.k : Int) % 64) (by omega) (by rw [hd.c1]; omega)
    have hx2 := hd.c2 x hx
    rw [e]
    simp only [o_opt, wp_ok, o_addI]
    refine ⟨⟨by decide, .inl (by decide)⟩, .inl (.inl ⟨by decide, by decide⟩), ?_⟩
    refine wp_mixed (by omega) (by omega) (by omega) (by omega) fun r r0 r1 => ?_
    refine wp_mixed r0 (by omega) (by omega) (by omega) fun r2 r3 r4 => ?_
    simp only [o_opC, wp_chk, wp_ok]
    exact ⟨h0, q _ _ (Int.emod_nonneg _ (by omega)) (Int.emod_lt_of_pos _ h0) hd⟩
  simp only [drw_put, hd2, wp_ok, drw_left, drw_eq, v_not, v_asB]
  walk_at "vc"
  split
  · rename_i hne
    have hne : d2.ls ≠ [] := by simpa using hne
    have hl : 0 < d2.ls.length := List.length_pos_iff.mpr hne
    simp only [drw_left, drw_len, wp_ok]
    walk_at "vc"
    have m0 : 0 ≤ (d.k : Int) % (d2.ls.length : Int) := Int.emod_nonneg _ (by omega)
    have m1 : (d.k : Int) % (d2.ls.length : Int) < d2.ls.length := Int.emod_lt_of_pos _ (by omega)
    refine ⟨by omega, ?_⟩
    simp only [drw_left, drw_ix, wp_ok]
    obtain ⟨x, hx, e⟩ := atI_ints m0 m1
    rw [e]
    walk_at "vc"
    split
    · refine ⟨⟨h0, .inl ?_⟩, ?_⟩
      · exact Nat.lt_of_lt_of_le (show top.natAbs < 2 ^ 30 by omega) (Nat.pow_le_pow_right (by decide) (by decide))
      · simp only [drw_left, drw_set m0 m1, wp_ok]
        refine ⟨h0, q _ _ (Int.emod_nonneg _ (by omega)) (Int.emod_lt_of_pos _ h0) ⟨hd.c1, hd.c2, ?_, hd.k1⟩⟩
        show (List.set _ _ _).length ≤ 63
        rw [List.length_set]
        exact hd.l1
    · exact mix
  · exact mix
theorem whole_figs {c : Nat} (h : dgB c = true) (n : Nat) : runT .whole (List.replicate n c) = some .whole := run_dg (fun _ => stp_whole.1) (List.all_eq_true.mpr fun x hx => by rw [List.eq_of_mem_replicate hx]; exact h)
theorem point_figs {c : Nat} (h : dgB c = true) (n : Nat) : runT .point (List.replicate n c) = some .point := run_dg (fun _ => stp_point.1) (List.all_eq_true.mpr fun x hx => by rw [List.eq_of_mem_replicate hx]; exact h)
theorem signed_figs {c : Nat} (h : dgB c = true) (n : Nat) : runT .signed (List.replicate (n + 1) c) = some .whole := by
  rw [List.replicate_succ, run_c (stp_signed.1 h)]
  exact whole_figs h n
theorem start_figs {c : Nat} (h : dgB c = true) (n : Nat) : runT .start (List.replicate (n + 1) c) = some .whole := by
  obtain ⟨n1, n2, n3, n4, n5, n6, _⟩ := dg_ne h
  rw [List.replicate_succ, run_c (t := .whole) (by rw [stp_start.2.2 (by omega) n6, stp_signed.1 h])]
  exact whole_figs h n
theorem wp_llong {d : Dw} {b : Nat} {Z : Sto} {Q : D → Sto → Prop} {E : Xc → Sto → Prop} (h : d.ok b) (hb : b + 1000 ≤ 2 ^ 40) (q : ∀ d' : Dw, d'.ok (b + 3) → Q (.bl true) (d'.s Z)) : wp (m__law_long_right [.ref 0] (d.s Z)) Q E := by
  have lp : Str.ofString "." = tx [46] := tx_lit (by decide +kernel)
  unfold m__law_long_right f__law_long_right
  rw [lit_m, lp, lit_p, lit_e]
  walk_at "z"
  refine wp_draw h (by omega) (by decide) (by decide) fun r d1 r0 r1 h1 => ?_
  obtain ⟨c, hc, kc, e1⟩ := ix_txt (S := d1.s Z) (u := Str.ofString "0123456789") (by decide +kernel) r0 (by rw [show (Str.ofString "0123456789").length = 10 by decide +kernel]; exact r1)
  have hd : dgB c = true := by rw [dig_tx] at hc; exact dg_mem.mp hc
  rw [e1]
  walk_at "z"
  refine wp_draw h1 (by omega) (by decide) (by decide) fun r2 d2 r20 r21 h2 => ?_
  walk_at "z"
  refine wp_draw h2 (by omega) (by decide) (by decide) fun r3 d3 r30 r31 h3 => ?_
  obtain ⟨n, hn, e3⟩ := atI_ints (ns := [1898, 1899, 1900, 1901, 2500 + r2]) r30 (by exact r31)
  have bn : 1000 ≤ n ∧ n ≤ 3000 := by
    simp only [List.mem_cons, List.not_mem_nil, or_false] at hn
    omega
  rw [o_ixL, show atI [D.int 1898, D.int 1899, D.int 1900, D.int 1901, D.int (2500 + r2)] r3 = _ from e3]
  obtain ⟨k, rfl⟩ : ∃ k : Nat, n = ((k + 1 : Nat) : Int) := ⟨(n - 1).toNat, by omega⟩
  walk_at "z"
  obtain ⟨R, hR⟩ : ∃ R, List.replicate (k + 1) c = R := ⟨_, rfl⟩
  have kR : R.length = k + 1 := by rw [← hR, List.length_replicate]
  have R1 : runT .start R = some .whole := by rw [← hR]; exact start_figs hd k
  have R2 : runT .signed R = some .whole := by rw [← hR]; exact signed_figs hd k
  have R3 : runT .dot R = some .point := by
    rw [← hR, List.replicate_succ, run_c (stp_dot.1 hd)]
    exact point_figs hd k
  rw [tx_len, rep_tx, show Int.toNat ((k + 1 : Nat) : Int) = k + 1 from rfl, hR]
  refine ⟨⟨by omega, by omega, by rw [show ([c] : List Nat).length = 1 from rfl]; omega⟩, ?_⟩
  refine wp_follows ?_
  rw [R1]
  have g1 : tx (folO (some .whole)) = Str.ofString ".0123456789e" := (tx_lit (by decide +kernel)).symm
  have g2 : tx (folO (some .point)) = Str.ofString "0123456789e" := (tx_lit (by decide +kernel)).symm
  have g3 : tx (folO (some .e)) = Str.ofString "+-0123456789" := (tx_lit (by decide +kernel)).symm
  rw [g1]
  walk_at "z"
  rw [tx_app, tx_app, tx_len, tx_len, tx_len, List.length_append, kR]
  refine ⟨by rw [show ([45] : List Nat).length = 1 from rfl]; omega, by rw [show ([45] : List Nat).length = 1 from rfl, tx_len, show ([46] : List Nat).length = 1 from rfl]; omega, ?_⟩
  refine wp_follows ?_
  rw [show runT .start ([45] ++ R ++ [46]) = some .point by
    rw [runT_app, runT_app, show runT .start [45] = some .signed from by decide]
    show ((runT .signed R).bind fun t => runT t [46]) = _
    rw [R2]
    decide, g2]
  walk_at "z"
  rw [tx_app, tx_len, tx_len, kR]
  refine ⟨by rw [show ([46] : List Nat).length = 1 from rfl]; omega, ?_⟩
  refine wp_follows ?_
  rw [show runT .start ([46] ++ R) = some .point by
    rw [runT_app, show runT .start [46] = some .dot from by decide]
    exact R3, g2]
  walk_at "z"
  rw [tx_app, tx_app, tx_len, tx_len, tx_len, List.length_append, kR]
  refine ⟨by rw [show ([43] : List Nat).length = 1 from rfl]; omega, by rw [show ([43] : List Nat).length = 1 from rfl, tx_len, show ([101] : List Nat).length = 1 from rfl]; omega, ?_⟩
  refine wp_follows ?_
  rw [show runT .start ([43] ++ R ++ [101]) = some .e by
    rw [runT_app, runT_app, show runT .start [43] = some .signed from by decide]
    show ((runT .signed R).bind fun t => runT t [101]) = _
    rw [R2]
    decide, g3]
  walk_at "z"
  exact q d3 (h3.mono (by omega))
theorem wp_lfigs {d : Dw} {b : Nat} {few : Int} {Z : Sto} {Q : D → Sto → Prop} {E : Xc → Sto → Prop} (h : d.ok b) (hb : b + 200 ≤ 2 ^ 40) (f0 : 0 ≤ few) (f1 : few ≤ 30) (q : ∀ (F : List Nat) (d' : Dw), (F.length : Int) ≤ few → asc F = true → d'.ok (b + 70) → Q (.str (tx F)) (d'.s Z)) : wp (m__law_figures [.ref 0, .int few] (d.s Z)) Q E := by
  unfold m__law_figures f__law_figures
  walk_at "z"
  refine wp_draw h (by omega) (by decide) (by decide) fun r d1 r0 r1 h1 => ?_
  walk_at "z"
  refine ⟨by omega, ?_⟩
  refine forL_inv _ (fun i δ S => ∃ F y d', F.length ≤ i ∧ asc F = true ∧ δ = [some (.ref 0), some (.int few), some (.int r), some (.str (tx F)), y] ∧ S = Dw.s d' Z ∧ d'.ok (b + 1 + 2 * i)) ⟨[], none, d1, Nat.le_refl _, rfl, by rw [tx_nil], rfl, h1⟩ ?_ ?_
  · rintro i it δ S hi ⟨F, y, d', hF, ha, rfl, rfl, h'⟩
    obtain ⟨hi', rfl⟩ := range_get hi
    refine ⟨trivial, ?_⟩
    walk_at "z"
    refine wp_draw h' (by omega) (by decide) (by decide) fun r2 d2 r20 r21 h2 => ?_
    obtain ⟨c2, _, k2, e2⟩ := ix_txt (S := d2.s Z) (u := Str.ofString "0123456789") (by decide +kernel) r20 (by rw [show (Str.ofString "0123456789").length = 10 by decide +kernel]; exact r21)
    rw [e2]
    walk_at "z"
    refine wp_draw h2 (by omega) (by decide) (by decide) fun r3 d3 r30 r31 h3 => ?_
    obtain ⟨c3, _, k3, e3⟩ := ix_txt (S := d3.s Z) (u := Str.ofString "0000000005") (by decide +kernel) r30 (by rw [show (Str.ofString "0000000005").length = 10 by decide +kernel]; exact r31)
    rw [e3]
    obtain ⟨l4, k4, a4, e4⟩ := at_fewA (ss := [Str.ofString "0", "9", tx [c2], tx [c3]]) (r := r) (n := 1) (fun u hu => by
      simp only [List.mem_cons, List.not_mem_nil, or_false] at hu
      rcases hu with rfl | rfl | rfl | rfl
      · decide +kernel
      · decide +kernel
      · exact ⟨Nat.le_of_eq (tx_len _), by rw [tx_l]; exact k2⟩
      · exact ⟨Nat.le_of_eq (tx_len _), by rw [tx_l]; exact k3⟩) r0 (by exact r1)
    walk_at "z"
    rw [show atI [D.str (Str.ofString "0"), D.str (Str.ofString "9"), D.str (tx [c2]), D.str (tx [c3])] r = _ from e4]
    walk_at "z"
    rw [tx_app, tx_len, tx_len]
    refine ⟨by omega, F ++ l4, _, d3, by rw [List.length_append]; omega, by rw [asc_app, ha, a4]; rfl, rfl, rfl, h3.mono (by omega)⟩
  · rintro δ S ⟨F, y, d', hF, ha, rfl, rfl, h'⟩
    rw [List.length_map, List.length_range] at hF h'
    refine ⟨trivial, ?_⟩
    walk_at "z"
    exact q F d' (by omega) ha (h'.mono (by omega))
theorem wp_lany {d : Dw} {b : Nat} {Z : Sto} {Q : D → Sto → Prop} {E : Xc → Sto → Prop} (h : d.ok b) (hb : b + 1000 ≤ 2 ^ 40) (q : ∀ (l : List Nat) (d' : Dw), l.length ≤ 100 → asc l = true → d'.ok (b + 250) → Q (.str (tx l)) (d'.s Z)) : wp (m__law_any_text [.ref 0] (d.s Z)) Q E := by
  have s3 : ∀ u ∈ (["", "-", "+"] : List Str), u.length ≤ 1 ∧ asc u.cps.toList = true := by decide +kernel
  unfold m__law_any_text f__law_any_text
  walk_at "z"
  refine wp_draw h (by omega) (by decide) (by decide) fun r d1 r0 r1 h1 => ?_
  obtain ⟨l1, k1, a1, e1⟩ := ix_fewA (S := d1.s Z) s3 r0 r1
  rw [show ixD (D.lst [D.str (Str.ofString ""), D.str (Str.ofString "-"), D.str (Str.ofString "+")]) (D.int r) (d1.s Z) = _ from e1]
  walk_at "z"
  refine wp_draw h1 (by omega) (by decide) (by decide) fun r2 d2 r20 r21 h2 => ?_
  walk_at "z"
  by_cases c0 : r2 = 0
  · rw [if_pos c0]
    rw [tx_len]
    have kf : (Str.ofString "inf").length = 3 := by decide +kernel
    refine ⟨by omega, ?_⟩
    refine wp_draw h2 (by omega) (by decide) (by decide) fun r3 d3 r30 r31 h3 => ?_
    obtain ⟨l4, k4, a4, e4⟩ := ix_fewA (S := d3.s Z) (ss := [Str.ofString "nan", tx l1 ++ Str.ofString "inf"]) (r := r3) (n := 4) (fun u hu => by
      simp only [List.mem_cons, List.not_mem_nil, or_false] at hu
      rcases hu with rfl | rfl
      · decide +kernel
      · rw [show Str.ofString "inf" = tx [105, 110, 102] from tx_lit (by decide +kernel), tx_app, tx_len, tx_l, asc_app, a1]
        exact ⟨by rw [List.length_append]; simp; omega, by decide⟩) r30 (by exact r31)
    rw [show ixD (D.lst [D.str (Str.ofString "nan"), D.str (tx l1 ++ Str.ofString "inf")]) (D.int r3) (d3.s Z) = _ from e4]
    exact q l4 d3 (by omega) a4 (h3.mono (by omega))
  · rw [if_neg c0]
    refine wp_draw h2 (by omega) (by decide) (by decide) fun r3 d3 r30 r31 h3 => ?_
    obtain ⟨t3, ht3, e3⟩ := atI_ints (ns := [0, 1, 3, 9, 20]) r30 (by exact r31)
    rw [o_ixL, show atI [D.int 0, D.int 1, D.int 3, D.int 9, D.int 20] r3 = _ from e3]
    have b3 : 0 ≤ t3 ∧ t3 ≤ 20 := by
      simp only [List.mem_cons, List.not_mem_nil, or_false] at ht3
      omega
    walk_at "z"
    refine wp_lfigs h3 (by omega) b3.1 (by omega) fun F1 d4 f1 a4 h4 => ?_
    walk_at "z"
    refine wp_draw h4 (by omega) (by decide) (by decide) fun r5 d5 r50 r51 h5 => ?_
    obtain ⟨t5, ht5, e5⟩ := atI_ints (ns := [0, 0, 1, 5, 30]) r50 (by exact r51)
    rw [o_ixL, show atI [D.int 0, D.int 0, D.int 1, D.int 5, D.int 30] r5 = _ from e5]
    have b5 : 0 ≤ t5 ∧ t5 ≤ 30 := by
      simp only [List.mem_cons, List.not_mem_nil, or_false] at ht5
      omega
    walk_at "z"
    refine wp_lfigs h5 (by omega) b5.1 b5.2 fun F2 d6 f2 a6 h6 => ?_
    have l0 : Str.ofString "0" = tx [48] := tx_lit (by decide +kernel)
    have lp : Str.ofString "." = tx [46] := tx_lit (by decide +kernel)
    rw [l0, lp, lit_e]
    walk_at "z"
    refine ⟨by rw [tx_len, tx_len]; omega, ?_⟩
    have n1 : ∀ x : Nat, ([x] : List Nat).length = 1 := fun _ => rfl
    by_cases cA : tx F1 ++ tx F2 = Str.ofString ""
    · rw [if_neg (not_not_intro cA)]
      refine ⟨by rw [tx_len, tx_len, n1]; omega, ?_⟩
      rw [tx_app l1 [48]]
      obtain ⟨L0, hL0⟩ : ∃ L, l1 ++ [48] = L := ⟨_, rfl⟩
      rw [hL0]
      have kL0 : L0.length ≤ 21 := by rw [← hL0, List.length_append, n1]; omega
      have aL0 : asc L0 = true := by rw [← hL0, asc_app, a1]; rfl
      clear hL0
      have f2 : F2.length = 0 := by
        rw [tx_app, tx_emp] at cA
        rw [(List.append_eq_nil_iff.mp cA).2]
        rfl
      rw [if_neg (not_not_intro (tx_emp.mpr (List.eq_nil_of_length_eq_zero f2)))]
      refine wp_draw h6 (by omega) (by decide) (by decide) fun r7 d7 r70 r71 h7 => ?_
      walk_at "z"
      by_cases c7 : r7 = 0
      · rw [if_pos c7]
        refine ⟨by rw [tx_len, tx_len, n1]; omega, by rw [tx_app, tx_len, tx_len, List.length_append, n1]; omega, ?_⟩
        rw [tx_app L0, tx_app (L0 ++ [46])]
        obtain ⟨L, kL, aL, hL⟩ : ∃ L : List Nat, L.length ≤ 60 ∧ asc L = true ∧ L0 ++ [46] ++ F2 = L := ⟨_, (by simp only [List.length_append, n1]; omega), (by rw [asc_app, asc_app, aL0, a6]; rfl), rfl⟩
        rw [hL]
        by_cases c9 : r2 < 5
        · rw [if_pos c9]
          refine ⟨by rw [tx_len, tx_len, n1]; omega, ?_⟩
          rw [tx_app L [101]]
          refine wp_draw h7 (by omega) (by decide) (by decide) fun r8 d8 r80 r81 h8 => ?_
          obtain ⟨l8, k8, a8, e8⟩ := ix_fewA (S := d8.s Z) s3 r80 r81
          rw [show ixD (D.lst [D.str (Str.ofString ""), D.str (Str.ofString "-"), D.str (Str.ofString "+")]) (D.int r8) (d8.s Z) = _ from e8]
          walk_at "z"
          rw [tx_len, tx_len, tx_app, List.length_append, n1]
          refine ⟨by omega, ?_⟩
          refine wp_draw h8 (by omega) (by decide) (by decide) fun r9 d9 r90 r91 h9 => ?_
          walk_at "z"
          refine wp_lfigs h9 (by omega) (by omega) (by omega) fun F9 da f9 a9 ha => ?_
          walk_at "z"
          rw [tx_len, tx_len, tx_app, List.length_append, List.length_append, n1]
          exact ⟨by omega, q _ da (by simp only [List.length_append, n1]; omega) (by rw [asc_app, asc_app, asc_app, aL, a8, a9]; rfl) (ha.mono (by omega))⟩
        · rw [if_neg c9]
          exact q L d7 (by omega) aL (h7.mono (by omega))
      · rw [if_neg c7]
        obtain ⟨kL, aL⟩ : L0.length ≤ 60 ∧ asc L0 = true := ⟨by omega, aL0⟩
        by_cases c9 : r2 < 5
        · rw [if_pos c9]
          refine ⟨by rw [tx_len, tx_len, n1]; omega, ?_⟩
          rw [tx_app L0 [101]]
          refine wp_draw h7 (by omega) (by decide) (by decide) fun r8 d8 r80 r81 h8 => ?_
          obtain ⟨l8, k8, a8, e8⟩ := ix_fewA (S := d8.s Z) s3 r80 r81
          rw [show ixD (D.lst [D.str (Str.ofString ""), D.str (Str.ofString "-"), D.str (Str.ofString "+")]) (D.int r8) (d8.s Z) = _ from e8]
          walk_at "z"
          rw [tx_len, tx_len, tx_app, List.length_append, n1]
          refine ⟨by omega, ?_⟩
          refine wp_draw h8 (by omega) (by decide) (by decide) fun r9 d9 r90 r91 h9 => ?_
          walk_at "z"
          refine wp_lfigs h9 (by omega) (by omega) (by omega) fun F9 da f9 a9 ha => ?_
          walk_at "z"
          rw [tx_len, tx_len, tx_app, List.length_append, List.length_append, n1]
          exact ⟨by omega, q _ da (by simp only [List.length_append, n1]; omega) (by rw [asc_app, asc_app, asc_app, aL, a8, a9]; rfl) (ha.mono (by omega))⟩
        · rw [if_neg c9]
          exact q L0 d7 (by omega) aL (h7.mono (by omega))
    · rw [if_pos cA]
      refine ⟨by rw [tx_len, tx_len]; omega, ?_⟩
      rw [tx_app l1 F1]
      obtain ⟨L0, hL0⟩ : ∃ L, l1 ++ F1 = L := ⟨_, rfl⟩
      rw [hL0]
      have kL0 : L0.length ≤ 21 := by rw [← hL0, List.length_append]; omega
      have aL0 : asc L0 = true := by rw [← hL0, asc_app, a1, a4]; rfl
      clear hL0
      by_cases cB : tx F2 = Str.ofString ""
      · rw [if_neg (not_not_intro cB)]
        refine wp_draw h6 (by omega) (by decide) (by decide) fun r7 d7 r70 r71 h7 => ?_
        walk_at "z"
        by_cases c7 : r7 = 0
        · rw [if_pos c7]
          refine ⟨by rw [tx_len, tx_len, n1]; omega, by rw [tx_app, tx_len, tx_len, List.length_append, n1]; omega, ?_⟩
          rw [tx_app L0, tx_app (L0 ++ [46])]
          obtain ⟨L, kL, aL, hL⟩ : ∃ L : List Nat, L.length ≤ 60 ∧ asc L = true ∧ L0 ++ [46] ++ F2 = L := ⟨_, (by simp only [List.length_append, n1]; omega), (by rw [asc_app, asc_app, aL0, a6]; rfl), rfl⟩
          rw [hL]
          by_cases c9 : r2 < 5
          · rw [if_pos c9]
            refine ⟨by rw [tx_len, tx_len, n1]; omega, ?_⟩
            rw [tx_app L [101]]
            refine wp_draw h7 (by omega) (by decide) (by decide) fun r8 d8 r80 r81 h8 => ?_
            obtain ⟨l8, k8, a8, e8⟩ := ix_fewA (S := d8.s Z) s3 r80 r81
            rw [show ixD (D.lst [D.str (Str.ofString ""), D.str (Str.ofString "-"), D.str (Str.ofString "+")]) (D.int r8) (d8.s Z) = _ from e8]
            walk_at "z"
            rw [tx_len, tx_len, tx_app, List.length_append, n1]
            refine ⟨by omega, ?_⟩
            refine wp_draw h8 (by omega) (by decide) (by decide) fun r9 d9 r90 r91 h9 => ?_
            walk_at "z"
            refine wp_lfigs h9 (by omega) (by omega) (by omega) fun F9 da f9 a9 ha => ?_
            walk_at "z"
            rw [tx_len, tx_len, tx_app, List.length_append, List.length_append, n1]
            exact ⟨by omega, q _ da (by simp only [List.length_append, n1]; omega) (by rw [asc_app, asc_app, asc_app, aL, a8, a9]; rfl) (ha.mono (by omega))⟩
          · rw [if_neg c9]
            exact q L d7 (by omega) aL (h7.mono (by omega))
        · rw [if_neg c7]
          obtain ⟨kL, aL⟩ : L0.length ≤ 60 ∧ asc L0 = true := ⟨by omega, aL0⟩
          by_cases c9 : r2 < 5
          · rw [if_pos c9]
            refine ⟨by rw [tx_len, tx_len, n1]; omega, ?_⟩
            rw [tx_app L0 [101]]
            refine wp_draw h7 (by omega) (by decide) (by decide) fun r8 d8 r80 r81 h8 => ?_
            obtain ⟨l8, k8, a8, e8⟩ := ix_fewA (S := d8.s Z) s3 r80 r81
            rw [show ixD (D.lst [D.str (Str.ofString ""), D.str (Str.ofString "-"), D.str (Str.ofString "+")]) (D.int r8) (d8.s Z) = _ from e8]
            walk_at "z"
            rw [tx_len, tx_len, tx_app, List.length_append, n1]
            refine ⟨by omega, ?_⟩
            refine wp_draw h8 (by omega) (by decide) (by decide) fun r9 d9 r90 r91 h9 => ?_
            walk_at "z"
            refine wp_lfigs h9 (by omega) (by omega) (by omega) fun F9 da f9 a9 ha => ?_
            walk_at "z"
            rw [tx_len, tx_len, tx_app, List.length_append, List.length_append, n1]
            exact ⟨by omega, q _ da (by simp only [List.length_append, n1]; omega) (by rw [asc_app, asc_app, asc_app, aL, a8, a9]; rfl) (ha.mono (by omega))⟩
          · rw [if_neg c9]
            exact q L0 d7 (by omega) aL (h7.mono (by omega))
      · rw [if_pos cB]
        refine ⟨by rw [tx_len, tx_len, n1]; omega, by rw [tx_app, tx_len, tx_len, List.length_append, n1]; omega, ?_⟩
        rw [tx_app L0, tx_app (L0 ++ [46])]
        obtain ⟨L, kL, aL, hL⟩ : ∃ L : List Nat, L.length ≤ 60 ∧ asc L = true ∧ L0 ++ [46] ++ F2 = L := ⟨_, (by simp only [List.length_append, n1]; omega), (by rw [asc_app, asc_app, aL0, a6]; rfl), rfl⟩
        rw [hL]
        by_cases c9 : r2 < 5
        · rw [if_pos c9]
          refine ⟨by rw [tx_len, tx_len, n1]; omega, ?_⟩
          rw [tx_app L [101]]
          refine wp_draw h6 (by omega) (by decide) (by decide) fun r8 d8 r80 r81 h8 => ?_
          obtain ⟨l8, k8, a8, e8⟩ := ix_fewA (S := d8.s Z) s3 r80 r81
          rw [show ixD (D.lst [D.str (Str.ofString ""), D.str (Str.ofString "-"), D.str (Str.ofString "+")]) (D.int r8) (d8.s Z) = _ from e8]
          walk_at "z"
          rw [tx_len, tx_len, tx_app, List.length_append, n1]
          refine ⟨by omega, ?_⟩
          refine wp_draw h8 (by omega) (by decide) (by decide) fun r9 d9 r90 r91 h9 => ?_
          walk_at "z"
          refine wp_lfigs h9 (by omega) (by omega) (by omega) fun F9 da f9 a9 ha => ?_
          walk_at "z"
          rw [tx_len, tx_len, tx_app, List.length_append, List.length_append, n1]
          exact ⟨by omega, q _ da (by simp only [List.length_append, n1]; omega) (by rw [asc_app, asc_app, asc_app, aL, a8, a9]; rfl) (ha.mono (by omega))⟩
        · rw [if_neg c9]
          exact q L d6 (by omega) aL (h6.mono (by omega))
theorem wp_lspoilt {d : Dw} {b : Nat} {l : List Nat} {Z : Sto} {Q : D → Sto → Prop} {E : Xc → Sto → Prop} (h : d.ok b) (hb : b + 1000 ≤ 2 ^ 40) (hl : l.length ≤ 100) (ha : asc l = true) (q : ∀ (m : List Nat) (d' : Dw), m.length ≤ l.length + 1 → asc m = true → d'.ok (b + 3) → Q (.str (tx m)) (d'.s Z)) : wp (m__law_spoilt [.ref 0, .str (tx l)] (d.s Z)) Q E := by
  unfold m__law_spoilt f__law_spoilt
  walk_at "z"
  rw [tx_len]
  refine ⟨by omega, ?_⟩
  refine wp_draw h (by omega) (by omega) (by omega) fun r d1 r0 r1 h1 => ?_
  walk_at "z"
  refine wp_draw h1 (by omega) (by decide) (by decide) fun r2 d2 r20 r21 h2 => ?_
  walk_at "z"
  refine wp_draw h2 (by omega) (by decide) (by decide) fun r3 d3 r30 r31 h3 => ?_
  obtain ⟨c, _, k3, e3⟩ := ix_txt (S := d3.s Z) (u := Str.ofString "+-.0123456789aefin Eg") (by decide +kernel) r30 (by rw [show (Str.ofString "+-.0123456789aefin Eg").length = 21 by decide +kernel]; exact r31)
  rw [e3]
  walk_at "z"
  obtain ⟨k, rfl⟩ := Int.eq_ofNat_of_zero_le r0
  have u1 : cutS (tx l) none (some (k : Int)) = tx (l.take k) := tx_cut0 l k
  have u2 : cutS (tx l) (some (k : Int)) none = tx (l.drop k) := tx_cutN l k
  have u3 : cutS (tx l) (some ((k : Int) + 1)) none = tx (l.drop (k + 1)) := tx_cutN l (k + 1)
  have t1 : asc (l.take k) = true := asc_take ha
  have t2 : asc (l.drop k) = true := asc_drop ha
  have t3 : asc (l.drop (k + 1)) = true := asc_drop ha
  have kl : (l.take k).length ≤ k := by rw [List.length_take]; omega
  simp only [u1, u2, u3, tx_app, tx_len, List.length_append, List.length_take, List.length_drop, List.length_cons, List.length_nil]
  have fin : ∀ m : List Nat, m.length ≤ l.length + 1 → asc m = true → Q (.str (tx m)) (d3.s Z) := fun m m1 m2 => q m d3 m1 m2 (h3.mono (by omega))
  by_cases c0 : r2 = 0
  · rw [if_pos c0]
    exact ⟨by omega, by omega, by omega, by omega, fin _ (by simp only [List.length_append, List.length_take, List.length_drop, List.length_cons, List.length_nil]; omega) (by rw [asc_app, asc_app, t1, k3, t2]; rfl)⟩
  rw [if_neg c0]
  by_cases c1 : r2 = 1
  · rw [if_pos c1]
    exact ⟨by omega, by omega, by omega, fin _ (by simp only [List.length_append, List.length_take, List.length_drop]; omega) (by rw [asc_app, t1, t3]; rfl)⟩
  rw [if_neg c1]
  by_cases c2 : r2 = 2
  · rw [if_pos c2]
    exact ⟨by omega, by omega, by omega, by omega, fin _ (by simp only [List.length_append, List.length_take, List.length_drop, List.length_cons, List.length_nil]; omega) (by rw [asc_app, asc_app, t1, k3, t3]; rfl)⟩
  rw [if_neg c2]
  exact ⟨by omega, by omega, by omega, fin _ (by simp only [List.length_append, List.length_take, List.length_drop]; omega) (by rw [asc_app, t2, t1]; rfl)⟩
theorem wp_lallfigs {l : List Nat} {S : Sto} {Q : D → Sto → Prop} {E : Xc → Sto → Prop} (hl : l.length ≤ 100000) (ha : asc l = true) (q : Q (.bl (allDg l)) S) : wp (m__law_all_figures [.str (tx l)] S) Q E := by
  have key : (((l.filter fun c => !dgB c).map fun c => D.str (tx [c])).isEmpty) = allDg l := by
    rw [List.isEmpty_map]
    unfold allDg
    clear hl ha q
    induction l with
    | nil => rfl
    | cons c l ih =>
      rw [List.filter_cons, List.all_cons]
      cases dgB c with
      | true => simpa using ih
      | false => rfl
  unfold m__law_all_figures f__law_all_figures
  walk_at "z"
  rw [seqI_tx]
  walk_at "z"
  refine compL_filt l _ (fun c => .str (tx [c])) (fun c => !dgB c) trivial (by omega) (fun c _ => ⟨_, rfl, ?_, ?_⟩) ?_
  · walk_at "z"
    rw [dig_tx]
    congr 1
    rw [Bool.eq_iff_iff, decide_eq_true_eq]
    exact dg_mem
  · walk_at "z"
  · walk_at "z"
    rw [show ((l.filter fun c => !dgB c).map fun c => D.str (tx [c])) = txsD ((l.filter fun c => !dgB c).map fun c => [c]) by unfold txsD; rw [List.map_map]; rfl] at key ⊢
    rw [eq_lnil (ok_txs _ fun m hm => by
      obtain ⟨c, hc, rfl⟩ := List.mem_map.mp hm
      exact asc_of fun x hx => by rw [List.mem_singleton.mp hx]; exact asc_mem ha (List.mem_filter.mp hc).1), key]
    exact q
theorem q_sg {l : List Nat} {n : Nat} {δ : Dl} {S : Sto} {K : D → Sto → Prop} {E1 E2 E3 : Xc → Sto → Prop} (hv : ∀ s, eVar n δ s = .ok (.str (tx l)) s) (hd : δ ≠ []) (hl : l.length ≤ 100000) (q : K (.str (tx (sgT l))) S) :
    wq (.ok (.bl (decide (tx (l.take 1) = Str.ofString "+" ∨ tx (l.take 1) = Str.ofString "-"))) S) (fun a s => wq (asB a s) (fun a s => wq (if a = true then eSlice (eVar n) (oSome (eC (.int 1))) oNone δ s else eVar n δ s) K E1 .a) E2 .a) E3 .a := by
  have sc := sg_cut (l := l)
  have c1 : ∀ l : List Nat, cutS (tx l) (some 1) none = tx (l.drop 1) := fun l => tx_cutN l 1
  by_cases h : tx (l.take 1) = Str.ofString "+" ∨ tx (l.take 1) = Str.ofString "-"
  · rw [decide_eq_true h]
    rw [if_pos h] at sc
    show wq (eSlice (eVar n) (oSome (eC (.int 1))) oNone δ S) K E1 .a
    rw [show eSlice (eVar n) (oSome (eC (.int 1))) oNone δ S = .chk ((tx l).length ≤ sizeLine) (.ok (.str (cutS (tx l) (some 1) none)) S) from by
      cases δ with
      | nil => exact absurd rfl hd
      | cons x δ =>
        show (eVar n (x :: δ) S).bind _ = _
        rw [hv]
        rfl]
    rw [c1, sc, chk_pos (by rw [tx_len]; unfold sizeLine; omega)]
    exact q
  · rw [decide_eq_false h]
    rw [if_neg h] at sc
    show wq (eVar n δ S) K E1 .a
    rw [hv, sc]
    exact q
theorem wp_liswhole {l : List Nat} {S : Sto} {Q : D → Sto → Prop} {E : Xc → Sto → Prop} (hl : l.length ≤ 100000) (ha : asc l = true) (q : Q (.bl (whB l)) S) : wp (m__law_is_whole_text [.str (tx l)] S) Q E := by
  have c0 : ∀ l : List Nat, cutS (tx l) none (some 1) = tx (l.take 1) := fun l => tx_cut0 l 1
  have ln : Str.ofString "nan" = tx [110, 97, 110] := tx_lit (by decide +kernel)
  have li : Str.ofString "inf" = tx [105, 110, 102] := tx_lit (by decide +kernel)
  have lp : Str.ofString "." = tx [46] := tx_lit (by decide +kernel)
  have sl := sg_len l
  have sa : asc (sgT l) = true := asc_sub ha sg_mem
  unfold whB at q
  unfold m__law_is_whole_text f__law_is_whole_text
  rw [ln, li, lp, lit_e]
  walk_at "z"
  rw [tx_len, c0, in_2l]
  refine ⟨by omega, ?_⟩
  refine q_sg (fun _ => rfl) (by simp) hl ?_
  walk_at "z"
  by_cases hn : l = [110, 97, 110]
  · rw [if_pos (tx_inj.mpr hn)]
    rw [decide_eq_true hn, Bool.true_or, Bool.true_or] at q
    exact q
  rw [if_neg (mt tx_inj.mp hn)]
  rw [decide_eq_false hn, Bool.false_or] at q
  generalize sgT l = w at *
  by_cases hi : w = [105, 110, 102]
  · rw [if_pos (tx_inj.mpr hi)]
    rw [decide_eq_true hi, Bool.true_or] at q
    exact q
  rw [if_neg (mt tx_inj.mp hi), o_partT]
  rw [decide_eq_false hi, Bool.false_or] at q
  obtain ⟨k1, k2, _⟩ := ah_len (c := 101) w
  have aA : asc (ahT 101 w) = true := asc_sub sa ah_mem.1
  have aB : asc ((bhT 101 w).getD []) = true := asc_sub sa ah_mem.2
  have q1 : numB w = (expB (bhT 101 w) && (!(ptT (ahT 101 w)).isEmpty && allDg (ptT (ahT 101 w)))) := num_eq
  rw [q1] at q
  have pl := (ah_len (c := 46) (ahT 101 w)).2.2
  have aP : asc (ptT (ahT 101 w)) = true := asc_sub aA fun c hc => by
    unfold ptT at hc
    rcases List.mem_append.mp hc with h | h
    · exact ah_mem.1 c h
    · exact ah_mem.2 c h
  generalize ahT 101 w = A at *
  walk_at "z"
  refine ⟨by omega, ?_⟩
  cases hb : bhT 101 w with
  | none =>
    rw [hb] at q
    rw [if_neg (show ¬ tx (if (none : Option (List Nat)).isSome = true then [101] else []) = tx [101] from fun z => by cases tx_inj.mp z)]
    have fin : Q (.bl (!(ptT A).isEmpty && allDg (ptT A))) S := q
    clear q
    rw [o_partT]
    walk_at "z"
    refine ⟨by omega, ?_⟩
    rw [tx_app, tx_len, tx_len, show ahT 46 A ++ (bhT 46 A).getD [] = ptT A from rfl]
    have pl2 : (ahT 46 A).length + ((bhT 46 A).getD []).length ≤ A.length := by rw [← List.length_append]; exact pl
    refine ⟨by omega, ?_⟩
    rw [tx_nil]
    by_cases he : ptT A = []
    · rw [if_neg (not_not_intro (tx_inj.mpr he))]
      rw [he] at fin
      exact fin
    · rw [if_pos (mt tx_inj.mp he)]
      rw [show (ptT A).isEmpty = false from by cases h : ptT A; exact absurd h he; rfl, Bool.not_false, Bool.true_and] at fin
      refine ⟨by omega, ?_⟩
      refine wp_lallfigs (Nat.le_trans pl (by omega)) aP ?_
      exact fin
  | some b =>
    rw [hb] at q k2 aB
    rw [if_pos (show tx (if (some b : Option (List Nat)).isSome = true then [101] else []) = tx [101] from rfl)]
    have sl2 := sg_len b
    have k3 : b.length ≤ w.length := k2
    have sa2 : asc (sgT b) = true := asc_sub aB sg_mem
    rw [show (some b).getD [] = b from rfl, tx_len, c0, in_2l]
    refine ⟨by omega, ?_⟩
    refine q_sg (fun _ => rfl) (by simp) (by omega) ?_
    walk_at "z"
    rw [tx_len]
    refine ⟨by omega, ?_⟩
    rw [show expB (some b) = (decide (1 ≤ (sgT b).length ∧ (sgT b).length ≤ 4) && allDg (sgT b)) from rfl] at q
    by_cases h1 : 1 ≤ ((sgT b).length : Int)
    rotate_left
    · rw [if_neg h1]
      rw [decide_eq_false (show ¬ (1 ≤ (sgT b).length ∧ (sgT b).length ≤ 4) by omega)] at q
      exact q
    rw [if_pos h1]
    by_cases h2 : ((sgT b).length : Int) ≤ 4
    rotate_left
    · rw [if_pos h2]
      rw [decide_eq_false (show ¬ (1 ≤ (sgT b).length ∧ (sgT b).length ≤ 4) by omega)] at q
      exact q
    rw [if_neg (not_not_intro h2)]
    rw [decide_eq_true (show (1 ≤ (sgT b).length ∧ (sgT b).length ≤ 4) by omega), Bool.true_and] at q
    refine wp_lallfigs (by omega) sa2 ?_
    cases hd : allDg (sgT b) with
    | false =>
      rw [hd] at q
      walk_at "z"
      exact q
    | true =>
      rw [hd, Bool.true_and] at q
      have fin : Q (.bl (!(ptT A).isEmpty && allDg (ptT A))) S := q
      clear q
      walk_at "z"
      rw [o_partT]
      walk_at "z"
      refine ⟨by omega, ?_⟩
      rw [tx_app, tx_len, tx_len, show ahT 46 A ++ (bhT 46 A).getD [] = ptT A from rfl]
      have pl2 : (ahT 46 A).length + ((bhT 46 A).getD []).length ≤ A.length := by rw [← List.length_append]; exact pl
      refine ⟨by omega, ?_⟩
      rw [tx_nil]
      by_cases he : ptT A = []
      · rw [if_neg (not_not_intro (tx_inj.mpr he))]
        rw [he] at fin
        exact fin
      · rw [if_pos (mt tx_inj.mp he)]
        rw [show (ptT A).isEmpty = false from by cases h : ptT A; exact absurd h he; rfl, Bool.not_false, Bool.true_and] at fin
        refine ⟨by omega, ?_⟩
        refine wp_lallfigs (Nat.le_trans pl (by omega)) aP ?_
        exact fin
theorem wp_lbegins {l : List Nat} {S : Sto} {Q : D → Sto → Prop} {E : Xc → Sto → Prop} (hl : l.length ≤ 90000) (ha : asc l = true) (q : Q (.bl (runT .start l).isSome) S) : wp (m__law_begins [.str (tx l)] S) Q E := by
  rw [← bg_run] at q
  have ms : mores.map tx = [Str.ofString "", "0", "an", "n", "nf", "f"] := by decide +kernel
  have am : ∀ m ∈ mores, asc m = true ∧ m.length ≤ 2 := by decide
  unfold m__law_begins f__law_begins
  walk_at "z"
  refine compL_filt mores (fun m => .str (tx m)) (fun m => .str (tx m)) (fun m => whB (l ++ m)) trivial (by decide) (fun m hm => ⟨_, rfl, ?_, ?_⟩) ?_ ?_
  · obtain ⟨a1, a2⟩ := am m hm
    walk_at "z"
    rw [tx_app, tx_len, tx_len]
    refine ⟨by omega, ?_⟩
    refine wp_liswhole (by rw [List.length_append]; omega) (by rw [asc_app, ha, a1]; rfl) ?_
    walk_at "z"
  · walk_at "z"
  · have e1 : ((mores.filter fun m => whB (l ++ m)).map fun m => D.str (tx m)) = txsD (mores.filter fun m => whB (l ++ m)) := rfl
    have e2 : (txsD (mores.filter fun m => whB (l ++ m))).isEmpty = !bgB l := by
      unfold txsD bgB
      rw [List.isEmpty_map, Bool.eq_iff_iff, List.isEmpty_iff, List.filter_eq_nil_iff, Bool.not_eq_true', List.any_eq_false]
    walk_at "z"
    rw [e1, eq_lnil (ok_txs _ fun m hm => (am m (List.mem_filter.mp hm).1).1), e2]
    walk_at "z"
    rw [Bool.not_not]
    exact q
  · show List.map D.str [Str.ofString "", "0", "an", "n", "nf", "f"] = _
    rw [← ms, List.map_map]
    rfl
theorem wp_lsignsdue {l : List Nat} {S : Sto} {Q : D → Sto → Prop} {E : Xc → Sto → Prop} (hl : l.length ≤ 80000) (ha : asc l = true) (q : Q (.str (tx (folO (runT .start l)))) S) : wp (m__law_signs_due [.str (tx l)] S) Q E := by
  unfold m__law_signs_due f__law_signs_due
  walk_at "z"
  refine wp_lbegins (by omega) ha ?_
  walk_at "z"
  cases h : runT .start l with
  | none =>
    rw [h] at q
    rw [if_pos (show (none : Option Stg).isSome = false from rfl), tx_nil]
    exact q
  | some s =>
    rw [h] at q
    rw [if_neg (show ¬ (some s : Option Stg).isSome = false by simp), allG_tx, seqI_tx]
    walk_at "z"
    refine compL_filt allG _ (fun c => .str (tx [c])) (fun c => decide (c ∈ folT s)) trivial (by decide) (fun c hc => ⟨_, rfl, ?_, ?_⟩) ?_
    · have ca : c < 128 := by
        have : ∀ c ∈ allG, c < 128 := by decide
        exact this c hc
      walk_at "z"
      rw [tx_app, tx_len, tx_len, show ([c] : List Nat).length = 1 from rfl]
      refine ⟨by omega, ?_⟩
      refine wp_lbegins (by rw [List.length_append, show ([c] : List Nat).length = 1 from rfl]; omega) (by rw [asc_app, ha, asc_of (l := [c]) (fun x hx => by rw [List.mem_singleton.mp hx]; exact ca)]; rfl) ?_
      have e : (runT .start (l ++ [c])).isSome = decide (c ∈ folT s) := by
        rw [runT_app, h]
        show (runT s [c]).isSome = _
        unfold runT stpT
        by_cases hm : c ∈ folT s
        · rw [if_pos hm, decide_eq_true hm]
          rfl
        · rw [if_neg hm, decide_eq_false hm]
          rfl
      rw [e]
      try walk_at "z"
    · walk_at "z"
    · rw [o_joinC]
      walk_at "z"
      refine ⟨?_, q⟩
      exact Nat.le_trans (List.length_filter_le _ _) (by decide)
theorem wp_lletby {l : List Nat} {S : Sto} {Q : D → Sto → Prop} {E : Xc → Sto → Prop} (hl : l.length ≤ 80000) (ha : asc l = true) (q : Q (.int (letT .start l : Nat)) S) : wp (m__law_let_by [.str (tx l)] S) Q E := by
  unfold m__law_let_by f__law_let_by
  walk_at "z"
  refine while_inv (fun m δ S' => ∃ k : Nat, m = l.length - k ∧ k ≤ letT .start l ∧ δ = [some (.str (tx l)), some (.int (k : Nat))] ∧ S' = S) l.length (by omega) ⟨0, rfl, Nat.zero_le _, rfl, rfl⟩ ?_
  rintro m δ S' ⟨k, rfl, hk, rfl, rfl⟩
  have lle := let_le l .start
  walk_at "z"
  rw [tx_len]
  refine ⟨by omega, ?_⟩
  by_cases c : (k : Int) < (l.length : Int)
  rotate_left
  · rw [if_neg c]
    have e : k = letT .start l := by omega
    rw [← e] at q
    exact q
  rw [if_pos c, show ((k : Int) + 1) = ((k + 1 : Nat) : Int) from rfl, tx_cut0]
  refine ⟨by omega, ?_⟩
  refine wp_lbegins (by rw [List.length_take]; omega) (asc_take ha) ?_
  rw [run_take l .start (k + 1) (by omega)]
  by_cases c2 : k + 1 ≤ letT .start l
  · rw [decide_eq_true c2]
    walk_at "z"
    exact ⟨l.length - (k + 1), by omega, k + 1, rfl, c2, rfl⟩
  · rw [decide_eq_false c2]
    have e : k = letT .start l := by omega
    rw [← e] at q
    walk_at "z"
    exact q
theorem wp_is_whole {i lo hi : Int} {S : Sto} {Q : D → Sto → Prop} {E : Xc → Sto → Prop} (h1 : lo ≤ i) (h2 : i ≤ hi) (q : Q (.bl true) S) : wp (m_is_whole [.int i, .int lo, .int hi] S) Q E := by
  unfold m_is_whole f_is_whole
  have e1 : ∀ S, isiD [.int i, .ty "int"] S = .ok (.bl true) S := fun S => rfl
  have e2 : ∀ S, isiD [.int i, .ty "bool"] S = .ok (.bl false) S := fun S => rfl
  walk_at "vc"
  rw [e1]
  walk_at "vc"
  rw [e2]
  walk_at "vc"
  simpa [h1, h2] using q
theorem wp_is_shape {s : Sh} {S : Sto} {Q : D → Sto → Prop} {E : Xc → Sto → Prop} (h : s.Ok) (q : Q (.bl true) S) : wp (m_is_shape [shD s] S) Q E := by
  unfold m_is_shape f_is_shape
  have e1 : isiD [shD s, .ty "tuple"] S = .ok (.bl true) S := rfl
  have e2 : lenD [shD s] S = .ok (.int 3) S := rfl
  walk_at "vc"
  simp only [e1, e2]
  walk_at "vc"
  refine wp_is_whole h.p1 h.p2 ?_
  walk_at "vc"
  refine wp_is_whole h.l1 h.l2 ?_
  walk_at "vc"
  refine wp_is_whole h.h1 h.h2 ?_
  exact q
theorem wp_is_way {w : Str} {S : Sto} {Q : D → Sto → Prop} {E : Xc → Sto → Prop} (h : isWay (.str w) = true) (q : Q (.bl true) S) : wp (m_is_way [.str w] S) Q E := by
  unfold m_is_way f_is_way
  have e1 : isiD [.str w, .ty "str"] S = .ok (.bl true) S := rfl
  walk_at "vc"
  simp only [e1]
  walk_at "vc"
  rcases isWay_iff.mp h with rfl | rfl | rfl | rfl | rfl
  all_goals
    refine (wp_chk (p := _) (r := _)).mpr ⟨⟨rfl, rfl⟩, ?_⟩
    exact q
theorem wp_need_ways {s : Sh} {w : Str} {S : Sto} {Q : D → Sto → Prop} {E : Xc → Sto → Prop} (hs : s.Ok) (hw : isWay (.str w) = true) (q : Q .non S) : wp (m_need_ways [shD s, .str w] S) Q E := by
  unfold m_need_ways f_need_ways
  walk_at "x"
  refine wp_is_shape hs ?_
  walk_at "x"
  refine wp_is_way hw ?_
  walk_at "x"
  exact q
def shF : D := .tup [.int 53, .int (-1074), .int 971]
theorem fput2 {S : Sto} {n f : Str} {v : D} {ns : List Str} {l : List D} {o : Ob} (h : ns.length < 1000) : fputD n f (.ref S.length) v (S ++ [.ins n ns l] ++ [o]) = .ok () (S ++ [.ins n (kputK ns f) (kputL ns l f v), o]) := by
  unfold fputD
  dsimp only
  rw [show (S ++ [Ob.ins n ns l] ++ [o])[S.length]? = some (Ob.ins n ns l) by simp]
  dsimp only
  rw [chk_pos ⟨rfl, h⟩]
  simp
theorem wp_fdinit {S : Sto} {Q : D → Sto → Prop} {E : Xc → Sto → Prop} (q : Q .non (S ++ [fdO shF (S.length + 1), .lst []])) : wp (m_Feed___init__ [.ref S.length, shF, .str "nearest"] (S ++ [.ins "Feed" [] []])) Q E := by
  unfold m_Feed___init__ f_Feed___init__
  walk_at "z"
  refine wp_need_ways (s := ⟨53, -1074, 971⟩) (w := "nearest") ⟨by decide, by decide, by decide, by decide, by decide, by decide⟩ (by decide +kernel) ?_
  walk_at "z"
  refine ⟨by decide, ?_⟩
  rw [fput2 (by decide)]
  walk_at "z"
  rw [show (S ++ [Ob.ins (Str.ofString "Feed") (kputK (kputK [] (Str.ofString "to_shape")) (Str.ofString "by_way")) (kputL (kputK [] (Str.ofString "to_shape")) (kputL [] [] (Str.ofString "to_shape") shF) (Str.ofString "by_way") (D.str (Str.ofString "nearest")))]).length = S.length + 1 by simp]
  exact q
theorem wp_fmk {src : List SrcD} {vs zs : List D} {S : Sto} {Q : D → Sto → Prop} {E : Xc → Sto → Prop} (q : Q (.ref S.length) (S ++ [fdO shF (S.length + 1), .lst []])) (e : srcD (.ref S.length :: vs) zs src = [.ref S.length, shF, .str "nearest"] := by rfl) : wp (mkB false "Feed" m_Feed___init__ src vs zs S) Q E := by
  unfold mkB
  rw [wp_bind, e]
  refine wp_fdinit ?_
  exact q
theorem wp_heard {S : Sto} {a p : Nat} {sh : D} {ps : List (List Nat)} {Q : D → Sto → Prop} {E : Xc → Sto → Prop} (h1 : S[a]? = some (fdO sh p)) (h2 : S[p]? = some (.lst (txsD ps))) (hl : ps.flatten.length ≤ 100000) (q : Q (.str (tx ps.flatten)) S) : wp (m_Feed_heard [.ref a] S) Q E := by
  unfold m_Feed_heard f_Feed_heard
  walk_at "z"
  rw [fd_pcs h1]
  walk_at "z"
  rw [join_at h2]
  walk_at "z"
  exact ⟨by omega, q⟩
theorem in_wh {s : Stg} {S : Sto} : inD (.str (stgS s)) (.tup [(.str "nan"), (.str "inf"), (.str "whole"), (.str "point"), (.str "e1"), (.str "e2"), (.str "e3"), (.str "e4")]) S = .ok (.bl (okB (some s))) S := by
  have := o_inTS (u := stgS s) (ss := ["nan", "inf", "whole", "point", "e1", "e2", "e3", "e4"]) (S := S)
  rw [show (D.tup [(.str "nan"), (.str "inf"), (.str "whole"), (.str "point"), (.str "e1"), (.str "e2"), (.str "e3"), (.str "e4")] : D) = .tup ((["nan", "inf", "whole", "point", "e1", "e2", "e3", "e4"] : List Str).map .str) from rfl, this]
  congr 2
  cases s <;> decide +kernel
theorem wp_istext {S : Sto} {a p : Nat} {sh : D} {ps : List (List Nat)} {Q : D → Sto → Prop} {E : Xc → Sto → Prop} (h1 : S[a]? = some (fdO sh p)) (h2 : S[p]? = some (.lst (txsD ps))) (hl : ps.flatten.length ≤ 100000) (hs : (runT .start ps.flatten).isSome = true) (q : Q (.bl (whB ps.flatten)) S) : wp (m_Feed_is_text [.ref a] S) Q E := by
  rw [← start_run] at q
  unfold m_Feed_is_text f_Feed_is_text
  walk_at "z"
  rw [fd_me h1]
  walk_at "z"
  refine wp_heard h1 h2 hl ?_
  walk_at "z"
  refine wp_stage ?_
  cases h : runT .start ps.flatten with
  | none =>
    rw [h] at hs
    cases hs
  | some s =>
    rw [h] at q
    unfold stgD
    walk_at "z"
    rw [in_wh]
    exact q
theorem wp_fdpush {S : Sto} {a p : Nat} {sh : D} {ps : List (List Nat)} {m : List Nat} {s : Stg} {Q : D → Sto → Prop} {E : Xc → Sto → Prop} (h1 : S[a]? = some (fdO sh p)) (h2 : S[p]? = some (.lst (txsD ps))) (hp : ps.length ≤ 100000) (hl : ps.flatten.length + m.length ≤ 1899) (hs : runT .start ps.flatten = some s)
    (q : (runT s m).isSome = true → Q (.int ((ps.flatten.length + m.length : Nat) : Int)) (S.set p (.lst (txsD (ps ++ [m])))))
    (x : runT s m = none → E ⟨"BadText", ["place", "what"], gdT (.int ((ps.flatten.length + letT s m : Nat) : Int))⟩ S) : wp (m_Feed_push [.ref a, .str (tx m)] S) Q E := by
  unfold m_Feed_push f_Feed_push
  walk_at "z"
  rw [fd_me h1]
  walk_at "z"
  refine wp_heard h1 h2 (by omega) ?_
  walk_at "z"
  refine wp_stage ?_
  rw [hs]
  unfold stgD
  walk_at "z"
  rw [fd_me h1]
  walk_at "z"
  refine wp_heard h1 h2 (by omega) ?_
  walk_at "z"
  rw [tx_len, seqI_tx]
  walk_at "z"
  refine ⟨by omega, ?_⟩
  refine forL_inv _ (fun i δ S' => ∃ t y, runT s (m.take i) = some t ∧ δ = [some (.ref a), some (.str (tx m)), some (.str (stgS t)), some (.int ((ps.flatten.length + i : Nat) : Int)), y] ∧ S' = S) ⟨s, none, rfl, rfl, rfl⟩ ?_ ?_
  · rintro i it δ S' hi ⟨t, y, hr, rfl, rfl⟩
    obtain ⟨c, hc, rfl, ht⟩ := get_tx hi
    have il := (List.getElem?_eq_some_iff.mp hc).1
    refine ⟨trivial, ?_⟩
    walk_at "z"
    rw [if_neg (show ¬ ((ps.flatten.length + i : Nat) : Int) = 1900 by omega), k_fol]
    walk_at "z"
    rw [fol_tx]
    by_cases hm : c ∈ folT t
    · have e : stpT t c = some (behT t c) := by unfold stpT; rw [if_pos hm]
      rw [if_neg (not_not_intro hm)]
      refine wp_behind hm ?_
      walk_at "z"
      exact ⟨behT t c, _, by rw [ht, run_snoc hr, e], rfl⟩
    · have e : stpT t c = none := by unfold stpT; rw [if_neg hm]
      rw [if_pos hm]
      have e2 : m = m.take i ++ c :: m.drop (i + 1) := by
        rw [← List.take_append_drop (i + 1) m]
        conv => lhs; rw [ht]
        rw [List.append_assoc]
        simp
      have r2 : runT s m = none := by
        rw [e2, runT_app, hr]
        exact run_n e
      have l2 : letT s m = i := by
        rw [e2, let_app hr, let_none e, List.length_take]
        omega
      have x := x r2
      rw [l2] at x
      walk_at "z"
      exact x
  · rintro δ S' ⟨t, y, hr, rfl, rfl⟩
    rw [List.length_map, List.take_length] at hr
    rw [List.length_map]
    refine ⟨trivial, ?_⟩
    walk_at "z"
    rw [fd_pcs h1]
    walk_at "z"
    rw [at_lm h2]
    walk_at "z"
    rw [at_app h2, txs_app, txs_len]
    walk_at "z"
    exact ⟨by omega, q (by rw [hr]; rfl)⟩
theorem wp_fdlen {S : Sto} {a p : Nat} {sh : D} {ps : List (List Nat)} {Q : D → Sto → Prop} {E : Xc → Sto → Prop} (h1 : S[a]? = some (fdO sh p)) (h2 : S[p]? = some (.lst (txsD ps))) (hl : ps.flatten.length ≤ 100000) (q : Q (.int (ps.flatten.length : Nat)) S) : wp (m_Feed___len__ [.ref a] S) Q E := by
  unfold m_Feed___len__ f_Feed___len__
  walk_at "z"
  rw [fd_me h1]
  walk_at "z"
  refine wp_heard h1 h2 hl ?_
  walk_at "z"
  rw [tx_len]
  exact ⟨by omega, q⟩
theorem wp_fdown {S : Sto} {a p : Nat} {sh : D} {ps : List (List Nat)} {Q : D → Sto → Prop} {E : Xc → Sto → Prop} (h1 : S[a]? = some (fdO sh p)) (h2 : S[p]? = some (.lst (txsD ps))) (hl : ps.flatten.length ≤ 100000) (q : Q (.int (ps.flatten.length : Nat)) S) : wp (ownL "Feed" m_Feed___len__ [.ref a] S) Q E := by
  unfold ownL
  dsimp only
  rw [fd_flds h1]
  dsimp only
  rw [wp_bind, wp_noX]
  refine wp_fdlen h1 h2 hl ?_
  have e : (ps.flatten.length : Int) < 2 ^ 63 := by omega
  unfold lenOnly
  dsimp only
  rw [if_pos ⟨by omega, e⟩]
  exact q
theorem wp_class_text {d : D} {S : Sto} {Q : D → Sto → Prop} {E : Xc → Sto → Prop} (q : Q (.tup [.str "text", d]) S) : wp (m__law_class [.xcp "BadText" ["place", "what"] [d, .str "text"]] S) Q E := by
  unfold m__law_class f__law_class
  walk_at "z"
  exact q
def ones (l : List Nat) : List (List Nat) := l.map fun c => [c]
theorem ones_flat : ∀ l : List Nat, (ones l).flatten = l
  | [] => rfl
  | c :: l => by
    show [c] ++ (ones l).flatten = _
    rw [ones_flat l]
    rfl
theorem ones_len {l : List Nat} : (ones l).length = l.length := List.length_map ..
theorem ones_snoc {l : List Nat} {c : Nat} : ones l ++ [[c]] = ones (l ++ [c]) := by
  unfold ones
  rw [List.map_append]
  rfl
theorem wp_lfeed {l : List Nat} {S : Sto} {Q : D → Sto → Prop} {E : Xc → Sto → Prop} (hl : l.length ≤ 1000) (ha : asc l = true) (q : Q (.bl true) S) : wp (m__law_feed_right [.str (tx l)] S) Q E := by
  have lle := let_le l .start
  have st0 : ∀ k : Nat, k ≤ letT .start l → ∃ s, runT .start (l.take k) = some s := fun k hk => by
    have := run_take l .start k (by omega)
    rw [decide_eq_true hk] at this
    exact Option.isSome_iff_exists.mp this
  unfold m__law_feed_right f__law_feed_right
  rw [v_fnT]
  walk_at "z"
  refine wp_fmk ?_ rfl
  walk_at "z"
  refine wp_lletby (by omega) ha ?_
  walk_at "z"
  refine ⟨by omega, ?_⟩
  refine forL_inv _ (fun i δ S' => ∃ y, δ = [some (.str (tx l)), some (.ref S.length), some (.int (letT .start l : Nat)), y, none, none] ∧ S' = S ++ [fdO shF (S.length + 1), .lst (txsD (ones (l.take i)))]) ⟨none, rfl, rfl⟩ ?_ ?_
  · rintro i it δ S' hi ⟨y, rfl, rfl⟩
    obtain ⟨hi', rfl⟩ := range_get hi
    refine ⟨trivial, ?_⟩
    have hi2 : i < letT .start l := hi'
    have g1 : ∀ Y : Ob, (S ++ [fdO shF (S.length + 1), Y])[S.length]? = some (fdO shF (S.length + 1)) := fun Y => by simp
    have g2 : ∀ Y : Ob, (S ++ [fdO shF (S.length + 1), Y])[S.length + 1]? = some Y := fun Y => by simp
    obtain ⟨c, hc⟩ := get_lt (l := l) (i := i) (by omega)
    have ht : l.take (i + 1) = l.take i ++ [c] := by rw [List.take_succ, hc]; rfl
    obtain ⟨s, hs⟩ := st0 i (by omega)
    obtain ⟨t, ht2⟩ := st0 (i + 1) (by omega)
    have tl : (l.take i).length = i := by rw [List.length_take]; omega
    have sc : stpT s c = some t := by rw [ht, run_snoc hs] at ht2; exact ht2
    walk_at "z"
    rw [fd_me (g1 _)]
    walk_at "z"
    rw [o_ixTx hc (by omega)]
    walk_at "z"
    refine wp_fdpush (ps := ones (l.take i)) (m := [c]) (s := s) (g1 _) (g2 _) (by rw [ones_len]; omega) (by rw [ones_flat, tl]; simp; omega) (by rw [ones_flat]; exact hs) (fun _ => ?_) (fun z => ?_)
    rotate_left
    · exfalso
      rw [run_c sc] at z
      cases z
    have es : ∀ Y Z : Ob, (S ++ [fdO shF (S.length + 1), Y]).set (S.length + 1) Z = S ++ [fdO shF (S.length + 1), Z] := fun Y Z => by
      rw [List.set_append_right _ _ (by omega)]
      simp
    rw [es, ones_snoc, ones_flat, ← ht, tl]
    walk_at "z"
    rw [if_neg (not_not_intro (by simp))]
    rw [fd_me (g1 _)]
    walk_at "z"
    refine wp_istext (ps := ones (l.take (i + 1))) (g1 _) (g2 _) (by rw [ones_flat, List.length_take]; omega) (by rw [ones_flat, ht2]; rfl) ?_
    rw [ones_flat]
    walk_at "z"
    rw [tx_len, show ((i : Int) + 1) = ((i + 1 : Nat) : Int) from rfl, tx_cut0]
    refine ⟨by omega, ?_⟩
    refine wp_liswhole (by rw [List.length_take]; omega) (asc_take ha) ?_
    walk_at "z"
    exact ⟨_, rfl⟩
  · rintro δ S' ⟨y, rfl, rfl⟩
    rw [List.length_map, List.length_range]
    refine ⟨trivial, ?_⟩
    obtain ⟨k, hk⟩ : ∃ k, letT .start l = k := ⟨_, rfl⟩
    rw [hk] at lle
    walk_at "z"
    rw [hk]
    obtain ⟨s, hs⟩ := st0 k (by omega)
    have tl : (l.take k).length = k := by rw [List.length_take]; omega
    have e3 : (S ++ [fdO shF (S.length + 1), Ob.lst (txsD (ones (l.take k)))]).length = S.length + 2 := by simp
    refine wp_fmk ?_ rfl
    rw [e3]
    have ea : S ++ [fdO shF (S.length + 1), Ob.lst (txsD (ones (l.take k)))] ++ [fdO shF (S.length + 2 + 1), .lst []] = S ++ [fdO shF (S.length + 1), Ob.lst (txsD (ones (l.take k))), fdO shF (S.length + 3), .lst []] := by simp
    rw [ea]
    have g1 : ∀ X Y Z W : Ob, (S ++ [X, Y, Z, W])[S.length]? = some X := fun X Y Z W => by simp
    have g2 : ∀ X Y Z W : Ob, (S ++ [X, Y, Z, W])[S.length + 1]? = some Y := fun X Y Z W => by simp
    have g3 : ∀ X Y Z W : Ob, (S ++ [X, Y, Z, W])[S.length + 2]? = some Z := fun X Y Z W => by simp
    have g4 : ∀ X Y Z W : Ob, (S ++ [X, Y, Z, W])[S.length + 3]? = some W := fun X Y Z W => by simp
    have e4 : ∀ X Y Z W V : Ob, (S ++ [X, Y, Z, W]).set (S.length + 3) V = S ++ [X, Y, Z, V] := fun X Y Z W V => by
      rw [List.set_append_right _ _ (by omega)]
      simp
    walk_at "z"
    rw [tx_len]
    refine ⟨by omega, ?_⟩
    by_cases c0 : (k : Int) = (l.length : Int)
    · rw [if_pos c0]
      refine ⟨by omega, ?_⟩
      rw [fd_me (g3 _ _ _ _)]
      walk_at "z"
      refine wp_fdpush (ps := []) (m := l) (s := .start) (g3 _ _ _ _) (g4 _ _ _ _) (by decide) (by simp; omega) rfl (fun _ => ?_) (fun z => ?_)
      rotate_left
      · exfalso
        have := let_all.mp (show letT .start l = l.length by omega)
        rw [z] at this
        cases this
      rw [e4]
      walk_at "z"
      rw [if_neg (not_not_intro (by simp))]
      refine wp_fdown (ps := [l]) (g3 _ _ _ _) (g4 _ _ _ _) (by simp; omega) ?_
      walk_at "z"
      rw [tx_len]
      refine ⟨by omega, ?_⟩
      rw [if_pos c0]
      refine ⟨by omega, ?_⟩
      rw [if_neg (not_not_intro (by simp))]
      refine ⟨by omega, ?_⟩
      rw [if_neg (by omega), fd_me (g1 _ _ _ _)]
      walk_at "z"
      refine wp_heard (ps := ones (l.take k)) (g1 _ _ _ _) (g2 _ _ _ _) (by rw [ones_flat]; omega) ?_
      rw [ones_flat]
      walk_at "z"
      rw [tx_cut0, tx_len]
      refine ⟨by omega, ?_⟩
      rw [decide_eq_true rfl]
      exact out_app (by intro n z; cases z) rfl q
    · rw [if_neg c0]
      rw [fd_me (g3 _ _ _ _)]
      walk_at "z"
      have ns : ¬ (runT .start l).isSome = true := fun z => by
        have := let_all.mpr z
        omega
      refine wp_fdpush (ps := []) (m := l) (s := .start) (g3 _ _ _ _) (g4 _ _ _ _) (by decide) (by simp; omega) rfl (fun z => absurd z ns) (fun z => ?_)
      refine ⟨by show ("BadText" : Str) ∈ xNs; decide +kernel, ?_⟩
      refine wp_class_text ?_
      walk_at "z"
      rw [if_neg (not_not_intro (by rw [hk]; simp))]
      refine wp_fdown (ps := []) (g3 _ _ _ _) (g4 _ _ _ _) (by decide) ?_
      walk_at "z"
      rw [tx_len]
      refine ⟨by omega, ?_⟩
      rw [if_neg c0, if_neg (not_not_intro (by simp))]
      refine ⟨by omega, ?_⟩
      rw [if_pos (by omega), fd_me (g1 _ _ _ _)]
      walk_at "z"
      obtain ⟨c, hc⟩ := get_lt (l := l) (i := k) (by omega)
      have ht : l.take (k + 1) = l.take k ++ [c] := by rw [List.take_succ, hc]; rfl
      have sn : stpT s c = none := by
        cases e : stpT s c with
        | none => rfl
        | some t =>
          have := run_take l .start (k + 1) (by omega)
          rw [ht, run_snoc hs, e, decide_eq_false (by omega)] at this
          cases this
      rw [o_ixTx hc (by omega)]
      walk_at "z"
      refine wp_fdpush (ps := ones (l.take k)) (m := [c]) (s := s) (g1 _ _ _ _) (g2 _ _ _ _) (by rw [ones_len]; omega) (by rw [ones_flat, tl]; simp; omega) (by rw [ones_flat]; exact hs) (fun z => ?_) (fun _ => ?_)
      · exfalso
        rw [run_n sn] at z
        cases z
      refine ⟨by show ("BadText" : Str) ∈ xNs; decide +kernel, ?_⟩
      refine wp_class_text ?_
      walk_at "z"
      rw [if_neg (not_not_intro (by rw [ones_flat, tl, let_none sn]; rfl)), fd_me (g1 _ _ _ _)]
      walk_at "z"
      refine wp_heard (ps := ones (l.take k)) (g1 _ _ _ _) (g2 _ _ _ _) (by rw [ones_flat]; omega) ?_
      rw [ones_flat]
      walk_at "z"
      rw [tx_cut0, tx_len]
      refine ⟨by omega, ?_⟩
      rw [decide_eq_true rfl]
      exact out_app (by intro n z; cases z) rfl q
theorem isi_nest {n : Nat} {S : Sto} : isiD [nestD n, .ty "str"] S = .ok (.bl false) S := by cases n <;> rfl
theorem isi_twice {n : Nat} {S : Sto} : isiD [twiceD n, .ty "str"] S = .ok (.bl false) S := by cases n <;> rfl
theorem law_true : ∀ ns : List Int, ns.length ≤ 63 → ∃ S', m_law [.scr (ns.map D.int)] [] = .ok (.bl true) S' := by
  intro ns hn
  refine ok_of_wp ?_
  unfold m_law f_law
  walk_at "z"
  refine wp_begun hn fun d hd => ?_
  walk_at "z"
  refine wp_ldeep ?_
  obtain ⟨X, hX⟩ : ∃ X, X = nestD 2000 := ⟨_, rfl⟩
  obtain ⟨Y, hY⟩ : ∃ Y, Y = twiceD 50 := ⟨_, rfl⟩
  have iX : ∀ S, isiD [X, .ty "str"] S = .ok (.bl false) S := fun S => by rw [hX]; exact isi_nest
  have iY : ∀ S, isiD [Y, .ty "str"] S = .ok (.bl false) S := fun S => by rw [hY]; exact isi_twice
  rw [← hX, ← hY]
  clear hX hY
  have iA : ∀ x ∈ [D.non, D.int 5, D.lst [D.str (Str.ofString "1")], D.tup [], D.bl true, X, Y], ∀ S, isiD [x, .ty "str"] S = .ok (.bl false) S := by
    intro x hx S
    simp only [List.mem_cons, List.not_mem_nil, or_false] at hx
    rcases hx with rfl | rfl | rfl | rfl | rfl | rfl | rfl
    · rfl
    · rfl
    · rfl
    · rfl
    · rfl
    · exact iX S
    · exact iY S
  walk_at "z"
  refine forL_inv _ (fun i δ S => ∃ y, δ = [some (.scr (ns.map .int)), some (.ref 0), y, none, none, none, none] ∧ S = d.s []) ⟨none, rfl, rfl⟩ ?_ ?_
  · rintro i it δ S hi ⟨y, rfl, rfl⟩
    refine ⟨trivial, ?_⟩
    walk_at "z"
    refine wp_followsN (iA it (List.mem_of_getElem? hi) _) ?_
    walk_at "z"
    exact ⟨_, rfl⟩
  · rintro δ S ⟨y, rfl, rfl⟩
    refine ⟨trivial, ?_⟩
    walk_at "z"
    refine wp_llong hd (by omega) fun d1 h1 => ?_
    walk_at "z"
    rw [List.length_map]
    have tb : ∃ t : Int, (if 4 + (ns.length : Int) / 4 < 16 then 4 + (ns.length : Int) / 4 else 16) = t ∧ 0 ≤ t ∧ t ≤ 16 := ⟨_, rfl, by split <;> omega, by split <;> omega⟩
    obtain ⟨t, ht, t0, t1⟩ := tb
    rw [ht]
    refine ⟨cdiv_any (i := (ns.length : Int)) (j := 4) (by decide) (Nat.lt_of_lt_of_le (show (ns.length : Int).natAbs < 2 ^ 20 by omega) (Nat.pow_le_pow_right (by decide) (by decide))), ⟨by omega, by omega⟩, ?_⟩
    refine forL_inv _ (fun i δ S => ∃ y3 y4 y5 y6 d2, δ = [some (.scr (ns.map .int)), some (.ref 0), y, y3, y4, y5, y6] ∧ S = Dw.s d2 [] ∧ d2.ok (10 + i * 1000)) ⟨none, none, none, none, d1, rfl, rfl, h1.mono (by omega)⟩ ?_ ?_
    · rintro i it δ S hi ⟨y3, y4, y5, y6, d2, rfl, rfl, h2⟩
      obtain ⟨hi', rfl⟩ := range_get hi
      have hi2 : i < 16 := by omega
      refine ⟨trivial, ?_⟩
      walk_at "z"
      refine wp_lany h2 (by omega) fun l d3 kl al h3 => ?_
      walk_at "z"
      refine wp_lspoilt h3 (by omega) kl al fun m d4 km am h4 => ?_
      walk_at "z"
      rw [tx_len]
      refine ⟨by omega, ?_⟩
      refine wp_draw h4 (by omega) (by omega) (by omega) fun r d5 r0 r1 h5 => ?_
      obtain ⟨k, rfl⟩ := Int.eq_ofNat_of_zero_le r0
      walk_at "z"
      rw [tx_cut0]
      refine ⟨by omega, ?_⟩
      refine forL_inv _ (fun j δ S => ∃ y6, δ = [some (.scr (ns.map .int)), some (.ref 0), y, some (.int (i : Nat)), some (.str (tx l)), some (.str (tx m)), y6] ∧ S = Dw.s d5 []) ⟨_, rfl, rfl⟩ ?_ ?_
      · rintro j it δ S hj ⟨y6, rfl, rfl⟩
        have hm := List.mem_of_getElem? hj
        simp only [List.mem_cons, List.not_mem_nil, or_false] at hm
        obtain ⟨w, rfl, kw, aw⟩ : ∃ w : List Nat, it = .str (tx w) ∧ w.length ≤ 200 ∧ asc w = true := by
          rcases hm with rfl | rfl | rfl
          · exact ⟨l, rfl, by omega, al⟩
          · exact ⟨m, rfl, by omega, am⟩
          · exact ⟨_, rfl, by rw [List.length_take]; omega, asc_take al⟩
        refine ⟨trivial, ?_⟩
        walk_at "z"
        refine wp_follows ?_
        walk_at "z"
        refine wp_lsignsdue (by omega) aw ?_
        walk_at "z"
        exact ⟨_, rfl⟩
      · rintro δ S ⟨y6, rfl, rfl⟩
        refine ⟨trivial, ?_⟩
        walk_at "z"
        refine wp_lfeed (by omega) al ?_
        walk_at "z"
        refine wp_lfeed (by omega) am ?_
        walk_at "z"
        exact ⟨_, _, _, _, d5, rfl, rfl, h5.mono (by omega)⟩
    · rintro δ S ⟨y3, y4, y5, y6, d2, rfl, rfl, h2⟩
      refine ⟨trivial, ?_⟩
      walk_at "z"
def topS (i : Nat) : Stmt := PySem.Challenge.pw_digitway_k60_whole_what_follows.main.body.getD i (.Pass ⟨0, 0, 0, 0⟩)
abbrev s__law_folded : Stmt := topS 34
abbrev N__law_folded : List Str := ["_law_script", "_law_found", "_law_k", "_law_cell"]
theorem sc__law_folded : FnScope N__law_folded ["_law_script"] (defScope s__law_folded) := ⟨rfl, rfl, rfl, by decide +kernel, rfl, by decide +kernel, by decide +kernel⟩
abbrev s__law_begun : Stmt := topS 36
abbrev N__law_begun : List Str := ["_law_script", "_law_m", "_law_cell"]
theorem sc__law_begun : FnScope N__law_begun ["_law_script"] (defScope s__law_begun) := ⟨rfl, rfl, rfl, by decide +kernel, rfl, by decide +kernel, by decide +kernel⟩
abbrev s__law_deep : Stmt := topS 49
abbrev N__law_deep : List Str := ["_law_deep_here", "_law_twice", "_law_turn"]
theorem sc__law_deep : FnScope N__law_deep [] (defScope s__law_deep) := ⟨rfl, rfl, rfl, by decide +kernel, rfl, by decide +kernel, by decide +kernel⟩
abbrev s_stage_behind : Stmt := topS 28
abbrev N_stage_behind : List Str := ["stage", "sign"]
theorem sc_stage_behind : FnScope N_stage_behind ["stage", "sign"] (defScope s_stage_behind) := ⟨rfl, rfl, rfl, by decide +kernel, rfl, by decide +kernel, by decide +kernel⟩
abbrev s_stage_of : Stmt := topS 29
abbrev N_stage_of : List Str := ["text", "found", "sign"]
theorem sc_stage_of : FnScope N_stage_of ["text"] (defScope s_stage_of) := ⟨rfl, rfl, rfl, by decide +kernel, rfl, by decide +kernel, by decide +kernel⟩
abbrev s_follows : Stmt := topS 30
abbrev N_follows : List Str := ["text", "stage", "sign"]
theorem sc_follows : FnScope N_follows ["text"] (defScope s_follows) := ⟨rfl, rfl, rfl, by decide +kernel, rfl, by decide +kernel, by decide +kernel⟩
abbrev s__law_mixed : Stmt := topS 33
abbrev N__law_mixed : List Str := ["_law_cell", "_law_k", "_law_turned"]
theorem sc__law_mixed : FnScope N__law_mixed ["_law_cell", "_law_k"] (defScope s__law_mixed) := ⟨rfl, rfl, rfl, by decide +kernel, rfl, by decide +kernel, by decide +kernel⟩
abbrev s__law_draw : Stmt := topS 35
abbrev N__law_draw : List Str := ["_law_m", "_law_top", "_law_k", "_law_spot", "_law_cell"]
theorem sc__law_draw : FnScope N__law_draw ["_law_m", "_law_top"] (defScope s__law_draw) := ⟨rfl, rfl, rfl, by decide +kernel, rfl, by decide +kernel, by decide +kernel⟩
abbrev s__law_long_right : Stmt := topS 48
abbrev N__law_long_right : List Str := ["_law_m", "_law_figure", "_law_long"]
theorem sc__law_long_right : FnScope N__law_long_right ["_law_m"] (defScope s__law_long_right) := ⟨rfl, rfl, rfl, by decide +kernel, rfl, by decide +kernel, by decide +kernel⟩
abbrev s__law_figures : Stmt := topS 37
abbrev N__law_figures : List Str := ["_law_m", "_law_few", "_law_road", "_law_found", "_law_k"]
theorem sc__law_figures : FnScope N__law_figures ["_law_m", "_law_few"] (defScope s__law_figures) := ⟨rfl, rfl, rfl, by decide +kernel, rfl, by decide +kernel, by decide +kernel⟩
abbrev s__law_any_text : Stmt := topS 38
abbrev N__law_any_text : List Str := ["_law_m", "_law_side", "_law_road", "_law_ahead", "_law_behind", "_law_found"]
theorem sc__law_any_text : FnScope N__law_any_text ["_law_m"] (defScope s__law_any_text) := ⟨rfl, rfl, rfl, by decide +kernel, rfl, by decide +kernel, by decide +kernel⟩
abbrev s__law_spoilt : Stmt := topS 45
abbrev N__law_spoilt : List Str := ["_law_m", "_law_text", "_law_k", "_law_road", "_law_sign"]
theorem sc__law_spoilt : FnScope N__law_spoilt ["_law_m", "_law_text"] (defScope s__law_spoilt) := ⟨rfl, rfl, rfl, by decide +kernel, rfl, by decide +kernel, by decide +kernel⟩
abbrev s__law_all_figures : Stmt := topS 39
abbrev N__law_all_figures : List Str := ["_law_text", "_law_sign"]
theorem sc__law_all_figures : FnScope N__law_all_figures ["_law_text"] (defScope s__law_all_figures) := ⟨rfl, rfl, rfl, by decide +kernel, rfl, by decide +kernel, by decide +kernel⟩
abbrev s__law_is_whole_text : Stmt := topS 40
abbrev N__law_is_whole_text : List Str := ["_law_text", "_law_left", "_law_ahead", "_law_mark", "_law_behind", "_law_size", "_law_whole", "_law_point_so", "_law_rest"]
theorem sc__law_is_whole_text : FnScope N__law_is_whole_text ["_law_text"] (defScope s__law_is_whole_text) := ⟨rfl, rfl, rfl, by decide +kernel, rfl, by decide +kernel, by decide +kernel⟩
abbrev s__law_begins : Stmt := topS 41
abbrev N__law_begins : List Str := ["_law_text", "_law_more"]
theorem sc__law_begins : FnScope N__law_begins ["_law_text"] (defScope s__law_begins) := ⟨rfl, rfl, rfl, by decide +kernel, rfl, by decide +kernel, by decide +kernel⟩
abbrev s__law_signs_due : Stmt := topS 44
abbrev N__law_signs_due : List Str := ["_law_text", "_law_sign"]
theorem sc__law_signs_due : FnScope N__law_signs_due ["_law_text"] (defScope s__law_signs_due) := ⟨rfl, rfl, rfl, by decide +kernel, rfl, by decide +kernel, by decide +kernel⟩
abbrev s__law_let_by : Stmt := topS 46
abbrev N__law_let_by : List Str := ["_law_text", "_law_k"]
theorem sc__law_let_by : FnScope N__law_let_by ["_law_text"] (defScope s__law_let_by) := ⟨rfl, rfl, rfl, by decide +kernel, rfl, by decide +kernel, by decide +kernel⟩
abbrev s_is_whole : Stmt := topS 10
abbrev N_is_whole : List Str := ["thing", "least", "most"]
theorem sc_is_whole : FnScope N_is_whole ["thing", "least", "most"] (defScope s_is_whole) := ⟨rfl, rfl, rfl, by decide +kernel, rfl, by decide +kernel, by decide +kernel⟩
abbrev s_is_shape : Stmt := topS 11
abbrev N_is_shape : List Str := ["thing"]
theorem sc_is_shape : FnScope N_is_shape ["thing"] (defScope s_is_shape) := ⟨rfl, rfl, rfl, by decide +kernel, rfl, by decide +kernel, by decide +kernel⟩
abbrev s_is_way : Stmt := topS 18
abbrev N_is_way : List Str := ["thing"]
theorem sc_is_way : FnScope N_is_way ["thing"] (defScope s_is_way) := ⟨rfl, rfl, rfl, by decide +kernel, rfl, by decide +kernel, by decide +kernel⟩
abbrev s_need_ways : Stmt := topS 22
abbrev N_need_ways : List Str := ["shape", "way"]
theorem sc_need_ways : FnScope N_need_ways ["shape", "way"] (defScope s_need_ways) := ⟨rfl, rfl, rfl, by decide +kernel, rfl, by decide +kernel, by decide +kernel⟩
abbrev s_Feed___init__ : Stmt := inClass (topS 31) 0
abbrev N_Feed___init__ : List Str := ["self", "shape", "way"]
theorem sc_Feed___init__ : FnScope N_Feed___init__ ["self", "shape", "way"] (defScope s_Feed___init__) := ⟨rfl, rfl, rfl, by decide +kernel, rfl, by decide +kernel, by decide +kernel⟩
abbrev s_Feed_heard : Stmt := inClass (topS 31) 1
abbrev N_Feed_heard : List Str := ["self"]
theorem sc_Feed_heard : FnScope N_Feed_heard ["self"] (defScope s_Feed_heard) := ⟨rfl, rfl, rfl, by decide +kernel, rfl, by decide +kernel, by decide +kernel⟩
abbrev s_Feed_is_text : Stmt := inClass (topS 31) 5
abbrev N_Feed_is_text : List Str := ["self"]
theorem sc_Feed_is_text : FnScope N_Feed_is_text ["self"] (defScope s_Feed_is_text) := ⟨rfl, rfl, rfl, by decide +kernel, rfl, by decide +kernel, by decide +kernel⟩
abbrev s_Feed_push : Stmt := inClass (topS 31) 3
abbrev N_Feed_push : List Str := ["self", "piece", "stage", "place", "sign"]
theorem sc_Feed_push : FnScope N_Feed_push ["self", "piece"] (defScope s_Feed_push) := ⟨rfl, rfl, rfl, by decide +kernel, rfl, by decide +kernel, by decide +kernel⟩
abbrev s_Feed___len__ : Stmt := inClass (topS 31) 12
abbrev N_Feed___len__ : List Str := ["self"]
theorem sc_Feed___len__ : FnScope N_Feed___len__ ["self"] (defScope s_Feed___len__) := ⟨rfl, rfl, rfl, by decide +kernel, rfl, by decide +kernel, by decide +kernel⟩
abbrev s__law_class : Stmt := topS 42
abbrev N__law_class : List Str := ["_law_error"]
theorem sc__law_class : FnScope N__law_class ["_law_error"] (defScope s__law_class) := ⟨rfl, rfl, rfl, by decide +kernel, rfl, by decide +kernel, by decide +kernel⟩
abbrev s__law_feed_right : Stmt := topS 47
abbrev N__law_feed_right : List Str := ["_law_text", "_law_feed", "_law_stop", "_law_k", "_law_other", "_law_due"]
theorem sc__law_feed_right : FnScope N__law_feed_right ["_law_text"] (defScope s__law_feed_right) := ⟨rfl, rfl, rfl, by decide +kernel, rfl, by decide +kernel, by decide +kernel⟩
abbrev s_law : Stmt := topS 50
abbrev N_law : List Str := ["_law_script", "_law_m", "_law_thing", "_law_turn", "_law_text", "_law_bad", "_law_one"]
theorem sc_law : FnScope N_law ["_law_script"] (defScope s_law) := ⟨rfl, rfl, rfl, by decide +kernel, rfl, by decide +kernel, by decide +kernel⟩
abbrev s__law_told : Stmt := topS 43
abbrev N__law_told : List Str := ["_law_deed", "_law_error", "_law_found", "e"]
theorem sc__law_told : FnScope N__law_told ["_law_deed"] (defScope s__law_told) := ⟨rfl, rfl, rfl, by decide +kernel, rfl, by decide +kernel, by decide +kernel⟩
abbrev s_BadText___init__ : Stmt := inClass (topS 3) 0
abbrev N_BadText___init__ : List Str := ["self", "place"]
theorem sc_BadText___init__ : FnScope N_BadText___init__ ["self", "place"] (defScope s_BadText___init__) := ⟨rfl, rfl, rfl, by decide +kernel, rfl, by decide +kernel, by decide +kernel⟩
abbrev s_BadValue___init__ : Stmt := inClass (topS 2) 0
abbrev N_BadValue___init__ : List Str := ["self", "what"]
theorem sc_BadValue___init__ : FnScope N_BadValue___init__ ["self", "what"] (defScope s_BadValue___init__) := ⟨rfl, rfl, rfl, by decide +kernel, rfl, by decide +kernel, by decide +kernel⟩
abbrev s_NotFinite___init__ : Stmt := inClass (topS 4) 0
def mkC (K : PySem.W.Frag) (c_Feed c_BadText c_BadValue c_NotFinite p__law_feed_right : Addr) : Cc := ⟨K, fun n => List.lookup n [(("Feed" : Str), c_Feed)], [(p__law_feed_right, ("_law_feed_right" : Str) ++ ".<locals>." ++ "<lambda>")], fun n => List.lookup n [(("BadText" : Str), c_BadText), (("BadValue" : Str), c_BadValue), (("NotFinite" : Str), c_NotFinite)]⟩
structure Tx (w : World) (K : PySem.W.Frag) (mg : Str → Option Value) (c_Feed c_BadText c_BadValue c_NotFinite p__law_feed_right t__law_feed_right a_BEHIND_E a_DOUBLE a_FOLLOWING a_WHOLE_TEXTS : Addr) : Prop where
  g_BEHIND_E : mg "BEHIND_E" = some (.ref a_BEHIND_E)
  g_DOUBLE : mg "DOUBLE" = some (.ref a_DOUBLE)
  g_FOLLOWING : mg "FOLLOWING" = some (.ref a_FOLLOWING)
  g_WHOLE_TEXTS : mg "WHOLE_TEXTS" = some (.ref a_WHOLE_TEXTS)
  g_Feed : mg "Feed" = some (.ref c_Feed)
  g_BadText : mg "BadText" = some (.ref c_BadText)
  g_BadValue : mg "BadValue" = some (.ref c_BadValue)
  g_NotFinite : mg "NotFinite" = some (.ref c_NotFinite)
  cd__law_feed_right : CodeOf K mg "_law_feed_right" t__law_feed_right
  tb__law_feed_right : PySem.W.tabIn K "_law_feed_right" = some (t__law_feed_right, p__law_feed_right)
  nk__law_feed_right : K.lookup p__law_feed_right = none
  tnd : ((mkC K c_Feed c_BadText c_BadValue c_NotFinite p__law_feed_right).T.map (·.1)).Nodup
  isx : IsxOk (mkC K c_Feed c_BadText c_BadValue c_NotFinite p__law_feed_right)
  xf_state : XfOk (mkC K c_Feed c_BadText c_BadValue c_NotFinite p__law_feed_right) "state"
  xf_place : XfOk (mkC K c_Feed c_BadText c_BadValue c_NotFinite p__law_feed_right) "place"
  xf_what : XfOk (mkC K c_Feed c_BadText c_BadValue c_NotFinite p__law_feed_right) "what"
  xt : ∀ n ∈ xNs, ∀ C, (mkC K c_Feed c_BadText c_BadValue c_NotFinite p__law_feed_right).xc n = some C → PySem.W.exmAny K (.ref C) [.ref c_BadValue, .ref c_NotFinite] = some true
  xi_BadText : XInitAt K c_BadText "BadText.__init__" s_BadText___init__
  xm_BadText : XMkV K c_BadText
  xs_BadText_place : XSt K c_BadText "place"
  xs_BadText_what : XSt K c_BadText "what"
  xi_BadValue : XInitAt K c_BadValue "BadValue.__init__" s_BadValue___init__
  xm_BadValue : XMkV K c_BadValue
  xs_BadValue_what : XSt K c_BadValue "what"
  xi_NotFinite : XInitAt K c_NotFinite "NotFinite.__init__" s_NotFinite___init__
  xm_NotFinite : XMkA K c_NotFinite
  xs_NotFinite_state : XSt K c_NotFinite "state"
  cr : ClX.CRead K c_BadValue (.type "type")
  xv : ∃ fI fdI, FD K "__init__" "BadValue.__init__" s_BadValue___init__ [] [] fI fdI ∧ PySem.W.findCls K (.ref c_BadValue) (.type "type") "__init__" = some (.val (.ref fI))
  c_ALL_SIGNS : ∃ u, mg "ALL_SIGNS" = some u ∧ RelV (.str "+-.0123456789aefin") u
  t_ALL_SIGNS : ∀ ρ H, Dat (mkC K c_Feed c_BadText c_BadValue c_NotFinite p__law_feed_right) ρ H (.str "+-.0123456789aefin") (.str "+-.0123456789aefin")
  c_AWAY : ∃ u, mg "AWAY" = some u ∧ RelV (.str "away") u
  t_AWAY : ∀ ρ H, Dat (mkC K c_Feed c_BadText c_BadValue c_NotFinite p__law_feed_right) ρ H (.str "away") (.str "away")
  c_BEHIND_E : ∃ u, mg "BEHIND_E" = some u ∧ RelV (.ref a_BEHIND_E) u
  kt_BEHIND_E : KTab K w a_BEHIND_E U_BEHIND_E
  c_DOUBLE : ∃ u, mg "DOUBLE" = some u ∧ RelV (.ref a_DOUBLE) u
  t_DOUBLE : ∀ ρ H, Dat (mkC K c_Feed c_BadText c_BadValue c_NotFinite p__law_feed_right) ρ H (.tup [(.int (53)), (.int (-1074)), (.int (971))]) (.ref a_DOUBLE)
  c_DOWN : ∃ u, mg "DOWN" = some u ∧ RelV (.str "down") u
  t_DOWN : ∀ ρ H, Dat (mkC K c_Feed c_BadText c_BadValue c_NotFinite p__law_feed_right) ρ H (.str "down") (.str "down")
  c_FIGURES : ∃ u, mg "FIGURES" = some u ∧ RelV (.str "0123456789") u
  t_FIGURES : ∀ ρ H, Dat (mkC K c_Feed c_BadText c_BadValue c_NotFinite p__law_feed_right) ρ H (.str "0123456789") (.str "0123456789")
  c_FOLLOWING : ∃ u, mg "FOLLOWING" = some u ∧ RelV (.ref a_FOLLOWING) u
  kt_FOLLOWING : KTab K w a_FOLLOWING U_FOLLOWING
  c_LEAST_LOW : ∃ u, mg "LEAST_LOW" = some u ∧ RelV (.int (-1100)) u
  t_LEAST_LOW : ∀ ρ H, Dat (mkC K c_Feed c_BadText c_BadValue c_NotFinite p__law_feed_right) ρ H (.int (-1100)) (.int (-1100))
  c_MOST_HIGH : ∃ u, mg "MOST_HIGH" = some u ∧ RelV (.int (1000)) u
  t_MOST_HIGH : ∀ ρ H, Dat (mkC K c_Feed c_BadText c_BadValue c_NotFinite p__law_feed_right) ρ H (.int (1000)) (.int (1000))
  c_MOST_PRECISION : ∃ u, mg "MOST_PRECISION" = some u ∧ RelV (.int (64)) u
  t_MOST_PRECISION : ∀ ρ H, Dat (mkC K c_Feed c_BadText c_BadValue c_NotFinite p__law_feed_right) ρ H (.int (64)) (.int (64))
  c_MOST_SIGNS : ∃ u, mg "MOST_SIGNS" = some u ∧ RelV (.int (1900)) u
  t_MOST_SIGNS : ∀ ρ H, Dat (mkC K c_Feed c_BadText c_BadValue c_NotFinite p__law_feed_right) ρ H (.int (1900)) (.int (1900))
  c_NEAREST : ∃ u, mg "NEAREST" = some u ∧ RelV (.str "nearest") u
  t_NEAREST : ∀ ρ H, Dat (mkC K c_Feed c_BadText c_BadValue c_NotFinite p__law_feed_right) ρ H (.str "nearest") (.str "nearest")
  c_UP : ∃ u, mg "UP" = some u ∧ RelV (.str "up") u
  t_UP : ∀ ρ H, Dat (mkC K c_Feed c_BadText c_BadValue c_NotFinite p__law_feed_right) ρ H (.str "up") (.str "up")
  c_WHOLE_TEXTS : ∃ u, mg "WHOLE_TEXTS" = some u ∧ RelV (.ref a_WHOLE_TEXTS) u
  t_WHOLE_TEXTS : ∀ ρ H, Dat (mkC K c_Feed c_BadText c_BadValue c_NotFinite p__law_feed_right) ρ H (.tup [(.str "nan"), (.str "inf"), (.str "whole"), (.str "point"), (.str "e1"), (.str "e2"), (.str "e3"), (.str "e4")]) (.ref a_WHOLE_TEXTS)
  c_ZERO : ∃ u, mg "ZERO" = some u ∧ RelV (.str "zero") u
  t_ZERO : ∀ ρ H, Dat (mkC K c_Feed c_BadText c_BadValue c_NotFinite p__law_feed_right) ρ H (.str "zero") (.str "zero")
  d__law_folded : DefAt K mg "_law_folded" s__law_folded [] []
  d__law_begun : DefAt K mg "_law_begun" s__law_begun [] []
  d__law_deep : DefAt K mg "_law_deep" s__law_deep [] []
  d_stage_behind : DefAt K mg "stage_behind" s_stage_behind [] []
  d_stage_of : DefAt K mg "stage_of" s_stage_of [] []
  d_follows : DefAt K mg "follows" s_follows [] []
  d__law_mixed : DefAt K mg "_law_mixed" s__law_mixed [] []
  d__law_draw : DefAt K mg "_law_draw" s__law_draw [] []
  d__law_long_right : DefAt K mg "_law_long_right" s__law_long_right [] []
  d__law_figures : DefAt K mg "_law_figures" s__law_figures [] []
  d__law_any_text : DefAt K mg "_law_any_text" s__law_any_text [] []
  d__law_spoilt : DefAt K mg "_law_spoilt" s__law_spoilt [] []
  d__law_all_figures : DefAt K mg "_law_all_figures" s__law_all_figures [] []
  d__law_is_whole_text : DefAt K mg "_law_is_whole_text" s__law_is_whole_text [] []
  d__law_begins : DefAt K mg "_law_begins" s__law_begins [] []
  d__law_signs_due : DefAt K mg "_law_signs_due" s__law_signs_due [] []
  d__law_let_by : DefAt K mg "_law_let_by" s__law_let_by [] []
  d_is_whole : DefAt K mg "is_whole" s_is_whole [] []
  d_is_shape : DefAt K mg "is_shape" s_is_shape [] []
  d_is_way : DefAt K mg "is_way" s_is_way [] []
  d_need_ways : DefAt K mg "need_ways" s_need_ways [] []
  d_Feed___init__ : InitAt K c_Feed "Feed.__init__" s_Feed___init__ [.ref a_DOUBLE] [("way", .str "nearest")]
  d_Feed_heard : MethAt K c_Feed "heard" "Feed.heard" s_Feed_heard [] []
  d_Feed_is_text : MethAt K c_Feed "is_text" "Feed.is_text" s_Feed_is_text [] []
  d_Feed_push : MethAt K c_Feed "push" "Feed.push" s_Feed_push [] []
  d_Feed___len__ : MethAt K c_Feed "__len__" "Feed.__len__" s_Feed___len__ [] []
  d__law_class : DefAt K mg "_law_class" s__law_class [] []
  d__law_feed_right : DefAt K mg "_law_feed_right" s__law_feed_right [] []
  d_law : DefAt K mg "law" s_law [] []
  d__law_told : DefAt K mg "_law_told" s__law_told [] []
  cl_Feed : Cls K c_Feed
  n_Feed_all_pieces : NoAttr K c_Feed "all_pieces"
  n_Feed_by_way : NoAttr K c_Feed "by_way"
  n_Feed_to_shape : NoAttr K c_Feed "to_shape"
  z_ArithmeticError : mg "ArithmeticError" = none
  z_ValueError : mg "ValueError" = none
  z_bool : mg "bool" = none
  z_enumerate : mg "enumerate" = none
  z_int : mg "int" = none
  z_isinstance : mg "isinstance" = none
  z_len : mg "len" = none
  z_min : mg "min" = none
  z_range : mg "range" = none
  z_str : mg "str" = none
  z_tuple : mg "tuple" = none
  isi : IsiOk (mkC K c_Feed c_BadText c_BadValue c_NotFinite p__law_feed_right)
abbrev r__law_folded1 : List Src := [.p 0]
theorem b__law_folded1 {w : World} {K : PySem.W.Frag} {mg : Str → Option Value} {c_Feed c_BadText c_BadValue c_NotFinite p__law_feed_right t__law_feed_right a_BEHIND_E a_DOUBLE a_FOLLOWING a_WHOLE_TEXTS : Addr} (T : Tx w K mg c_Feed c_BadText c_BadValue c_NotFinite p__law_feed_right t__law_feed_right a_BEHIND_E a_DOUBLE a_FOLLOWING a_WHOLE_TEXTS) : ∀ f fd, FD K "_law_folded" "_law_folded" s__law_folded [] [] f fd → KB K fd ["_law_script"] 1 [] (fun vs zs => srcV vs zs [.p 0]) := fun f fd F =>
  FunD.kbA F fun _ _ _ _ _ _ vs us zs ws r1 r2 l1 l2 => match vs, us, zs, ws, r1, r2, l1, l2 with
  | [_], [y0], [], [], (.cons p0 .nil), .nil, _, _ => ⟨[y0], rfl, (.cons p0 .nil)⟩
theorem q__law_folded1 {w : World} {K : PySem.W.Frag} {mg : Str → Option Value} {c_Feed c_BadText c_BadValue c_NotFinite p__law_feed_right t__law_feed_right a_BEHIND_E a_DOUBLE a_FOLLOWING a_WHOLE_TEXTS : Addr} (T : Tx w K mg c_Feed c_BadText c_BadValue c_NotFinite p__law_feed_right t__law_feed_right a_BEHIND_E a_DOUBLE a_FOLLOWING a_WHOLE_TEXTS) : srcOk (mkC K c_Feed c_BadText c_BadValue c_NotFinite p__law_feed_right) 1 0 [.p 0] := ⟨by decide, trivial⟩
abbrev r_stage_behind2 : List Src := [.p 0, .p 1]
theorem b_stage_behind2 {w : World} {K : PySem.W.Frag} {mg : Str → Option Value} {c_Feed c_BadText c_BadValue c_NotFinite p__law_feed_right t__law_feed_right a_BEHIND_E a_DOUBLE a_FOLLOWING a_WHOLE_TEXTS : Addr} (T : Tx w K mg c_Feed c_BadText c_BadValue c_NotFinite p__law_feed_right t__law_feed_right a_BEHIND_E a_DOUBLE a_FOLLOWING a_WHOLE_TEXTS) : ∀ f fd, FD K "stage_behind" "stage_behind" s_stage_behind [] [] f fd → KB K fd ["stage", "sign"] 2 [] (fun vs zs => srcV vs zs [.p 0, .p 1]) := fun f fd F =>
  FunD.kbA F fun _ _ _ _ _ _ vs us zs ws r1 r2 l1 l2 => match vs, us, zs, ws, r1, r2, l1, l2 with
  | [_, _], [y0, y1], [], [], (.cons p0 (.cons p1 .nil)), .nil, _, _ => ⟨[y0, y1], rfl, (.cons p0 (.cons p1 .nil))⟩
theorem q_stage_behind2 {w : World} {K : PySem.W.Frag} {mg : Str → Option Value} {c_Feed c_BadText c_BadValue c_NotFinite p__law_feed_right t__law_feed_right a_BEHIND_E a_DOUBLE a_FOLLOWING a_WHOLE_TEXTS : Addr} (T : Tx w K mg c_Feed c_BadText c_BadValue c_NotFinite p__law_feed_right t__law_feed_right a_BEHIND_E a_DOUBLE a_FOLLOWING a_WHOLE_TEXTS) : srcOk (mkC K c_Feed c_BadText c_BadValue c_NotFinite p__law_feed_right) 2 0 [.p 0, .p 1] := ⟨by decide, ⟨by decide, trivial⟩⟩
abbrev r_stage_of1 : List Src := [.p 0]
theorem b_stage_of1 {w : World} {K : PySem.W.Frag} {mg : Str → Option Value} {c_Feed c_BadText c_BadValue c_NotFinite p__law_feed_right t__law_feed_right a_BEHIND_E a_DOUBLE a_FOLLOWING a_WHOLE_TEXTS : Addr} (T : Tx w K mg c_Feed c_BadText c_BadValue c_NotFinite p__law_feed_right t__law_feed_right a_BEHIND_E a_DOUBLE a_FOLLOWING a_WHOLE_TEXTS) : ∀ f fd, FD K "stage_of" "stage_of" s_stage_of [] [] f fd → KB K fd ["text"] 1 [] (fun vs zs => srcV vs zs [.p 0]) := fun f fd F =>
  FunD.kbA F fun _ _ _ _ _ _ vs us zs ws r1 r2 l1 l2 => match vs, us, zs, ws, r1, r2, l1, l2 with
  | [_], [y0], [], [], (.cons p0 .nil), .nil, _, _ => ⟨[y0], rfl, (.cons p0 .nil)⟩
theorem q_stage_of1 {w : World} {K : PySem.W.Frag} {mg : Str → Option Value} {c_Feed c_BadText c_BadValue c_NotFinite p__law_feed_right t__law_feed_right a_BEHIND_E a_DOUBLE a_FOLLOWING a_WHOLE_TEXTS : Addr} (T : Tx w K mg c_Feed c_BadText c_BadValue c_NotFinite p__law_feed_right t__law_feed_right a_BEHIND_E a_DOUBLE a_FOLLOWING a_WHOLE_TEXTS) : srcOk (mkC K c_Feed c_BadText c_BadValue c_NotFinite p__law_feed_right) 1 0 [.p 0] := ⟨by decide, trivial⟩
abbrev r__law_mixed2 : List Src := [.p 0, .p 1]
theorem b__law_mixed2 {w : World} {K : PySem.W.Frag} {mg : Str → Option Value} {c_Feed c_BadText c_BadValue c_NotFinite p__law_feed_right t__law_feed_right a_BEHIND_E a_DOUBLE a_FOLLOWING a_WHOLE_TEXTS : Addr} (T : Tx w K mg c_Feed c_BadText c_BadValue c_NotFinite p__law_feed_right t__law_feed_right a_BEHIND_E a_DOUBLE a_FOLLOWING a_WHOLE_TEXTS) : ∀ f fd, FD K "_law_mixed" "_law_mixed" s__law_mixed [] [] f fd → KB K fd ["_law_cell", "_law_k"] 2 [] (fun vs zs => srcV vs zs [.p 0, .p 1]) := fun f fd F =>
  FunD.kbA F fun _ _ _ _ _ _ vs us zs ws r1 r2 l1 l2 => match vs, us, zs, ws, r1, r2, l1, l2 with
  | [_, _], [y0, y1], [], [], (.cons p0 (.cons p1 .nil)), .nil, _, _ => ⟨[y0, y1], rfl, (.cons p0 (.cons p1 .nil))⟩
theorem q__law_mixed2 {w : World} {K : PySem.W.Frag} {mg : Str → Option Value} {c_Feed c_BadText c_BadValue c_NotFinite p__law_feed_right t__law_feed_right a_BEHIND_E a_DOUBLE a_FOLLOWING a_WHOLE_TEXTS : Addr} (T : Tx w K mg c_Feed c_BadText c_BadValue c_NotFinite p__law_feed_right t__law_feed_right a_BEHIND_E a_DOUBLE a_FOLLOWING a_WHOLE_TEXTS) : srcOk (mkC K c_Feed c_BadText c_BadValue c_NotFinite p__law_feed_right) 2 0 [.p 0, .p 1] := ⟨by decide, ⟨by decide, trivial⟩⟩
abbrev r__law_draw2 : List Src := [.p 0, .p 1]
theorem b__law_draw2 {w : World} {K : PySem.W.Frag} {mg : Str → Option Value} {c_Feed c_BadText c_BadValue c_NotFinite p__law_feed_right t__law_feed_right a_BEHIND_E a_DOUBLE a_FOLLOWING a_WHOLE_TEXTS : Addr} (T : Tx w K mg c_Feed c_BadText c_BadValue c_NotFinite p__law_feed_right t__law_feed_right a_BEHIND_E a_DOUBLE a_FOLLOWING a_WHOLE_TEXTS) : ∀ f fd, FD K "_law_draw" "_law_draw" s__law_draw [] [] f fd → KB K fd ["_law_m", "_law_top"] 2 [] (fun vs zs => srcV vs zs [.p 0, .p 1]) := fun f fd F =>
  FunD.kbA F fun _ _ _ _ _ _ vs us zs ws r1 r2 l1 l2 => match vs, us, zs, ws, r1, r2, l1, l2 with
  | [_, _], [y0, y1], [], [], (.cons p0 (.cons p1 .nil)), .nil, _, _ => ⟨[y0, y1], rfl, (.cons p0 (.cons p1 .nil))⟩
theorem q__law_draw2 {w : World} {K : PySem.W.Frag} {mg : Str → Option Value} {c_Feed c_BadText c_BadValue c_NotFinite p__law_feed_right t__law_feed_right a_BEHIND_E a_DOUBLE a_FOLLOWING a_WHOLE_TEXTS : Addr} (T : Tx w K mg c_Feed c_BadText c_BadValue c_NotFinite p__law_feed_right t__law_feed_right a_BEHIND_E a_DOUBLE a_FOLLOWING a_WHOLE_TEXTS) : srcOk (mkC K c_Feed c_BadText c_BadValue c_NotFinite p__law_feed_right) 2 0 [.p 0, .p 1] := ⟨by decide, ⟨by decide, trivial⟩⟩
abbrev r_follows1 : List Src := [.p 0]
theorem b_follows1 {w : World} {K : PySem.W.Frag} {mg : Str → Option Value} {c_Feed c_BadText c_BadValue c_NotFinite p__law_feed_right t__law_feed_right a_BEHIND_E a_DOUBLE a_FOLLOWING a_WHOLE_TEXTS : Addr} (T : Tx w K mg c_Feed c_BadText c_BadValue c_NotFinite p__law_feed_right t__law_feed_right a_BEHIND_E a_DOUBLE a_FOLLOWING a_WHOLE_TEXTS) : ∀ f fd, FD K "follows" "follows" s_follows [] [] f fd → KB K fd ["text"] 1 [] (fun vs zs => srcV vs zs [.p 0]) := fun f fd F =>
  FunD.kbA F fun _ _ _ _ _ _ vs us zs ws r1 r2 l1 l2 => match vs, us, zs, ws, r1, r2, l1, l2 with
  | [_], [y0], [], [], (.cons p0 .nil), .nil, _, _ => ⟨[y0], rfl, (.cons p0 .nil)⟩
theorem q_follows1 {w : World} {K : PySem.W.Frag} {mg : Str → Option Value} {c_Feed c_BadText c_BadValue c_NotFinite p__law_feed_right t__law_feed_right a_BEHIND_E a_DOUBLE a_FOLLOWING a_WHOLE_TEXTS : Addr} (T : Tx w K mg c_Feed c_BadText c_BadValue c_NotFinite p__law_feed_right t__law_feed_right a_BEHIND_E a_DOUBLE a_FOLLOWING a_WHOLE_TEXTS) : srcOk (mkC K c_Feed c_BadText c_BadValue c_NotFinite p__law_feed_right) 1 0 [.p 0] := ⟨by decide, trivial⟩
abbrev r__law_figures2 : List Src := [.p 0, .p 1]
theorem b__law_figures2 {w : World} {K : PySem.W.Frag} {mg : Str → Option Value} {c_Feed c_BadText c_BadValue c_NotFinite p__law_feed_right t__law_feed_right a_BEHIND_E a_DOUBLE a_FOLLOWING a_WHOLE_TEXTS : Addr} (T : Tx w K mg c_Feed c_BadText c_BadValue c_NotFinite p__law_feed_right t__law_feed_right a_BEHIND_E a_DOUBLE a_FOLLOWING a_WHOLE_TEXTS) : ∀ f fd, FD K "_law_figures" "_law_figures" s__law_figures [] [] f fd → KB K fd ["_law_m", "_law_few"] 2 [] (fun vs zs => srcV vs zs [.p 0, .p 1]) := fun f fd F =>
  FunD.kbA F fun _ _ _ _ _ _ vs us zs ws r1 r2 l1 l2 => match vs, us, zs, ws, r1, r2, l1, l2 with
  | [_, _], [y0, y1], [], [], (.cons p0 (.cons p1 .nil)), .nil, _, _ => ⟨[y0, y1], rfl, (.cons p0 (.cons p1 .nil))⟩
theorem q__law_figures2 {w : World} {K : PySem.W.Frag} {mg : Str → Option Value} {c_Feed c_BadText c_BadValue c_NotFinite p__law_feed_right t__law_feed_right a_BEHIND_E a_DOUBLE a_FOLLOWING a_WHOLE_TEXTS : Addr} (T : Tx w K mg c_Feed c_BadText c_BadValue c_NotFinite p__law_feed_right t__law_feed_right a_BEHIND_E a_DOUBLE a_FOLLOWING a_WHOLE_TEXTS) : srcOk (mkC K c_Feed c_BadText c_BadValue c_NotFinite p__law_feed_right) 2 0 [.p 0, .p 1] := ⟨by decide, ⟨by decide, trivial⟩⟩
abbrev r__law_all_figures1 : List Src := [.p 0]
theorem b__law_all_figures1 {w : World} {K : PySem.W.Frag} {mg : Str → Option Value} {c_Feed c_BadText c_BadValue c_NotFinite p__law_feed_right t__law_feed_right a_BEHIND_E a_DOUBLE a_FOLLOWING a_WHOLE_TEXTS : Addr} (T : Tx w K mg c_Feed c_BadText c_BadValue c_NotFinite p__law_feed_right t__law_feed_right a_BEHIND_E a_DOUBLE a_FOLLOWING a_WHOLE_TEXTS) : ∀ f fd, FD K "_law_all_figures" "_law_all_figures" s__law_all_figures [] [] f fd → KB K fd ["_law_text"] 1 [] (fun vs zs => srcV vs zs [.p 0]) := fun f fd F =>
  FunD.kbA F fun _ _ _ _ _ _ vs us zs ws r1 r2 l1 l2 => match vs, us, zs, ws, r1, r2, l1, l2 with
  | [_], [y0], [], [], (.cons p0 .nil), .nil, _, _ => ⟨[y0], rfl, (.cons p0 .nil)⟩
theorem q__law_all_figures1 {w : World} {K : PySem.W.Frag} {mg : Str → Option Value} {c_Feed c_BadText c_BadValue c_NotFinite p__law_feed_right t__law_feed_right a_BEHIND_E a_DOUBLE a_FOLLOWING a_WHOLE_TEXTS : Addr} (T : Tx w K mg c_Feed c_BadText c_BadValue c_NotFinite p__law_feed_right t__law_feed_right a_BEHIND_E a_DOUBLE a_FOLLOWING a_WHOLE_TEXTS) : srcOk (mkC K c_Feed c_BadText c_BadValue c_NotFinite p__law_feed_right) 1 0 [.p 0] := ⟨by decide, trivial⟩
abbrev r__law_is_whole_text1 : List Src := [.p 0]
theorem b__law_is_whole_text1 {w : World} {K : PySem.W.Frag} {mg : Str → Option Value} {c_Feed c_BadText c_BadValue c_NotFinite p__law_feed_right t__law_feed_right a_BEHIND_E a_DOUBLE a_FOLLOWING a_WHOLE_TEXTS : Addr} (T : Tx w K mg c_Feed c_BadText c_BadValue c_NotFinite p__law_feed_right t__law_feed_right a_BEHIND_E a_DOUBLE a_FOLLOWING a_WHOLE_TEXTS) : ∀ f fd, FD K "_law_is_whole_text" "_law_is_whole_text" s__law_is_whole_text [] [] f fd → KB K fd ["_law_text"] 1 [] (fun vs zs => srcV vs zs [.p 0]) := fun f fd F =>
  FunD.kbA F fun _ _ _ _ _ _ vs us zs ws r1 r2 l1 l2 => match vs, us, zs, ws, r1, r2, l1, l2 with
  | [_], [y0], [], [], (.cons p0 .nil), .nil, _, _ => ⟨[y0], rfl, (.cons p0 .nil)⟩
theorem q__law_is_whole_text1 {w : World} {K : PySem.W.Frag} {mg : Str → Option Value} {c_Feed c_BadText c_BadValue c_NotFinite p__law_feed_right t__law_feed_right a_BEHIND_E a_DOUBLE a_FOLLOWING a_WHOLE_TEXTS : Addr} (T : Tx w K mg c_Feed c_BadText c_BadValue c_NotFinite p__law_feed_right t__law_feed_right a_BEHIND_E a_DOUBLE a_FOLLOWING a_WHOLE_TEXTS) : srcOk (mkC K c_Feed c_BadText c_BadValue c_NotFinite p__law_feed_right) 1 0 [.p 0] := ⟨by decide, trivial⟩
abbrev r__law_begins1 : List Src := [.p 0]
theorem b__law_begins1 {w : World} {K : PySem.W.Frag} {mg : Str → Option Value} {c_Feed c_BadText c_BadValue c_NotFinite p__law_feed_right t__law_feed_right a_BEHIND_E a_DOUBLE a_FOLLOWING a_WHOLE_TEXTS : Addr} (T : Tx w K mg c_Feed c_BadText c_BadValue c_NotFinite p__law_feed_right t__law_feed_right a_BEHIND_E a_DOUBLE a_FOLLOWING a_WHOLE_TEXTS) : ∀ f fd, FD K "_law_begins" "_law_begins" s__law_begins [] [] f fd → KB K fd ["_law_text"] 1 [] (fun vs zs => srcV vs zs [.p 0]) := fun f fd F =>
  FunD.kbA F fun _ _ _ _ _ _ vs us zs ws r1 r2 l1 l2 => match vs, us, zs, ws, r1, r2, l1, l2 with
  | [_], [y0], [], [], (.cons p0 .nil), .nil, _, _ => ⟨[y0], rfl, (.cons p0 .nil)⟩
theorem q__law_begins1 {w : World} {K : PySem.W.Frag} {mg : Str → Option Value} {c_Feed c_BadText c_BadValue c_NotFinite p__law_feed_right t__law_feed_right a_BEHIND_E a_DOUBLE a_FOLLOWING a_WHOLE_TEXTS : Addr} (T : Tx w K mg c_Feed c_BadText c_BadValue c_NotFinite p__law_feed_right t__law_feed_right a_BEHIND_E a_DOUBLE a_FOLLOWING a_WHOLE_TEXTS) : srcOk (mkC K c_Feed c_BadText c_BadValue c_NotFinite p__law_feed_right) 1 0 [.p 0] := ⟨by decide, trivial⟩
abbrev r_is_whole3 : List Src := [.p 0, .p 1, .p 2]
theorem b_is_whole3 {w : World} {K : PySem.W.Frag} {mg : Str → Option Value} {c_Feed c_BadText c_BadValue c_NotFinite p__law_feed_right t__law_feed_right a_BEHIND_E a_DOUBLE a_FOLLOWING a_WHOLE_TEXTS : Addr} (T : Tx w K mg c_Feed c_BadText c_BadValue c_NotFinite p__law_feed_right t__law_feed_right a_BEHIND_E a_DOUBLE a_FOLLOWING a_WHOLE_TEXTS) : ∀ f fd, FD K "is_whole" "is_whole" s_is_whole [] [] f fd → KB K fd ["thing", "least", "most"] 3 [] (fun vs zs => srcV vs zs [.p 0, .p 1, .p 2]) := fun f fd F =>
  FunD.kbA F fun _ _ _ _ _ _ vs us zs ws r1 r2 l1 l2 => match vs, us, zs, ws, r1, r2, l1, l2 with
  | [_, _, _], [y0, y1, y2], [], [], (.cons p0 (.cons p1 (.cons p2 .nil))), .nil, _, _ => ⟨[y0, y1, y2], rfl, (.cons p0 (.cons p1 (.cons p2 .nil)))⟩
theorem q_is_whole3 {w : World} {K : PySem.W.Frag} {mg : Str → Option Value} {c_Feed c_BadText c_BadValue c_NotFinite p__law_feed_right t__law_feed_right a_BEHIND_E a_DOUBLE a_FOLLOWING a_WHOLE_TEXTS : Addr} (T : Tx w K mg c_Feed c_BadText c_BadValue c_NotFinite p__law_feed_right t__law_feed_right a_BEHIND_E a_DOUBLE a_FOLLOWING a_WHOLE_TEXTS) : srcOk (mkC K c_Feed c_BadText c_BadValue c_NotFinite p__law_feed_right) 3 0 [.p 0, .p 1, .p 2] := ⟨by decide, ⟨by decide, ⟨by decide, trivial⟩⟩⟩
abbrev r_is_shape1 : List Src := [.p 0]
theorem b_is_shape1 {w : World} {K : PySem.W.Frag} {mg : Str → Option Value} {c_Feed c_BadText c_BadValue c_NotFinite p__law_feed_right t__law_feed_right a_BEHIND_E a_DOUBLE a_FOLLOWING a_WHOLE_TEXTS : Addr} (T : Tx w K mg c_Feed c_BadText c_BadValue c_NotFinite p__law_feed_right t__law_feed_right a_BEHIND_E a_DOUBLE a_FOLLOWING a_WHOLE_TEXTS) : ∀ f fd, FD K "is_shape" "is_shape" s_is_shape [] [] f fd → KB K fd ["thing"] 1 [] (fun vs zs => srcV vs zs [.p 0]) := fun f fd F =>
  FunD.kbA F fun _ _ _ _ _ _ vs us zs ws r1 r2 l1 l2 => match vs, us, zs, ws, r1, r2, l1, l2 with
  | [_], [y0], [], [], (.cons p0 .nil), .nil, _, _ => ⟨[y0], rfl, (.cons p0 .nil)⟩
theorem q_is_shape1 {w : World} {K : PySem.W.Frag} {mg : Str → Option Value} {c_Feed c_BadText c_BadValue c_NotFinite p__law_feed_right t__law_feed_right a_BEHIND_E a_DOUBLE a_FOLLOWING a_WHOLE_TEXTS : Addr} (T : Tx w K mg c_Feed c_BadText c_BadValue c_NotFinite p__law_feed_right t__law_feed_right a_BEHIND_E a_DOUBLE a_FOLLOWING a_WHOLE_TEXTS) : srcOk (mkC K c_Feed c_BadText c_BadValue c_NotFinite p__law_feed_right) 1 0 [.p 0] := ⟨by decide, trivial⟩
abbrev r_is_way1 : List Src := [.p 0]
theorem b_is_way1 {w : World} {K : PySem.W.Frag} {mg : Str → Option Value} {c_Feed c_BadText c_BadValue c_NotFinite p__law_feed_right t__law_feed_right a_BEHIND_E a_DOUBLE a_FOLLOWING a_WHOLE_TEXTS : Addr} (T : Tx w K mg c_Feed c_BadText c_BadValue c_NotFinite p__law_feed_right t__law_feed_right a_BEHIND_E a_DOUBLE a_FOLLOWING a_WHOLE_TEXTS) : ∀ f fd, FD K "is_way" "is_way" s_is_way [] [] f fd → KB K fd ["thing"] 1 [] (fun vs zs => srcV vs zs [.p 0]) := fun f fd F =>
  FunD.kbA F fun _ _ _ _ _ _ vs us zs ws r1 r2 l1 l2 => match vs, us, zs, ws, r1, r2, l1, l2 with
  | [_], [y0], [], [], (.cons p0 .nil), .nil, _, _ => ⟨[y0], rfl, (.cons p0 .nil)⟩
theorem q_is_way1 {w : World} {K : PySem.W.Frag} {mg : Str → Option Value} {c_Feed c_BadText c_BadValue c_NotFinite p__law_feed_right t__law_feed_right a_BEHIND_E a_DOUBLE a_FOLLOWING a_WHOLE_TEXTS : Addr} (T : Tx w K mg c_Feed c_BadText c_BadValue c_NotFinite p__law_feed_right t__law_feed_right a_BEHIND_E a_DOUBLE a_FOLLOWING a_WHOLE_TEXTS) : srcOk (mkC K c_Feed c_BadText c_BadValue c_NotFinite p__law_feed_right) 1 0 [.p 0] := ⟨by decide, trivial⟩
abbrev r_need_ways2 : List Src := [.p 0, .p 1]
theorem b_need_ways2 {w : World} {K : PySem.W.Frag} {mg : Str → Option Value} {c_Feed c_BadText c_BadValue c_NotFinite p__law_feed_right t__law_feed_right a_BEHIND_E a_DOUBLE a_FOLLOWING a_WHOLE_TEXTS : Addr} (T : Tx w K mg c_Feed c_BadText c_BadValue c_NotFinite p__law_feed_right t__law_feed_right a_BEHIND_E a_DOUBLE a_FOLLOWING a_WHOLE_TEXTS) : ∀ f fd, FD K "need_ways" "need_ways" s_need_ways [] [] f fd → KB K fd ["shape", "way"] 2 [] (fun vs zs => srcV vs zs [.p 0, .p 1]) := fun f fd F =>
  FunD.kbA F fun _ _ _ _ _ _ vs us zs ws r1 r2 l1 l2 => match vs, us, zs, ws, r1, r2, l1, l2 with
  | [_, _], [y0, y1], [], [], (.cons p0 (.cons p1 .nil)), .nil, _, _ => ⟨[y0, y1], rfl, (.cons p0 (.cons p1 .nil))⟩
theorem q_need_ways2 {w : World} {K : PySem.W.Frag} {mg : Str → Option Value} {c_Feed c_BadText c_BadValue c_NotFinite p__law_feed_right t__law_feed_right a_BEHIND_E a_DOUBLE a_FOLLOWING a_WHOLE_TEXTS : Addr} (T : Tx w K mg c_Feed c_BadText c_BadValue c_NotFinite p__law_feed_right t__law_feed_right a_BEHIND_E a_DOUBLE a_FOLLOWING a_WHOLE_TEXTS) : srcOk (mkC K c_Feed c_BadText c_BadValue c_NotFinite p__law_feed_right) 2 0 [.p 0, .p 1] := ⟨by decide, ⟨by decide, trivial⟩⟩
abbrev r_Feed_heard0 : List Src := [.p 0]
theorem b_Feed_heard0 {w : World} {K : PySem.W.Frag} {mg : Str → Option Value} {c_Feed c_BadText c_BadValue c_NotFinite p__law_feed_right t__law_feed_right a_BEHIND_E a_DOUBLE a_FOLLOWING a_WHOLE_TEXTS : Addr} (T : Tx w K mg c_Feed c_BadText c_BadValue c_NotFinite p__law_feed_right t__law_feed_right a_BEHIND_E a_DOUBLE a_FOLLOWING a_WHOLE_TEXTS) : ∀ f fd, FD K "heard" "Feed.heard" s_Feed_heard [] [] f fd → KB K fd ["self"] 1 [] (fun vs zs => srcV vs zs [.p 0]) := fun f fd F =>
  FunD.kbA F fun _ _ _ _ _ _ vs us zs ws r1 r2 l1 l2 => match vs, us, zs, ws, r1, r2, l1, l2 with
  | [_], [y0], [], [], (.cons p0 .nil), .nil, _, _ => ⟨[y0], rfl, (.cons p0 .nil)⟩
theorem q_Feed_heard0 {w : World} {K : PySem.W.Frag} {mg : Str → Option Value} {c_Feed c_BadText c_BadValue c_NotFinite p__law_feed_right t__law_feed_right a_BEHIND_E a_DOUBLE a_FOLLOWING a_WHOLE_TEXTS : Addr} (T : Tx w K mg c_Feed c_BadText c_BadValue c_NotFinite p__law_feed_right t__law_feed_right a_BEHIND_E a_DOUBLE a_FOLLOWING a_WHOLE_TEXTS) : srcOk (mkC K c_Feed c_BadText c_BadValue c_NotFinite p__law_feed_right) 1 0 [.p 0] := ⟨by decide, trivial⟩
abbrev r__law_let_by1 : List Src := [.p 0]
theorem b__law_let_by1 {w : World} {K : PySem.W.Frag} {mg : Str → Option Value} {c_Feed c_BadText c_BadValue c_NotFinite p__law_feed_right t__law_feed_right a_BEHIND_E a_DOUBLE a_FOLLOWING a_WHOLE_TEXTS : Addr} (T : Tx w K mg c_Feed c_BadText c_BadValue c_NotFinite p__law_feed_right t__law_feed_right a_BEHIND_E a_DOUBLE a_FOLLOWING a_WHOLE_TEXTS) : ∀ f fd, FD K "_law_let_by" "_law_let_by" s__law_let_by [] [] f fd → KB K fd ["_law_text"] 1 [] (fun vs zs => srcV vs zs [.p 0]) := fun f fd F =>
  FunD.kbA F fun _ _ _ _ _ _ vs us zs ws r1 r2 l1 l2 => match vs, us, zs, ws, r1, r2, l1, l2 with
  | [_], [y0], [], [], (.cons p0 .nil), .nil, _, _ => ⟨[y0], rfl, (.cons p0 .nil)⟩
theorem q__law_let_by1 {w : World} {K : PySem.W.Frag} {mg : Str → Option Value} {c_Feed c_BadText c_BadValue c_NotFinite p__law_feed_right t__law_feed_right a_BEHIND_E a_DOUBLE a_FOLLOWING a_WHOLE_TEXTS : Addr} (T : Tx w K mg c_Feed c_BadText c_BadValue c_NotFinite p__law_feed_right t__law_feed_right a_BEHIND_E a_DOUBLE a_FOLLOWING a_WHOLE_TEXTS) : srcOk (mkC K c_Feed c_BadText c_BadValue c_NotFinite p__law_feed_right) 1 0 [.p 0] := ⟨by decide, trivial⟩
abbrev r_Feed0 {a_DOUBLE : Addr} : List Src := [.p 0, .d (.ref a_DOUBLE) (.tup [(.int (53)), (.int (-1074)), (.int (971))]), .d (.str "nearest") (.str "nearest")]
theorem b_Feed0 {w : World} {K : PySem.W.Frag} {mg : Str → Option Value} {c_Feed c_BadText c_BadValue c_NotFinite p__law_feed_right t__law_feed_right a_BEHIND_E a_DOUBLE a_FOLLOWING a_WHOLE_TEXTS : Addr} (T : Tx w K mg c_Feed c_BadText c_BadValue c_NotFinite p__law_feed_right t__law_feed_right a_BEHIND_E a_DOUBLE a_FOLLOWING a_WHOLE_TEXTS) : ∀ f fd, FD K "__init__" "Feed.__init__" s_Feed___init__ [.ref a_DOUBLE] [("way", .str "nearest")] f fd → KB K fd ["self", "shape", "way"] 1 [] (fun vs zs => srcV vs zs [.p 0, .d (.ref a_DOUBLE) (.tup [(.int (53)), (.int (-1074)), (.int (971))]), .d (.str "nearest") (.str "nearest")]) := fun f fd F =>
  FunD.kbD F [("way", .str "nearest")] (by simp) (by simp) (by intro q hq; simp only [List.mem_cons, List.not_mem_nil, or_false] at hq ⊢; first | exact hq | (rcases hq with rfl | rfl | rfl | rfl <;> simp) | (rcases hq with rfl | rfl | rfl <;> simp) | (rcases hq with rfl | rfl <;> simp) | (subst hq; simp)) fun _ _ _ _ _ _ _ vs us zs ws its mv r1 r2 r3 r4 l1 l2 => match vs, us, zs, ws, its, mv, r1, r2, r3, r4, l1, l2 with
  | [_], [y0], [], [], [t0], [v0], (.cons p0 .nil), .nil, (.cons d0 .nil), (.cons m0 .nil), _, _ => ⟨_, rfl, [y0, t0, v0], ⟨_, _, _, _, _, _, rfl, rfl, rfl⟩, (.cons p0 (.cons d0 (.cons m0 .nil)))⟩
theorem q_Feed0 {w : World} {K : PySem.W.Frag} {mg : Str → Option Value} {c_Feed c_BadText c_BadValue c_NotFinite p__law_feed_right t__law_feed_right a_BEHIND_E a_DOUBLE a_FOLLOWING a_WHOLE_TEXTS : Addr} (T : Tx w K mg c_Feed c_BadText c_BadValue c_NotFinite p__law_feed_right t__law_feed_right a_BEHIND_E a_DOUBLE a_FOLLOWING a_WHOLE_TEXTS) : srcOk (mkC K c_Feed c_BadText c_BadValue c_NotFinite p__law_feed_right) 1 0 [.p 0, .d (.ref a_DOUBLE) (.tup [(.int (53)), (.int (-1074)), (.int (971))]), .d (.str "nearest") (.str "nearest")] := ⟨by decide, ⟨T.t_DOUBLE, ⟨fun _ _ => by simp only [Dat], trivial⟩⟩⟩
abbrev r_Feed_is_text0 : List Src := [.p 0]
theorem b_Feed_is_text0 {w : World} {K : PySem.W.Frag} {mg : Str → Option Value} {c_Feed c_BadText c_BadValue c_NotFinite p__law_feed_right t__law_feed_right a_BEHIND_E a_DOUBLE a_FOLLOWING a_WHOLE_TEXTS : Addr} (T : Tx w K mg c_Feed c_BadText c_BadValue c_NotFinite p__law_feed_right t__law_feed_right a_BEHIND_E a_DOUBLE a_FOLLOWING a_WHOLE_TEXTS) : ∀ f fd, FD K "is_text" "Feed.is_text" s_Feed_is_text [] [] f fd → KB K fd ["self"] 1 [] (fun vs zs => srcV vs zs [.p 0]) := fun f fd F =>
  FunD.kbA F fun _ _ _ _ _ _ vs us zs ws r1 r2 l1 l2 => match vs, us, zs, ws, r1, r2, l1, l2 with
  | [_], [y0], [], [], (.cons p0 .nil), .nil, _, _ => ⟨[y0], rfl, (.cons p0 .nil)⟩
theorem q_Feed_is_text0 {w : World} {K : PySem.W.Frag} {mg : Str → Option Value} {c_Feed c_BadText c_BadValue c_NotFinite p__law_feed_right t__law_feed_right a_BEHIND_E a_DOUBLE a_FOLLOWING a_WHOLE_TEXTS : Addr} (T : Tx w K mg c_Feed c_BadText c_BadValue c_NotFinite p__law_feed_right t__law_feed_right a_BEHIND_E a_DOUBLE a_FOLLOWING a_WHOLE_TEXTS) : srcOk (mkC K c_Feed c_BadText c_BadValue c_NotFinite p__law_feed_right) 1 0 [.p 0] := ⟨by decide, trivial⟩
abbrev r_Feed_push1 : List Src := [.p 0, .p 1]
theorem b_Feed_push1 {w : World} {K : PySem.W.Frag} {mg : Str → Option Value} {c_Feed c_BadText c_BadValue c_NotFinite p__law_feed_right t__law_feed_right a_BEHIND_E a_DOUBLE a_FOLLOWING a_WHOLE_TEXTS : Addr} (T : Tx w K mg c_Feed c_BadText c_BadValue c_NotFinite p__law_feed_right t__law_feed_right a_BEHIND_E a_DOUBLE a_FOLLOWING a_WHOLE_TEXTS) : ∀ f fd, FD K "push" "Feed.push" s_Feed_push [] [] f fd → KB K fd ["self", "piece"] 2 [] (fun vs zs => srcV vs zs [.p 0, .p 1]) := fun f fd F =>
  FunD.kbA F fun _ _ _ _ _ _ vs us zs ws r1 r2 l1 l2 => match vs, us, zs, ws, r1, r2, l1, l2 with
  | [_, _], [y0, y1], [], [], (.cons p0 (.cons p1 .nil)), .nil, _, _ => ⟨[y0, y1], rfl, (.cons p0 (.cons p1 .nil))⟩
theorem q_Feed_push1 {w : World} {K : PySem.W.Frag} {mg : Str → Option Value} {c_Feed c_BadText c_BadValue c_NotFinite p__law_feed_right t__law_feed_right a_BEHIND_E a_DOUBLE a_FOLLOWING a_WHOLE_TEXTS : Addr} (T : Tx w K mg c_Feed c_BadText c_BadValue c_NotFinite p__law_feed_right t__law_feed_right a_BEHIND_E a_DOUBLE a_FOLLOWING a_WHOLE_TEXTS) : srcOk (mkC K c_Feed c_BadText c_BadValue c_NotFinite p__law_feed_right) 2 0 [.p 0, .p 1] := ⟨by decide, ⟨by decide, trivial⟩⟩
theorem b_Feed___len__0 {w : World} {K : PySem.W.Frag} {mg : Str → Option Value} {c_Feed c_BadText c_BadValue c_NotFinite p__law_feed_right t__law_feed_right a_BEHIND_E a_DOUBLE a_FOLLOWING a_WHOLE_TEXTS : Addr} (T : Tx w K mg c_Feed c_BadText c_BadValue c_NotFinite p__law_feed_right t__law_feed_right a_BEHIND_E a_DOUBLE a_FOLLOWING a_WHOLE_TEXTS) : ∀ f fd, FD K "__len__" "Feed.__len__" s_Feed___len__ [] [] f fd → KB K fd ["self"] 1 [] (fun vs zs => srcV vs zs [.p 0]) := fun f fd F =>
  FunD.kbA F fun _ _ _ _ _ _ vs us zs ws r1 r2 l1 l2 => match vs, us, zs, ws, r1, r2, l1, l2 with
  | [_], [y0], [], [], (.cons p0 .nil), .nil, _, _ => ⟨[y0], rfl, (.cons p0 .nil)⟩
abbrev r__law_begun1 : List Src := [.p 0]
theorem b__law_begun1 {w : World} {K : PySem.W.Frag} {mg : Str → Option Value} {c_Feed c_BadText c_BadValue c_NotFinite p__law_feed_right t__law_feed_right a_BEHIND_E a_DOUBLE a_FOLLOWING a_WHOLE_TEXTS : Addr} (T : Tx w K mg c_Feed c_BadText c_BadValue c_NotFinite p__law_feed_right t__law_feed_right a_BEHIND_E a_DOUBLE a_FOLLOWING a_WHOLE_TEXTS) : ∀ f fd, FD K "_law_begun" "_law_begun" s__law_begun [] [] f fd → KB K fd ["_law_script"] 1 [] (fun vs zs => srcV vs zs [.p 0]) := fun f fd F =>
  FunD.kbA F fun _ _ _ _ _ _ vs us zs ws r1 r2 l1 l2 => match vs, us, zs, ws, r1, r2, l1, l2 with
  | [_], [y0], [], [], (.cons p0 .nil), .nil, _, _ => ⟨[y0], rfl, (.cons p0 .nil)⟩
theorem q__law_begun1 {w : World} {K : PySem.W.Frag} {mg : Str → Option Value} {c_Feed c_BadText c_BadValue c_NotFinite p__law_feed_right t__law_feed_right a_BEHIND_E a_DOUBLE a_FOLLOWING a_WHOLE_TEXTS : Addr} (T : Tx w K mg c_Feed c_BadText c_BadValue c_NotFinite p__law_feed_right t__law_feed_right a_BEHIND_E a_DOUBLE a_FOLLOWING a_WHOLE_TEXTS) : srcOk (mkC K c_Feed c_BadText c_BadValue c_NotFinite p__law_feed_right) 1 0 [.p 0] := ⟨by decide, trivial⟩
abbrev r__law_deep0 : List Src := []
theorem b__law_deep0 {w : World} {K : PySem.W.Frag} {mg : Str → Option Value} {c_Feed c_BadText c_BadValue c_NotFinite p__law_feed_right t__law_feed_right a_BEHIND_E a_DOUBLE a_FOLLOWING a_WHOLE_TEXTS : Addr} (T : Tx w K mg c_Feed c_BadText c_BadValue c_NotFinite p__law_feed_right t__law_feed_right a_BEHIND_E a_DOUBLE a_FOLLOWING a_WHOLE_TEXTS) : ∀ f fd, FD K "_law_deep" "_law_deep" s__law_deep [] [] f fd → KB K fd [] 0 [] (fun vs zs => srcV vs zs []) := fun f fd F =>
  FunD.kbA F fun _ _ _ _ _ _ vs us zs ws r1 r2 l1 l2 => match vs, us, zs, ws, r1, r2, l1, l2 with
  | [], [], [], [], .nil, .nil, _, _ => ⟨[], rfl, .nil⟩
theorem q__law_deep0 {w : World} {K : PySem.W.Frag} {mg : Str → Option Value} {c_Feed c_BadText c_BadValue c_NotFinite p__law_feed_right t__law_feed_right a_BEHIND_E a_DOUBLE a_FOLLOWING a_WHOLE_TEXTS : Addr} (T : Tx w K mg c_Feed c_BadText c_BadValue c_NotFinite p__law_feed_right t__law_feed_right a_BEHIND_E a_DOUBLE a_FOLLOWING a_WHOLE_TEXTS) : srcOk (mkC K c_Feed c_BadText c_BadValue c_NotFinite p__law_feed_right) 0 0 [] := trivial
abbrev r__law_long_right1 : List Src := [.p 0]
theorem b__law_long_right1 {w : World} {K : PySem.W.Frag} {mg : Str → Option Value} {c_Feed c_BadText c_BadValue c_NotFinite p__law_feed_right t__law_feed_right a_BEHIND_E a_DOUBLE a_FOLLOWING a_WHOLE_TEXTS : Addr} (T : Tx w K mg c_Feed c_BadText c_BadValue c_NotFinite p__law_feed_right t__law_feed_right a_BEHIND_E a_DOUBLE a_FOLLOWING a_WHOLE_TEXTS) : ∀ f fd, FD K "_law_long_right" "_law_long_right" s__law_long_right [] [] f fd → KB K fd ["_law_m"] 1 [] (fun vs zs => srcV vs zs [.p 0]) := fun f fd F =>
  FunD.kbA F fun _ _ _ _ _ _ vs us zs ws r1 r2 l1 l2 => match vs, us, zs, ws, r1, r2, l1, l2 with
  | [_], [y0], [], [], (.cons p0 .nil), .nil, _, _ => ⟨[y0], rfl, (.cons p0 .nil)⟩
theorem q__law_long_right1 {w : World} {K : PySem.W.Frag} {mg : Str → Option Value} {c_Feed c_BadText c_BadValue c_NotFinite p__law_feed_right t__law_feed_right a_BEHIND_E a_DOUBLE a_FOLLOWING a_WHOLE_TEXTS : Addr} (T : Tx w K mg c_Feed c_BadText c_BadValue c_NotFinite p__law_feed_right t__law_feed_right a_BEHIND_E a_DOUBLE a_FOLLOWING a_WHOLE_TEXTS) : srcOk (mkC K c_Feed c_BadText c_BadValue c_NotFinite p__law_feed_right) 1 0 [.p 0] := ⟨by decide, trivial⟩
abbrev r__law_any_text1 : List Src := [.p 0]
theorem b__law_any_text1 {w : World} {K : PySem.W.Frag} {mg : Str → Option Value} {c_Feed c_BadText c_BadValue c_NotFinite p__law_feed_right t__law_feed_right a_BEHIND_E a_DOUBLE a_FOLLOWING a_WHOLE_TEXTS : Addr} (T : Tx w K mg c_Feed c_BadText c_BadValue c_NotFinite p__law_feed_right t__law_feed_right a_BEHIND_E a_DOUBLE a_FOLLOWING a_WHOLE_TEXTS) : ∀ f fd, FD K "_law_any_text" "_law_any_text" s__law_any_text [] [] f fd → KB K fd ["_law_m"] 1 [] (fun vs zs => srcV vs zs [.p 0]) := fun f fd F =>
  FunD.kbA F fun _ _ _ _ _ _ vs us zs ws r1 r2 l1 l2 => match vs, us, zs, ws, r1, r2, l1, l2 with
  | [_], [y0], [], [], (.cons p0 .nil), .nil, _, _ => ⟨[y0], rfl, (.cons p0 .nil)⟩
theorem q__law_any_text1 {w : World} {K : PySem.W.Frag} {mg : Str → Option Value} {c_Feed c_BadText c_BadValue c_NotFinite p__law_feed_right t__law_feed_right a_BEHIND_E a_DOUBLE a_FOLLOWING a_WHOLE_TEXTS : Addr} (T : Tx w K mg c_Feed c_BadText c_BadValue c_NotFinite p__law_feed_right t__law_feed_right a_BEHIND_E a_DOUBLE a_FOLLOWING a_WHOLE_TEXTS) : srcOk (mkC K c_Feed c_BadText c_BadValue c_NotFinite p__law_feed_right) 1 0 [.p 0] := ⟨by decide, trivial⟩
abbrev r__law_spoilt2 : List Src := [.p 0, .p 1]
theorem b__law_spoilt2 {w : World} {K : PySem.W.Frag} {mg : Str → Option Value} {c_Feed c_BadText c_BadValue c_NotFinite p__law_feed_right t__law_feed_right a_BEHIND_E a_DOUBLE a_FOLLOWING a_WHOLE_TEXTS : Addr} (T : Tx w K mg c_Feed c_BadText c_BadValue c_NotFinite p__law_feed_right t__law_feed_right a_BEHIND_E a_DOUBLE a_FOLLOWING a_WHOLE_TEXTS) : ∀ f fd, FD K "_law_spoilt" "_law_spoilt" s__law_spoilt [] [] f fd → KB K fd ["_law_m", "_law_text"] 2 [] (fun vs zs => srcV vs zs [.p 0, .p 1]) := fun f fd F =>
  FunD.kbA F fun _ _ _ _ _ _ vs us zs ws r1 r2 l1 l2 => match vs, us, zs, ws, r1, r2, l1, l2 with
  | [_, _], [y0, y1], [], [], (.cons p0 (.cons p1 .nil)), .nil, _, _ => ⟨[y0, y1], rfl, (.cons p0 (.cons p1 .nil))⟩
theorem q__law_spoilt2 {w : World} {K : PySem.W.Frag} {mg : Str → Option Value} {c_Feed c_BadText c_BadValue c_NotFinite p__law_feed_right t__law_feed_right a_BEHIND_E a_DOUBLE a_FOLLOWING a_WHOLE_TEXTS : Addr} (T : Tx w K mg c_Feed c_BadText c_BadValue c_NotFinite p__law_feed_right t__law_feed_right a_BEHIND_E a_DOUBLE a_FOLLOWING a_WHOLE_TEXTS) : srcOk (mkC K c_Feed c_BadText c_BadValue c_NotFinite p__law_feed_right) 2 0 [.p 0, .p 1] := ⟨by decide, ⟨by decide, trivial⟩⟩
abbrev r__law_signs_due1 : List Src := [.p 0]
theorem b__law_signs_due1 {w : World} {K : PySem.W.Frag} {mg : Str → Option Value} {c_Feed c_BadText c_BadValue c_NotFinite p__law_feed_right t__law_feed_right a_BEHIND_E a_DOUBLE a_FOLLOWING a_WHOLE_TEXTS : Addr} (T : Tx w K mg c_Feed c_BadText c_BadValue c_NotFinite p__law_feed_right t__law_feed_right a_BEHIND_E a_DOUBLE a_FOLLOWING a_WHOLE_TEXTS) : ∀ f fd, FD K "_law_signs_due" "_law_signs_due" s__law_signs_due [] [] f fd → KB K fd ["_law_text"] 1 [] (fun vs zs => srcV vs zs [.p 0]) := fun f fd F =>
  FunD.kbA F fun _ _ _ _ _ _ vs us zs ws r1 r2 l1 l2 => match vs, us, zs, ws, r1, r2, l1, l2 with
  | [_], [y0], [], [], (.cons p0 .nil), .nil, _, _ => ⟨[y0], rfl, (.cons p0 .nil)⟩
theorem q__law_signs_due1 {w : World} {K : PySem.W.Frag} {mg : Str → Option Value} {c_Feed c_BadText c_BadValue c_NotFinite p__law_feed_right t__law_feed_right a_BEHIND_E a_DOUBLE a_FOLLOWING a_WHOLE_TEXTS : Addr} (T : Tx w K mg c_Feed c_BadText c_BadValue c_NotFinite p__law_feed_right t__law_feed_right a_BEHIND_E a_DOUBLE a_FOLLOWING a_WHOLE_TEXTS) : srcOk (mkC K c_Feed c_BadText c_BadValue c_NotFinite p__law_feed_right) 1 0 [.p 0] := ⟨by decide, trivial⟩
abbrev r__law_feed_right1 : List Src := [.p 0]
theorem b__law_feed_right1 {w : World} {K : PySem.W.Frag} {mg : Str → Option Value} {c_Feed c_BadText c_BadValue c_NotFinite p__law_feed_right t__law_feed_right a_BEHIND_E a_DOUBLE a_FOLLOWING a_WHOLE_TEXTS : Addr} (T : Tx w K mg c_Feed c_BadText c_BadValue c_NotFinite p__law_feed_right t__law_feed_right a_BEHIND_E a_DOUBLE a_FOLLOWING a_WHOLE_TEXTS) : ∀ f fd, FD K "_law_feed_right" "_law_feed_right" s__law_feed_right [] [] f fd → KB K fd ["_law_text"] 1 [] (fun vs zs => srcV vs zs [.p 0]) := fun f fd F =>
  FunD.kbA F fun _ _ _ _ _ _ vs us zs ws r1 r2 l1 l2 => match vs, us, zs, ws, r1, r2, l1, l2 with
  | [_], [y0], [], [], (.cons p0 .nil), .nil, _, _ => ⟨[y0], rfl, (.cons p0 .nil)⟩
theorem q__law_feed_right1 {w : World} {K : PySem.W.Frag} {mg : Str → Option Value} {c_Feed c_BadText c_BadValue c_NotFinite p__law_feed_right t__law_feed_right a_BEHIND_E a_DOUBLE a_FOLLOWING a_WHOLE_TEXTS : Addr} (T : Tx w K mg c_Feed c_BadText c_BadValue c_NotFinite p__law_feed_right t__law_feed_right a_BEHIND_E a_DOUBLE a_FOLLOWING a_WHOLE_TEXTS) : srcOk (mkC K c_Feed c_BadText c_BadValue c_NotFinite p__law_feed_right) 1 0 [.p 0] := ⟨by decide, trivial⟩
section
variable {P : Program} {w : World} {K : PySem.W.Frag} {mg : Str → Option Value} {base : Heap} {c_Feed c_BadText c_BadValue c_NotFinite p__law_feed_right t__law_feed_right a_BEHIND_E a_DOUBLE a_FOLLOWING a_WHOLE_TEXTS : Addr}
theorem okx_BadText (T : Tx w K mg c_Feed c_BadText c_BadValue c_NotFinite p__law_feed_right t__law_feed_right a_BEHIND_E a_DOUBLE a_FOLLOWING a_WHOLE_TEXTS) : XcG P w (mkC K c_Feed c_BadText c_BadValue c_NotFinite p__law_feed_right) mg base 2 "BadText" ["place", "what"] gvT := xcg2 T.xi_BadText sc_BadText___init__ rfl (.inl rfl) (.inl rfl) rfl rfl T.g_BadText F.excBase_ValueError T.xm_BadText T.xs_BadText_what T.xs_BadText_place T.g_BadValue T.cr T.xv sc_BadValue___init__ rfl (.inl rfl) (.inl rfl) (fun _ _ _ _ _ _ us hl => match us, hl with | [_, _], _ => rfl) (fun _ _ _ _ _ _ us hl => match us, hl with | [_, _], _ => rfl) (fun _ _ _ => rfl)
theorem okx_BadValue (T : Tx w K mg c_Feed c_BadText c_BadValue c_NotFinite p__law_feed_right t__law_feed_right a_BEHIND_E a_DOUBLE a_FOLLOWING a_WHOLE_TEXTS) : XcG P w (mkC K c_Feed c_BadText c_BadValue c_NotFinite p__law_feed_right) mg base 1 "BadValue" ["what"] gv1 := xcg1 T.xi_BadValue sc_BadValue___init__ rfl (.inl rfl) (.inl rfl) rfl T.g_BadValue F.excBase_ValueError T.xm_BadValue T.xs_BadValue_what (fun _ _ _ _ _ _ us hl => match us, hl with | [_, _], _ => rfl)
theorem ok__law_folded (T : Tx w K mg c_Feed c_BadText c_BadValue c_NotFinite p__law_feed_right t__law_feed_right a_BEHIND_E a_DOUBLE a_FOLLOWING a_WHOLE_TEXTS) (B : ∀ p ∈ [(t__law_feed_right, p__law_feed_right)], LamX.TabB base mg p.1 p.2) : DefG P w (mkC K c_Feed c_BadText c_BadValue c_NotFinite p__law_feed_right) mg base 1 "_law_folded" s__law_folded [] [] ["_law_script"] m__law_folded := by
  refine DefAt.okG T.d__law_folded fun f fd F => ?_
  have h := fnG_of (P := P) (w := w) (mg := mg) (base := base) (c := (mkC K c_Feed c_BadText c_BadValue c_NotFinite p__law_feed_right)) (k := 0) (fb := f__law_folded) F sc__law_folded fun cdv A outer s H E hr => by
    have tk : Takes (cxOf (CX P w) P w K mg base N__law_folded "_law_folded" (defScope s__law_folded) f cdv A outer s H E) (fun cls d _ H => E cls d H) := takes_of rfl rfl rfl rfl
    exact (dss_cons (ds_compM (i := 1) rfl sc__law_folded.nd rfl rfl (sw_true rfl rfl rfl (by decide +kernel)) (di_range1 (by rfl) T.z_range (da_cons de_int da_nil)) (blkOk_by (own := [("_law_k", 2)]) (N := N__law_folded) (sc := defScope s__law_folded) (by decide +kernel)) (own := [("_law_k", 2)]) (p := (.nm 2)) (fun _ _ _ _ _ => (pt_nm (i := 2) sc__law_folded.nd rfl (.inl rfl))) (fun _ _ _ _ _ => dts_nil) (fun _ _ _ _ _ => (de_add de_int (de_var (pv 2)))))
    (dss_cons (ds_for (passes_of rfl) rfl (di_enum (by rfl) T.z_enumerate (da_cons (de_var (pv 0)) da_nil)) (dg_tup (n := 2) rfl (dgs_cons (dg_nm (i := 2) sc__law_folded.nd rfl (.inl rfl)) (dgs_cons (dg_nm (i := 3) sc__law_folded.nd rfl (.inl rfl)) dgs_nil)))
    (dss_one (ds_lput (de_var (pv 1)) (de_mod (de_var (pv 2)) de_int) (de_mod (de_add (de_mul (de_ix (de_var (pv 1)) (de_mod (de_var (pv 2)) de_int)) de_int) (de_var (pv 3))) de_int))))
    (dss_cons (ds_for (passes_of rfl) rfl (di_range2 (by rfl) T.z_range (da_cons de_int (da_cons de_int da_nil))) (dg_nm (i := 2) sc__law_folded.nd rfl (.inl rfl))
    (dss_one (ds_lput (de_var (pv 1)) (de_var (pv 2)) (de_mod (de_add (de_ix (de_var (pv 1)) (de_var (pv 2))) (de_mul (de_ix (de_var (pv 1)) (de_sub (de_var (pv 2)) de_int)) de_int)) de_int))))
    (dss_one (ds_ret (de_var (pv 1)))))))
  exact h.cutT
theorem ok__law_begun (T : Tx w K mg c_Feed c_BadText c_BadValue c_NotFinite p__law_feed_right t__law_feed_right a_BEHIND_E a_DOUBLE a_FOLLOWING a_WHOLE_TEXTS) (B : ∀ p ∈ [(t__law_feed_right, p__law_feed_right)], LamX.TabB base mg p.1 p.2) : DefG P w (mkC K c_Feed c_BadText c_BadValue c_NotFinite p__law_feed_right) mg base 2 "_law_begun" s__law_begun [] [] ["_law_script"] m__law_begun := by
  have G__law_folded := ok__law_folded (P := P) (w := w) (base := base) T B
  refine DefAt.okG T.d__law_begun fun f fd F => ?_
  have h := fnG_of (P := P) (w := w) (mg := mg) (base := base) (c := (mkC K c_Feed c_BadText c_BadValue c_NotFinite p__law_feed_right)) (k := 1) (fb := f__law_begun) F sc__law_begun fun cdv A outer s H E hr => by
    have tk : Takes (cxOf (CX P w) P w K mg base N__law_begun "_law_begun" (defScope s__law_begun) f cdv A outer s H E) (fun cls d _ H => E cls d H) := takes_of rfl rfl rfl rfl
    exact (dss_cons (ds_set (i := 1) sc__law_begun.nd rfl (.inl rfl) (de_dict (dp_cons de_str (de_call (src := r__law_folded1) (ks := []) G__law_folded (hr.mono (by decide)) (by rfl) (b__law_folded1 T) (q__law_folded1 T) rfl tk (da_cons (de_var (pv 0)) da_nil) dk_nil) (dp_cons de_str (de_frz (df_lst da_nil)) (dp_cons de_str de_int dp_nil)))))
    (dss_cons (ds_dput hr.u1 (de_var (pv 1)) de_str (de_mut (df_comp rfl sc__law_begun.nd (di_seq (de_var (pv 0))) (blkOk_by (own := [("_law_cell", 2)]) (N := N__law_begun) (sc := defScope s__law_begun) (by decide +kernel)) (own := [("_law_cell", 2)]) (p := (.nm 2)) (fun _ _ _ _ _ => (pt_nm (i := 2) sc__law_begun.nd rfl (.inl rfl))) (fun _ _ _ _ _ => dts_nil) (fun _ _ _ _ _ => (de_if (dt_cm cmp_ge (de_var (pv 2)) (de_pow de_int de_int)) (de_var (pv 2)) de_int)))))
    (dss_one (ds_ret (de_var (pv 1))))))
  exact h
theorem ok__law_deep (T : Tx w K mg c_Feed c_BadText c_BadValue c_NotFinite p__law_feed_right t__law_feed_right a_BEHIND_E a_DOUBLE a_FOLLOWING a_WHOLE_TEXTS) (B : ∀ p ∈ [(t__law_feed_right, p__law_feed_right)], LamX.TabB base mg p.1 p.2) : DefG P w (mkC K c_Feed c_BadText c_BadValue c_NotFinite p__law_feed_right) mg base 1 "_law_deep" s__law_deep [] [] [] m__law_deep := by
  refine DefAt.okG T.d__law_deep fun f fd F => ?_
  have h := fnG_of (P := P) (w := w) (mg := mg) (base := base) (c := (mkC K c_Feed c_BadText c_BadValue c_NotFinite p__law_feed_right)) (k := 0) (fb := f__law_deep) F sc__law_deep fun cdv A outer s H E hr => by
    have tk : Takes (cxOf (CX P w) P w K mg base N__law_deep "_law_deep" (defScope s__law_deep) f cdv A outer s H E) (fun cls d _ H => E cls d H) := takes_of rfl rfl rfl rfl
    exact (dss_cons (ds_asg (de_tup (da_cons (de_tup da_nil) (da_cons (de_tup da_nil) da_nil))) (dg_tup (n := 2) rfl (dgs_cons (dg_nm (i := 0) sc__law_deep.nd rfl (.inl rfl)) (dgs_cons (dg_nm (i := 1) sc__law_deep.nd rfl (.inl rfl)) dgs_nil))))
    (dss_cons (ds_for (passes_of rfl) rfl (di_range1 (by rfl) T.z_range (da_cons de_int da_nil)) (dg_nm (i := 2) sc__law_deep.nd rfl (.inl rfl))
    (dss_one (ds_set (i := 0) sc__law_deep.nd rfl (.inl rfl) (de_tup (da_cons (de_var (pv 0)) da_nil)))))
    (dss_cons (ds_for (passes_of rfl) rfl (di_range1 (by rfl) T.z_range (da_cons de_int da_nil)) (dg_nm (i := 2) sc__law_deep.nd rfl (.inl rfl))
    (dss_one (ds_set (i := 1) sc__law_deep.nd rfl (.inl rfl) (de_tup (da_cons (de_var (pv 1)) (da_cons (de_var (pv 1)) da_nil))))))
    (dss_one (ds_ret (de_frz (df_lst (da_cons (de_var (pv 0)) (da_cons (de_var (pv 1)) da_nil)))))))))
  exact h
theorem ok_stage_behind (T : Tx w K mg c_Feed c_BadText c_BadValue c_NotFinite p__law_feed_right t__law_feed_right a_BEHIND_E a_DOUBLE a_FOLLOWING a_WHOLE_TEXTS) (B : ∀ p ∈ [(t__law_feed_right, p__law_feed_right)], LamX.TabB base mg p.1 p.2) : DefG P w (mkC K c_Feed c_BadText c_BadValue c_NotFinite p__law_feed_right) mg base 1 "stage_behind" s_stage_behind [] [] ["stage", "sign"] m_stage_behind := by
  refine DefAt.okG T.d_stage_behind fun f fd F => ?_
  have h := fnG_of (P := P) (w := w) (mg := mg) (base := base) (c := (mkC K c_Feed c_BadText c_BadValue c_NotFinite p__law_feed_right)) (k := 0) (fb := f_stage_behind) F sc_stage_behind fun cdv A outer s H E hr => by
    have tk : Takes (cxOf (CX P w) P w K mg base N_stage_behind "stage_behind" (defScope s_stage_behind) f cdv A outer s H E) (fun cls d _ H => E cls d H) := takes_of rfl rfl rfl rfl
    exact (dss_cons (ds_if (dt_kin (by rfl) T.c_BEHIND_E T.kt_BEHIND_E (de_var (pv 0)))
    (dss_one (ds_ret (de_if (dt_cm (cmp_in hr.u65) (de_var (pv 1)) (de_gc (by rfl) T.c_FIGURES T.t_FIGURES)) (de_kix (by rfl) T.c_BEHIND_E T.kt_BEHIND_E (de_var (pv 0))) de_str)))
    dss_nil)
    (dss_cons (ds_if (dt_cm (cmp_in hr.u65) (de_var (pv 1)) (de_gc (by rfl) T.c_FIGURES T.t_FIGURES))
    (dss_one (ds_ret (de_if (dt_cm (cmp_in hr.u65) (de_var (pv 0)) (de_tup (da_cons de_str (da_cons de_str da_nil)))) de_str de_str)))
    dss_nil)
    (dss_cons (ds_if (dt_cm (cmp_eq hr.u64) (de_var (pv 1)) de_str)
    (dss_one (ds_ret (de_if (dt_cm (cmp_eq hr.u64) (de_var (pv 0)) de_str) de_str de_str)))
    dss_nil)
    (dss_cons (ds_if (dt_cm (cmp_in hr.u65) (de_var (pv 1)) de_str)
    (dss_one (ds_ret de_str))
    dss_nil)
    (dss_cons (ds_if (dt_cm (cmp_eq hr.u64) (de_var (pv 1)) de_str)
    (dss_one (ds_ret de_str))
    dss_nil)
    (dss_one (ds_ret (de_if (dt_cm (cmp_in hr.u65) (de_var (pv 0)) (de_tup (da_cons de_str (da_cons de_str da_nil)))) (de_var (pv 1)) (de_add (de_var (pv 0)) (de_var (pv 1)))))))))))
  exact h
theorem ok_stage_of (T : Tx w K mg c_Feed c_BadText c_BadValue c_NotFinite p__law_feed_right t__law_feed_right a_BEHIND_E a_DOUBLE a_FOLLOWING a_WHOLE_TEXTS) (B : ∀ p ∈ [(t__law_feed_right, p__law_feed_right)], LamX.TabB base mg p.1 p.2) : DefG P w (mkC K c_Feed c_BadText c_BadValue c_NotFinite p__law_feed_right) mg base 2 "stage_of" s_stage_of [] [] ["text"] m_stage_of := by
  have G_stage_behind := ok_stage_behind (P := P) (w := w) (base := base) T B
  refine DefAt.okG T.d_stage_of fun f fd F => ?_
  have h := fnG_of (P := P) (w := w) (mg := mg) (base := base) (c := (mkC K c_Feed c_BadText c_BadValue c_NotFinite p__law_feed_right)) (k := 1) (fb := f_stage_of) F sc_stage_of fun cdv A outer s H E hr => by
    have tk : Takes (cxOf (CX P w) P w K mg base N_stage_of "stage_of" (defScope s_stage_of) f cdv A outer s H E) (fun cls d _ H => E cls d H) := takes_of rfl rfl rfl rfl
    exact (dss_cons (ds_set (i := 1) sc_stage_of.nd rfl (.inl rfl) de_str)
    (dss_cons (ds_for (passes_of rfl) rfl (di_seq (de_var (pv 0))) (dg_nm (i := 2) sc_stage_of.nd rfl (.inl rfl))
    (dss_cons (ds_if (dt_cm (cmp_notIn hr.u65) (de_var (pv 2)) (de_kix (by rfl) T.c_FOLLOWING T.kt_FOLLOWING (de_var (pv 1))))
    (dss_one (ds_ret de_non))
    dss_nil)
    (dss_one (ds_set (i := 1) sc_stage_of.nd rfl (.inl rfl) (de_call (src := r_stage_behind2) (ks := []) G_stage_behind (hr.mono (by decide)) (by rfl) (b_stage_behind2 T) (q_stage_behind2 T) rfl tk (da_cons (de_var (pv 1)) (da_cons (de_var (pv 2)) da_nil)) dk_nil)))))
    (dss_one (ds_ret (de_var (pv 1))))))
  exact h
theorem ok_follows (T : Tx w K mg c_Feed c_BadText c_BadValue c_NotFinite p__law_feed_right t__law_feed_right a_BEHIND_E a_DOUBLE a_FOLLOWING a_WHOLE_TEXTS) (B : ∀ p ∈ [(t__law_feed_right, p__law_feed_right)], LamX.TabB base mg p.1 p.2) : DefG P w (mkC K c_Feed c_BadText c_BadValue c_NotFinite p__law_feed_right) mg base 3 "follows" s_follows [] [] ["text"] m_follows := by
  have G_stage_of := ok_stage_of (P := P) (w := w) (base := base) T B
  refine DefAt.okG T.d_follows fun f fd F => ?_
  have h := fnG_of (P := P) (w := w) (mg := mg) (base := base) (c := (mkC K c_Feed c_BadText c_BadValue c_NotFinite p__law_feed_right)) (k := 2) (fb := f_follows) F sc_follows fun cdv A outer s H E hr => by
    have tk : Takes (cxOf (CX P w) P w K mg base N_follows "follows" (defScope s_follows) f cdv A outer s H E) (fun cls d _ H => E cls d H) := takes_of rfl rfl rfl rfl
    exact (dss_cons (ds_set (i := 1) sc_follows.nd rfl (.inr rfl) (de_if (dt_val (de_callB (cal_isi T.isi) (by rfl) T.z_isinstance (by decide +kernel) (da_cons (de_var (pv 0)) (da_cons (de_ty (pe_bltn (v := .ty "str") (by rfl) T.z_str (by decide +kernel) rfl)) da_nil)))) (de_call (src := r_stage_of1) (ks := []) G_stage_of (hr.mono (by decide)) (by rfl) (b_stage_of1 T) (q_stage_of1 T) rfl tk (da_cons (de_var (pv 0)) da_nil) dk_nil) de_non))
    (dss_one (ds_ret (de_if (dt_cm cmp_isN (de_var (pv 1)) de_non) de_str (de_join de_str (de_frz (df_comp rfl sc_follows.nd (di_seq (de_gc (by rfl) T.c_ALL_SIGNS T.t_ALL_SIGNS)) (blkOk_by (own := [("sign", 2)]) (N := N_follows) (sc := defScope s_follows) (by decide +kernel)) (own := [("sign", 2)]) (p := (.nm 2)) (fun _ _ _ _ _ => (pt_nm (i := 2) sc_follows.nd rfl (.inl rfl))) (fun _ _ _ _ _ => (dts_one (dt_cm (cmp_in hr.u65) (de_var (pv 2)) (de_kix (by rfl) T.c_FOLLOWING T.kt_FOLLOWING (de_var (pv 1)))))) (fun _ _ _ _ _ => (de_var (pv 2))))))))))
  exact h
theorem ok__law_mixed (T : Tx w K mg c_Feed c_BadText c_BadValue c_NotFinite p__law_feed_right t__law_feed_right a_BEHIND_E a_DOUBLE a_FOLLOWING a_WHOLE_TEXTS) (B : ∀ p ∈ [(t__law_feed_right, p__law_feed_right)], LamX.TabB base mg p.1 p.2) : DefG P w (mkC K c_Feed c_BadText c_BadValue c_NotFinite p__law_feed_right) mg base 1 "_law_mixed" s__law_mixed [] [] ["_law_cell", "_law_k"] m__law_mixed := by
  refine DefAt.okG T.d__law_mixed fun f fd F => ?_
  have h := fnG_of (P := P) (w := w) (mg := mg) (base := base) (c := (mkC K c_Feed c_BadText c_BadValue c_NotFinite p__law_feed_right)) (k := 0) (fb := f__law_mixed) F sc__law_mixed fun cdv A outer s H E hr => by
    have tk : Takes (cxOf (CX P w) P w K mg base N__law_mixed "_law_mixed" (defScope s__law_mixed) f cdv A outer s H E) (fun cls d _ H => E cls d H) := takes_of rfl rfl rfl rfl
    exact (dss_cons (ds_set (i := 2) sc__law_mixed.nd rfl (.inl rfl) (de_add (de_add (de_mod (de_mul (de_mul (de_var (pv 0)) (de_add de_int (de_mul de_int (de_var (pv 1))))) de_int) de_int) (de_mul (de_mul de_int (de_var (pv 1))) (de_var (pv 1)))) (de_mul de_int (de_var (pv 1)))))
    (dss_one (ds_ret (de_fdiv (de_mod (de_mul (de_var (pv 2)) de_int) de_int) de_int))))
  exact h
theorem ok__law_draw (T : Tx w K mg c_Feed c_BadText c_BadValue c_NotFinite p__law_feed_right t__law_feed_right a_BEHIND_E a_DOUBLE a_FOLLOWING a_WHOLE_TEXTS) (B : ∀ p ∈ [(t__law_feed_right, p__law_feed_right)], LamX.TabB base mg p.1 p.2) : DefG P w (mkC K c_Feed c_BadText c_BadValue c_NotFinite p__law_feed_right) mg base 2 "_law_draw" s__law_draw [] [] ["_law_m", "_law_top"] m__law_draw := by
  have G__law_mixed := ok__law_mixed (P := P) (w := w) (base := base) T B
  refine DefAt.okG T.d__law_draw fun f fd F => ?_
  have h := fnG_of (P := P) (w := w) (mg := mg) (base := base) (c := (mkC K c_Feed c_BadText c_BadValue c_NotFinite p__law_feed_right)) (k := 1) (fb := f__law_draw) F sc__law_draw fun cdv A outer s H E hr => by
    have tk : Takes (cxOf (CX P w) P w K mg base N__law_draw "_law_draw" (defScope s__law_draw) f cdv A outer s H E) (fun cls d _ H => E cls d H) := takes_of rfl rfl rfl rfl
    exact (dss_cons (ds_set (i := 2) sc__law_draw.nd rfl (.inl rfl) (de_dix hr.u1 (de_var (pv 0)) de_str))
    (dss_cons (ds_dput hr.u1 (de_var (pv 0)) de_str (de_add (de_var (pv 2)) de_int))
    (dss_cons (ds_if (dt_cm (cmp_ne hr.u64) (de_dix hr.u1 (de_var (pv 0)) de_str) (de_frz (df_lst da_nil)))
    (dss_cons (ds_set (i := 3) sc__law_draw.nd rfl (.inl rfl) (de_mod (de_var (pv 2)) (de_callB cal_len (by rfl) T.z_len (by decide +kernel) (da_cons (de_dix hr.u1 (de_var (pv 0)) de_str) da_nil))))
    (dss_cons (ds_set (i := 4) sc__law_draw.nd rfl (.inl rfl) (de_ix (de_dix hr.u1 (de_var (pv 0)) de_str) (de_var (pv 3))))
    (dss_one (ds_if (dt_cm cmp_gt (de_var (pv 4)) de_int)
    (dss_cons (ds_lput (de_dix hr.u1 (de_var (pv 0)) de_str) (de_var (pv 3)) (de_fdiv (de_var (pv 4)) (de_var (pv 1))))
    (dss_one (ds_ret (de_mod (de_var (pv 4)) (de_var (pv 1))))))
    dss_nil))))
    dss_nil)
    (dss_one (ds_ret (de_mod (de_call (src := r__law_mixed2) (ks := []) G__law_mixed (hr.mono (by decide)) (by rfl) (b__law_mixed2 T) (q__law_mixed2 T) rfl tk (da_cons (de_call (src := r__law_mixed2) (ks := []) G__law_mixed (hr.mono (by decide)) (by rfl) (b__law_mixed2 T) (q__law_mixed2 T) rfl tk (da_cons (de_add (de_ix (de_dix hr.u1 (de_var (pv 0)) de_str) (de_mod (de_var (pv 2)) de_int)) (de_mul de_int (de_fdiv (de_var (pv 2)) de_int))) (da_cons (de_var (pv 2)) da_nil)) dk_nil) (da_cons (de_add (de_var (pv 2)) de_int) da_nil)) dk_nil) (de_var (pv 1))))))))
  exact h
theorem ok__law_long_right (T : Tx w K mg c_Feed c_BadText c_BadValue c_NotFinite p__law_feed_right t__law_feed_right a_BEHIND_E a_DOUBLE a_FOLLOWING a_WHOLE_TEXTS) (B : ∀ p ∈ [(t__law_feed_right, p__law_feed_right)], LamX.TabB base mg p.1 p.2) : DefG P w (mkC K c_Feed c_BadText c_BadValue c_NotFinite p__law_feed_right) mg base 4 "_law_long_right" s__law_long_right [] [] ["_law_m"] m__law_long_right := by
  have G__law_draw := ok__law_draw (P := P) (w := w) (base := base) T B
  have G_follows := ok_follows (P := P) (w := w) (base := base) T B
  refine DefAt.okG T.d__law_long_right fun f fd F => ?_
  have h := fnG_of (P := P) (w := w) (mg := mg) (base := base) (c := (mkC K c_Feed c_BadText c_BadValue c_NotFinite p__law_feed_right)) (k := 3) (fb := f__law_long_right) F sc__law_long_right fun cdv A outer s H E hr => by
    have tk : Takes (cxOf (CX P w) P w K mg base N__law_long_right "_law_long_right" (defScope s__law_long_right) f cdv A outer s H E) (fun cls d _ H => E cls d H) := takes_of rfl rfl rfl rfl
    exact (dss_cons (ds_set (i := 1) sc__law_long_right.nd rfl (.inl rfl) (de_ix de_str (de_call (src := r__law_draw2) (ks := []) G__law_draw (hr.mono (by decide)) (by rfl) (b__law_draw2 T) (q__law_draw2 T) rfl tk (da_cons (de_var (pv 0)) (da_cons de_int da_nil)) dk_nil)))
    (dss_cons (ds_set (i := 2) sc__law_long_right.nd rfl (.inl rfl) (de_repS (de_var (pv 1)) (de_ix (de_frz (df_lst (da_cons de_int (da_cons de_int (da_cons de_int (da_cons de_int (da_cons (de_add de_int (de_call (src := r__law_draw2) (ks := []) G__law_draw (hr.mono (by decide)) (by rfl) (b__law_draw2 T) (q__law_draw2 T) rfl tk (da_cons (de_var (pv 0)) (da_cons de_int da_nil)) dk_nil)) da_nil))))))) (de_call (src := r__law_draw2) (ks := []) G__law_draw (hr.mono (by decide)) (by rfl) (b__law_draw2 T) (q__law_draw2 T) rfl tk (da_cons (de_var (pv 0)) (da_cons de_int da_nil)) dk_nil))))
    (dss_cons (ds_if (dt_w (dw_or (dt_cm (cmp_ne hr.u64) (de_call (src := r_follows1) (ks := []) G_follows (hr.mono (by decide)) (by rfl) (b_follows1 T) (q_follows1 T) rfl tk (da_cons (de_var (pv 2)) da_nil) dk_nil) de_str) (dw_or1 (dt_cm (cmp_ne hr.u64) (de_call (src := r_follows1) (ks := []) G_follows (hr.mono (by decide)) (by rfl) (b_follows1 T) (q_follows1 T) rfl tk (da_cons (de_add (de_add de_str (de_var (pv 2))) de_str) da_nil) dk_nil) de_str))))
    (dss_one (ds_ret de_bl))
    dss_nil)
    (dss_one (ds_ret (de_and (de_cm (cmp_eq hr.u64) (de_call (src := r_follows1) (ks := []) G_follows (hr.mono (by decide)) (by rfl) (b_follows1 T) (q_follows1 T) rfl tk (da_cons (de_add de_str (de_var (pv 2))) da_nil) dk_nil) de_str) (de_one (de_cm (cmp_eq hr.u64) (de_call (src := r_follows1) (ks := []) G_follows (hr.mono (by decide)) (by rfl) (b_follows1 T) (q_follows1 T) rfl tk (da_cons (de_add (de_add de_str (de_var (pv 2))) de_str) da_nil) dk_nil) de_str))))))))
  exact h
theorem ok__law_figures (T : Tx w K mg c_Feed c_BadText c_BadValue c_NotFinite p__law_feed_right t__law_feed_right a_BEHIND_E a_DOUBLE a_FOLLOWING a_WHOLE_TEXTS) (B : ∀ p ∈ [(t__law_feed_right, p__law_feed_right)], LamX.TabB base mg p.1 p.2) : DefG P w (mkC K c_Feed c_BadText c_BadValue c_NotFinite p__law_feed_right) mg base 3 "_law_figures" s__law_figures [] [] ["_law_m", "_law_few"] m__law_figures := by
  have G__law_draw := ok__law_draw (P := P) (w := w) (base := base) T B
  refine DefAt.okG T.d__law_figures fun f fd F => ?_
  have h := fnG_of (P := P) (w := w) (mg := mg) (base := base) (c := (mkC K c_Feed c_BadText c_BadValue c_NotFinite p__law_feed_right)) (k := 2) (fb := f__law_figures) F sc__law_figures fun cdv A outer s H E hr => by
    have tk : Takes (cxOf (CX P w) P w K mg base N__law_figures "_law_figures" (defScope s__law_figures) f cdv A outer s H E) (fun cls d _ H => E cls d H) := takes_of rfl rfl rfl rfl
    exact (dss_cons (ds_par (i := 2) (j := 3) rfl sc__law_figures.nd rfl rfl (by decide) rfl rfl (da_cons (de_call (src := r__law_draw2) (ks := []) G__law_draw (hr.mono (by decide)) (by rfl) (b__law_draw2 T) (q__law_draw2 T) rfl tk (da_cons (de_var (pv 0)) (da_cons de_int da_nil)) dk_nil) (da_cons de_str da_nil)))
    (dss_cons (ds_for (passes_of rfl) rfl (di_range1 (by rfl) T.z_range (da_cons (de_var (pv 1)) da_nil)) (dg_nm (i := 4) sc__law_figures.nd rfl (.inl rfl))
    (dss_one (ds_set (i := 3) sc__law_figures.nd rfl (.inl rfl) (de_add (de_var (pv 3)) (de_ix (de_frz (df_lst (da_cons de_str (da_cons de_str (da_cons (de_ix de_str (de_call (src := r__law_draw2) (ks := []) G__law_draw (hr.mono (by decide)) (by rfl) (b__law_draw2 T) (q__law_draw2 T) rfl tk (da_cons (de_var (pv 0)) (da_cons de_int da_nil)) dk_nil)) (da_cons (de_ix de_str (de_call (src := r__law_draw2) (ks := []) G__law_draw (hr.mono (by decide)) (by rfl) (b__law_draw2 T) (q__law_draw2 T) rfl tk (da_cons (de_var (pv 0)) (da_cons de_int da_nil)) dk_nil)) da_nil)))))) (de_var (pv 2)))))))
    (dss_one (ds_ret (de_var (pv 3))))))
  exact h
theorem ok__law_any_text (T : Tx w K mg c_Feed c_BadText c_BadValue c_NotFinite p__law_feed_right t__law_feed_right a_BEHIND_E a_DOUBLE a_FOLLOWING a_WHOLE_TEXTS) (B : ∀ p ∈ [(t__law_feed_right, p__law_feed_right)], LamX.TabB base mg p.1 p.2) : DefG P w (mkC K c_Feed c_BadText c_BadValue c_NotFinite p__law_feed_right) mg base 4 "_law_any_text" s__law_any_text [] [] ["_law_m"] m__law_any_text := by
  have G__law_draw := ok__law_draw (P := P) (w := w) (base := base) T B
  have G__law_figures := ok__law_figures (P := P) (w := w) (base := base) T B
  refine DefAt.okG T.d__law_any_text fun f fd F => ?_
  have h := fnG_of (P := P) (w := w) (mg := mg) (base := base) (c := (mkC K c_Feed c_BadText c_BadValue c_NotFinite p__law_feed_right)) (k := 3) (fb := f__law_any_text) F sc__law_any_text fun cdv A outer s H E hr => by
    have tk : Takes (cxOf (CX P w) P w K mg base N__law_any_text "_law_any_text" (defScope s__law_any_text) f cdv A outer s H E) (fun cls d _ H => E cls d H) := takes_of rfl rfl rfl rfl
    exact (dss_cons (ds_par (i := 1) (j := 2) rfl sc__law_any_text.nd rfl rfl (by decide) rfl rfl (da_cons (de_ix (de_frz (df_lst (da_cons de_str (da_cons de_str (da_cons de_str da_nil))))) (de_call (src := r__law_draw2) (ks := []) G__law_draw (hr.mono (by decide)) (by rfl) (b__law_draw2 T) (q__law_draw2 T) rfl tk (da_cons (de_var (pv 0)) (da_cons de_int da_nil)) dk_nil)) (da_cons (de_call (src := r__law_draw2) (ks := []) G__law_draw (hr.mono (by decide)) (by rfl) (b__law_draw2 T) (q__law_draw2 T) rfl tk (da_cons (de_var (pv 0)) (da_cons de_int da_nil)) dk_nil) da_nil)))
    (dss_cons (ds_if (dt_cm (cmp_eq hr.u64) (de_var (pv 2)) de_int)
    (dss_one (ds_ret (de_ix (de_frz (df_lst (da_cons de_str (da_cons (de_add (de_var (pv 1)) de_str) da_nil)))) (de_call (src := r__law_draw2) (ks := []) G__law_draw (hr.mono (by decide)) (by rfl) (b__law_draw2 T) (q__law_draw2 T) rfl tk (da_cons (de_var (pv 0)) (da_cons de_int da_nil)) dk_nil))))
    dss_nil)
    (dss_cons (ds_set (i := 3) sc__law_any_text.nd rfl (.inl rfl) (de_call (src := r__law_figures2) (ks := []) G__law_figures (hr.mono (by decide)) (by rfl) (b__law_figures2 T) (q__law_figures2 T) rfl tk (da_cons (de_var (pv 0)) (da_cons (de_ix (de_frz (df_lst (da_cons de_int (da_cons de_int (da_cons de_int (da_cons de_int (da_cons de_int da_nil))))))) (de_call (src := r__law_draw2) (ks := []) G__law_draw (hr.mono (by decide)) (by rfl) (b__law_draw2 T) (q__law_draw2 T) rfl tk (da_cons (de_var (pv 0)) (da_cons de_int da_nil)) dk_nil)) da_nil)) dk_nil))
    (dss_cons (ds_set (i := 4) sc__law_any_text.nd rfl (.inl rfl) (de_call (src := r__law_figures2) (ks := []) G__law_figures (hr.mono (by decide)) (by rfl) (b__law_figures2 T) (q__law_figures2 T) rfl tk (da_cons (de_var (pv 0)) (da_cons (de_ix (de_frz (df_lst (da_cons de_int (da_cons de_int (da_cons de_int (da_cons de_int (da_cons de_int da_nil))))))) (de_call (src := r__law_draw2) (ks := []) G__law_draw (hr.mono (by decide)) (by rfl) (b__law_draw2 T) (q__law_draw2 T) rfl tk (da_cons (de_var (pv 0)) (da_cons de_int da_nil)) dk_nil)) da_nil)) dk_nil))
    (dss_cons (ds_set (i := 5) sc__law_any_text.nd rfl (.inl rfl) (de_add (de_var (pv 1)) (de_if (dt_cm (cmp_ne hr.u64) (de_add (de_var (pv 3)) (de_var (pv 4))) de_str) (de_var (pv 3)) de_str)))
    (dss_cons (ds_if (dt_w (dw_or (dt_cm (cmp_ne hr.u64) (de_var (pv 4)) de_str) (dw_or1 (dt_cm (cmp_eq hr.u64) (de_call (src := r__law_draw2) (ks := []) G__law_draw (hr.mono (by decide)) (by rfl) (b__law_draw2 T) (q__law_draw2 T) rfl tk (da_cons (de_var (pv 0)) (da_cons de_int da_nil)) dk_nil) de_int))))
    (dss_one (ds_set (i := 5) sc__law_any_text.nd rfl (.inl rfl) (de_add (de_add (de_var (pv 5)) de_str) (de_var (pv 4)))))
    dss_nil)
    (dss_cons (ds_if (dt_cm cmp_lt (de_var (pv 2)) de_int)
    (dss_one (ds_set (i := 5) sc__law_any_text.nd rfl (.inl rfl) (de_add (de_add (de_add (de_var (pv 5)) de_str) (de_ix (de_frz (df_lst (da_cons de_str (da_cons de_str (da_cons de_str da_nil))))) (de_call (src := r__law_draw2) (ks := []) G__law_draw (hr.mono (by decide)) (by rfl) (b__law_draw2 T) (q__law_draw2 T) rfl tk (da_cons (de_var (pv 0)) (da_cons de_int da_nil)) dk_nil))) (de_call (src := r__law_figures2) (ks := []) G__law_figures (hr.mono (by decide)) (by rfl) (b__law_figures2 T) (q__law_figures2 T) rfl tk (da_cons (de_var (pv 0)) (da_cons (de_add de_int (de_call (src := r__law_draw2) (ks := []) G__law_draw (hr.mono (by decide)) (by rfl) (b__law_draw2 T) (q__law_draw2 T) rfl tk (da_cons (de_var (pv 0)) (da_cons de_int da_nil)) dk_nil)) da_nil)) dk_nil))))
    dss_nil)
    (dss_one (ds_ret (de_var (pv 5)))))))))))
  exact h
theorem ok__law_spoilt (T : Tx w K mg c_Feed c_BadText c_BadValue c_NotFinite p__law_feed_right t__law_feed_right a_BEHIND_E a_DOUBLE a_FOLLOWING a_WHOLE_TEXTS) (B : ∀ p ∈ [(t__law_feed_right, p__law_feed_right)], LamX.TabB base mg p.1 p.2) : DefG P w (mkC K c_Feed c_BadText c_BadValue c_NotFinite p__law_feed_right) mg base 3 "_law_spoilt" s__law_spoilt [] [] ["_law_m", "_law_text"] m__law_spoilt := by
  have G__law_draw := ok__law_draw (P := P) (w := w) (base := base) T B
  refine DefAt.okG T.d__law_spoilt fun f fd F => ?_
  have h := fnG_of (P := P) (w := w) (mg := mg) (base := base) (c := (mkC K c_Feed c_BadText c_BadValue c_NotFinite p__law_feed_right)) (k := 2) (fb := f__law_spoilt) F sc__law_spoilt fun cdv A outer s H E hr => by
    have tk : Takes (cxOf (CX P w) P w K mg base N__law_spoilt "_law_spoilt" (defScope s__law_spoilt) f cdv A outer s H E) (fun cls d _ H => E cls d H) := takes_of rfl rfl rfl rfl
    exact (dss_cons (ds_par (i := 2) (j := 3) rfl sc__law_spoilt.nd rfl rfl (by decide) rfl rfl (da_cons (de_call (src := r__law_draw2) (ks := []) G__law_draw (hr.mono (by decide)) (by rfl) (b__law_draw2 T) (q__law_draw2 T) rfl tk (da_cons (de_var (pv 0)) (da_cons (de_add (de_callB cal_len (by rfl) T.z_len (by decide +kernel) (da_cons (de_var (pv 1)) da_nil)) de_int) da_nil)) dk_nil) (da_cons (de_call (src := r__law_draw2) (ks := []) G__law_draw (hr.mono (by decide)) (by rfl) (b__law_draw2 T) (q__law_draw2 T) rfl tk (da_cons (de_var (pv 0)) (da_cons de_int da_nil)) dk_nil) da_nil)))
    (dss_cons (ds_set (i := 4) sc__law_spoilt.nd rfl (.inl rfl) (de_ix de_str (de_call (src := r__law_draw2) (ks := []) G__law_draw (hr.mono (by decide)) (by rfl) (b__law_draw2 T) (q__law_draw2 T) rfl tk (da_cons (de_var (pv 0)) (da_cons de_int da_nil)) dk_nil)))
    (dss_cons (ds_if (dt_cm (cmp_eq hr.u64) (de_var (pv 3)) de_int)
    (dss_one (ds_ret (de_add (de_add (de_slice (de_var (pv 1)) do_none (do_some (de_var (pv 2)))) (de_var (pv 4))) (de_slice (de_var (pv 1)) (do_some (de_var (pv 2))) do_none))))
    dss_nil)
    (dss_cons (ds_if (dt_cm (cmp_eq hr.u64) (de_var (pv 3)) de_int)
    (dss_one (ds_ret (de_add (de_slice (de_var (pv 1)) do_none (do_some (de_var (pv 2)))) (de_slice (de_var (pv 1)) (do_some (de_add (de_var (pv 2)) de_int)) do_none))))
    dss_nil)
    (dss_cons (ds_if (dt_cm (cmp_eq hr.u64) (de_var (pv 3)) de_int)
    (dss_one (ds_ret (de_add (de_add (de_slice (de_var (pv 1)) do_none (do_some (de_var (pv 2)))) (de_var (pv 4))) (de_slice (de_var (pv 1)) (do_some (de_add (de_var (pv 2)) de_int)) do_none))))
    dss_nil)
    (dss_one (ds_ret (de_add (de_slice (de_var (pv 1)) (do_some (de_var (pv 2))) do_none) (de_slice (de_var (pv 1)) do_none (do_some (de_var (pv 2))))))))))))
  exact h
theorem ok__law_all_figures (T : Tx w K mg c_Feed c_BadText c_BadValue c_NotFinite p__law_feed_right t__law_feed_right a_BEHIND_E a_DOUBLE a_FOLLOWING a_WHOLE_TEXTS) (B : ∀ p ∈ [(t__law_feed_right, p__law_feed_right)], LamX.TabB base mg p.1 p.2) : DefG P w (mkC K c_Feed c_BadText c_BadValue c_NotFinite p__law_feed_right) mg base 1 "_law_all_figures" s__law_all_figures [] [] ["_law_text"] m__law_all_figures := by
  refine DefAt.okG T.d__law_all_figures fun f fd F => ?_
  have h := fnG_of (P := P) (w := w) (mg := mg) (base := base) (c := (mkC K c_Feed c_BadText c_BadValue c_NotFinite p__law_feed_right)) (k := 0) (fb := f__law_all_figures) F sc__law_all_figures fun cdv A outer s H E hr => by
    have tk : Takes (cxOf (CX P w) P w K mg base N__law_all_figures "_law_all_figures" (defScope s__law_all_figures) f cdv A outer s H E) (fun cls d _ H => E cls d H) := takes_of rfl rfl rfl rfl
    exact (dss_one (ds_ret (de_cm (cmp_eq hr.u64) (de_frz (df_comp rfl sc__law_all_figures.nd (di_seq (de_var (pv 0))) (blkOk_by (own := [("_law_sign", 1)]) (N := N__law_all_figures) (sc := defScope s__law_all_figures) (by decide +kernel)) (own := [("_law_sign", 1)]) (p := (.nm 1)) (fun _ _ _ _ _ => (pt_nm (i := 1) sc__law_all_figures.nd rfl (.inl rfl))) (fun _ _ _ _ _ => (dts_one (dt_cm (cmp_notIn hr.u65) (de_var (pv 1)) de_str))) (fun _ _ _ _ _ => (de_var (pv 1))))) (de_frz (df_lst da_nil)))))
  exact h
theorem ok__law_is_whole_text (T : Tx w K mg c_Feed c_BadText c_BadValue c_NotFinite p__law_feed_right t__law_feed_right a_BEHIND_E a_DOUBLE a_FOLLOWING a_WHOLE_TEXTS) (B : ∀ p ∈ [(t__law_feed_right, p__law_feed_right)], LamX.TabB base mg p.1 p.2) : DefG P w (mkC K c_Feed c_BadText c_BadValue c_NotFinite p__law_feed_right) mg base 2 "_law_is_whole_text" s__law_is_whole_text [] [] ["_law_text"] m__law_is_whole_text := by
  have G__law_all_figures := ok__law_all_figures (P := P) (w := w) (base := base) T B
  refine DefAt.okG T.d__law_is_whole_text fun f fd F => ?_
  have h := fnG_of (P := P) (w := w) (mg := mg) (base := base) (c := (mkC K c_Feed c_BadText c_BadValue c_NotFinite p__law_feed_right)) (k := 1) (fb := f__law_is_whole_text) F sc__law_is_whole_text fun cdv A outer s H E hr => by
    have tk : Takes (cxOf (CX P w) P w K mg base N__law_is_whole_text "_law_is_whole_text" (defScope s__law_is_whole_text) f cdv A outer s H E) (fun cls d _ H => E cls d H) := takes_of rfl rfl rfl rfl
    exact (dss_cons (ds_set (i := 1) sc__law_is_whole_text.nd rfl (.inl rfl) (de_if (dt_cm (cmp_in hr.u65) (de_slice (de_var (pv 0)) do_none (do_some de_int)) (de_frz (df_lst (da_cons de_str (da_cons de_str da_nil))))) (de_slice (de_var (pv 0)) (do_some de_int) do_none) (de_var (pv 0))))
    (dss_cons (ds_if (dt_w (dw_or (dt_cm (cmp_eq hr.u64) (de_var (pv 0)) de_str) (dw_or1 (dt_cm (cmp_eq hr.u64) (de_var (pv 1)) de_str))))
    (dss_one (ds_ret de_bl))
    dss_nil)
    (dss_cons (ds_asg (de_part (de_var (pv 1)) de_str) (dg_tup (n := 3) rfl (dgs_cons (dg_nm (i := 2) sc__law_is_whole_text.nd rfl (.inl rfl)) (dgs_cons (dg_nm (i := 3) sc__law_is_whole_text.nd rfl (.inl rfl)) (dgs_cons (dg_nm (i := 4) sc__law_is_whole_text.nd rfl (.inl rfl)) dgs_nil)))))
    (dss_cons (ds_if (dt_cm (cmp_eq hr.u64) (de_var (pv 3)) de_str)
    (dss_cons (ds_set (i := 5) sc__law_is_whole_text.nd rfl (.inl rfl) (de_if (dt_cm (cmp_in hr.u65) (de_slice (de_var (pv 4)) do_none (do_some de_int)) (de_frz (df_lst (da_cons de_str (da_cons de_str da_nil))))) (de_slice (de_var (pv 4)) (do_some de_int) do_none) (de_var (pv 4))))
    (dss_one (ds_if (dt_w (dw_or (dt_not (dt_chain cmp_le cmp_le de_int (de_callB cal_len (by rfl) T.z_len (by decide +kernel) (da_cons (de_var (pv 5)) da_nil)) de_int)) (dw_or1 (dt_not (dt_val (de_call (src := r__law_all_figures1) (ks := []) G__law_all_figures (hr.mono (by decide)) (by rfl) (b__law_all_figures1 T) (q__law_all_figures1 T) rfl tk (da_cons (de_var (pv 5)) da_nil) dk_nil))))))
    (dss_one (ds_ret de_bl))
    dss_nil)))
    dss_nil)
    (dss_cons (ds_asg (de_part (de_var (pv 2)) de_str) (dg_tup (n := 3) rfl (dgs_cons (dg_nm (i := 6) sc__law_is_whole_text.nd rfl (.inl rfl)) (dgs_cons (dg_nm (i := 7) sc__law_is_whole_text.nd rfl (.inl rfl)) (dgs_cons (dg_nm (i := 8) sc__law_is_whole_text.nd rfl (.inl rfl)) dgs_nil)))))
    (dss_one (ds_ret (de_and (de_cm (cmp_ne hr.u64) (de_add (de_var (pv 6)) (de_var (pv 8))) de_str) (de_one (de_call (src := r__law_all_figures1) (ks := []) G__law_all_figures (hr.mono (by decide)) (by rfl) (b__law_all_figures1 T) (q__law_all_figures1 T) rfl tk (da_cons (de_add (de_var (pv 6)) (de_var (pv 8))) da_nil) dk_nil))))))))))
  exact h
theorem ok__law_begins (T : Tx w K mg c_Feed c_BadText c_BadValue c_NotFinite p__law_feed_right t__law_feed_right a_BEHIND_E a_DOUBLE a_FOLLOWING a_WHOLE_TEXTS) (B : ∀ p ∈ [(t__law_feed_right, p__law_feed_right)], LamX.TabB base mg p.1 p.2) : DefG P w (mkC K c_Feed c_BadText c_BadValue c_NotFinite p__law_feed_right) mg base 3 "_law_begins" s__law_begins [] [] ["_law_text"] m__law_begins := by
  have G__law_is_whole_text := ok__law_is_whole_text (P := P) (w := w) (base := base) T B
  refine DefAt.okG T.d__law_begins fun f fd F => ?_
  have h := fnG_of (P := P) (w := w) (mg := mg) (base := base) (c := (mkC K c_Feed c_BadText c_BadValue c_NotFinite p__law_feed_right)) (k := 2) (fb := f__law_begins) F sc__law_begins fun cdv A outer s H E hr => by
    have tk : Takes (cxOf (CX P w) P w K mg base N__law_begins "_law_begins" (defScope s__law_begins) f cdv A outer s H E) (fun cls d _ H => E cls d H) := takes_of rfl rfl rfl rfl
    exact (dss_one (ds_ret (de_cm (cmp_ne hr.u64) (de_frz (df_comp rfl sc__law_begins.nd (di_seq (de_frz (df_lst (da_cons de_str (da_cons de_str (da_cons de_str (da_cons de_str (da_cons de_str (da_cons de_str da_nil))))))))) (blkOk_by (own := [("_law_more", 1)]) (N := N__law_begins) (sc := defScope s__law_begins) (by decide +kernel)) (own := [("_law_more", 1)]) (p := (.nm 1)) (fun _ _ _ _ _ => (pt_nm (i := 1) sc__law_begins.nd rfl (.inl rfl))) (fun _ _ _ _ _ => (dts_one (dt_val (de_call (src := r__law_is_whole_text1) (ks := []) G__law_is_whole_text (hr.mono (by decide)) (by rfl) (b__law_is_whole_text1 T) (q__law_is_whole_text1 T) rfl tk_never (da_cons (de_add (de_var (pv 0)) (de_var (pv 1))) da_nil) dk_nil)))) (fun _ _ _ _ _ => (de_var (pv 1))))) (de_frz (df_lst da_nil)))))
  exact h
theorem ok__law_signs_due (T : Tx w K mg c_Feed c_BadText c_BadValue c_NotFinite p__law_feed_right t__law_feed_right a_BEHIND_E a_DOUBLE a_FOLLOWING a_WHOLE_TEXTS) (B : ∀ p ∈ [(t__law_feed_right, p__law_feed_right)], LamX.TabB base mg p.1 p.2) : DefG P w (mkC K c_Feed c_BadText c_BadValue c_NotFinite p__law_feed_right) mg base 4 "_law_signs_due" s__law_signs_due [] [] ["_law_text"] m__law_signs_due := by
  have G__law_begins := ok__law_begins (P := P) (w := w) (base := base) T B
  refine DefAt.okG T.d__law_signs_due fun f fd F => ?_
  have h := fnG_of (P := P) (w := w) (mg := mg) (base := base) (c := (mkC K c_Feed c_BadText c_BadValue c_NotFinite p__law_feed_right)) (k := 3) (fb := f__law_signs_due) F sc__law_signs_due fun cdv A outer s H E hr => by
    have tk : Takes (cxOf (CX P w) P w K mg base N__law_signs_due "_law_signs_due" (defScope s__law_signs_due) f cdv A outer s H E) (fun cls d _ H => E cls d H) := takes_of rfl rfl rfl rfl
    exact (dss_cons (ds_if (dt_w (dw_or (dt_not (dt_val (de_callB (cal_isi T.isi) (by rfl) T.z_isinstance (by decide +kernel) (da_cons (de_var (pv 0)) (da_cons (de_ty (pe_bltn (v := .ty "str") (by rfl) T.z_str (by decide +kernel) rfl)) da_nil))))) (dw_or1 (dt_not (dt_val (de_call (src := r__law_begins1) (ks := []) G__law_begins (hr.mono (by decide)) (by rfl) (b__law_begins1 T) (q__law_begins1 T) rfl tk (da_cons (de_var (pv 0)) da_nil) dk_nil))))))
    (dss_one (ds_ret de_str))
    dss_nil)
    (dss_one (ds_ret (de_join de_str (de_frz (df_comp rfl sc__law_signs_due.nd (di_seq de_str) (blkOk_by (own := [("_law_sign", 1)]) (N := N__law_signs_due) (sc := defScope s__law_signs_due) (by decide +kernel)) (own := [("_law_sign", 1)]) (p := (.nm 1)) (fun _ _ _ _ _ => (pt_nm (i := 1) sc__law_signs_due.nd rfl (.inl rfl))) (fun _ _ _ _ _ => (dts_one (dt_val (de_call (src := r__law_begins1) (ks := []) G__law_begins (hr.mono (by decide)) (by rfl) (b__law_begins1 T) (q__law_begins1 T) rfl tk_never (da_cons (de_add (de_var (pv 0)) (de_var (pv 1))) da_nil) dk_nil)))) (fun _ _ _ _ _ => (de_var (pv 1)))))))))
  exact h
theorem ok__law_let_by (T : Tx w K mg c_Feed c_BadText c_BadValue c_NotFinite p__law_feed_right t__law_feed_right a_BEHIND_E a_DOUBLE a_FOLLOWING a_WHOLE_TEXTS) (B : ∀ p ∈ [(t__law_feed_right, p__law_feed_right)], LamX.TabB base mg p.1 p.2) : DefG P w (mkC K c_Feed c_BadText c_BadValue c_NotFinite p__law_feed_right) mg base 4 "_law_let_by" s__law_let_by [] [] ["_law_text"] m__law_let_by := by
  have G__law_begins := ok__law_begins (P := P) (w := w) (base := base) T B
  refine DefAt.okG T.d__law_let_by fun f fd F => ?_
  have h := fnG_of (P := P) (w := w) (mg := mg) (base := base) (c := (mkC K c_Feed c_BadText c_BadValue c_NotFinite p__law_feed_right)) (k := 3) (fb := f__law_let_by) F sc__law_let_by fun cdv A outer s H E hr => by
    have tk : Takes (cxOf (CX P w) P w K mg base N__law_let_by "_law_let_by" (defScope s__law_let_by) f cdv A outer s H E) (fun cls d _ H => E cls d H) := takes_of rfl rfl rfl rfl
    exact (dss_cons (ds_set (i := 1) sc__law_let_by.nd rfl (.inl rfl) de_int)
    (dss_cons (ds_while (passes_of rfl) (dt_w (dw_and (dt_cm cmp_lt (de_var (pv 1)) (de_callB cal_len (by rfl) T.z_len (by decide +kernel) (da_cons (de_var (pv 0)) da_nil))) (dw_and1 (dt_val (de_call (src := r__law_begins1) (ks := []) G__law_begins (hr.mono (by decide)) (by rfl) (b__law_begins1 T) (q__law_begins1 T) rfl tk (da_cons (de_slice (de_var (pv 0)) do_none (do_some (de_add (de_var (pv 1)) de_int))) da_nil) dk_nil)))))
    (dss_one (ds_set (i := 1) sc__law_let_by.nd rfl (.inl rfl) (de_add (de_var (pv 1)) de_int))))
    (dss_one (ds_ret (de_var (pv 1))))))
  exact h
theorem ok_is_whole (T : Tx w K mg c_Feed c_BadText c_BadValue c_NotFinite p__law_feed_right t__law_feed_right a_BEHIND_E a_DOUBLE a_FOLLOWING a_WHOLE_TEXTS) (B : ∀ p ∈ [(t__law_feed_right, p__law_feed_right)], LamX.TabB base mg p.1 p.2) : DefG P w (mkC K c_Feed c_BadText c_BadValue c_NotFinite p__law_feed_right) mg base 1 "is_whole" s_is_whole [] [] ["thing", "least", "most"] m_is_whole := by
  refine DefAt.okG T.d_is_whole fun f fd F => ?_
  have h := fnG_of (P := P) (w := w) (mg := mg) (base := base) (c := (mkC K c_Feed c_BadText c_BadValue c_NotFinite p__law_feed_right)) (k := 0) (fb := f_is_whole) F sc_is_whole fun cdv A outer s H E hr => by
    have tk : Takes (cxOf (CX P w) P w K mg base N_is_whole "is_whole" (defScope s_is_whole) f cdv A outer s H E) (fun cls d _ H => E cls d H) := takes_of rfl rfl rfl rfl
    exact (dss_one (ds_ret (de_and (de_callB (cal_isi T.isi) (by rfl) T.z_isinstance (by decide +kernel) (da_cons (de_var (pv 0)) (da_cons (de_ty (pe_bltn (v := .ty "int") (by rfl) T.z_int (by decide +kernel) rfl)) da_nil))) (de_and (de_not (de_callB (cal_isi T.isi) (by rfl) T.z_isinstance (by decide +kernel) (da_cons (de_var (pv 0)) (da_cons (de_ty (pe_bltn (v := .ty "bool") (by rfl) T.z_bool (by decide +kernel) rfl)) da_nil)))) (de_one (de_chain cmp_le cmp_le (de_var (pv 1)) (de_var (pv 0)) (de_var (pv 2))))))))
  exact h
theorem ok_is_shape (T : Tx w K mg c_Feed c_BadText c_BadValue c_NotFinite p__law_feed_right t__law_feed_right a_BEHIND_E a_DOUBLE a_FOLLOWING a_WHOLE_TEXTS) (B : ∀ p ∈ [(t__law_feed_right, p__law_feed_right)], LamX.TabB base mg p.1 p.2) : DefG P w (mkC K c_Feed c_BadText c_BadValue c_NotFinite p__law_feed_right) mg base 2 "is_shape" s_is_shape [] [] ["thing"] m_is_shape := by
  have G_is_whole := ok_is_whole (P := P) (w := w) (base := base) T B
  refine DefAt.okG T.d_is_shape fun f fd F => ?_
  have h := fnG_of (P := P) (w := w) (mg := mg) (base := base) (c := (mkC K c_Feed c_BadText c_BadValue c_NotFinite p__law_feed_right)) (k := 1) (fb := f_is_shape) F sc_is_shape fun cdv A outer s H E hr => by
    have tk : Takes (cxOf (CX P w) P w K mg base N_is_shape "is_shape" (defScope s_is_shape) f cdv A outer s H E) (fun cls d _ H => E cls d H) := takes_of rfl rfl rfl rfl
    exact (dss_cons (ds_if (dt_w (dw_or (dt_not (dt_val (de_callB (cal_isi T.isi) (by rfl) T.z_isinstance (by decide +kernel) (da_cons (de_var (pv 0)) (da_cons (de_ty (pe_bltn (v := .ty "tuple") (by rfl) T.z_tuple (by decide +kernel) rfl)) da_nil))))) (dw_or (dt_cm (cmp_ne hr.u64) (de_callB cal_len (by rfl) T.z_len (by decide +kernel) (da_cons (de_var (pv 0)) da_nil)) de_int) (dw_or1 (dt_not (dt_val (de_call (src := r_is_whole3) (ks := []) G_is_whole (hr.mono (by decide)) (by rfl) (b_is_whole3 T) (q_is_whole3 T) rfl tk (da_cons (de_ix (de_var (pv 0)) de_int) (da_cons de_int (da_cons (de_gc (by rfl) T.c_MOST_PRECISION T.t_MOST_PRECISION) da_nil))) dk_nil)))))))
    (dss_one (ds_ret de_bl))
    dss_nil)
    (dss_one (ds_ret (de_and (de_call (src := r_is_whole3) (ks := []) G_is_whole (hr.mono (by decide)) (by rfl) (b_is_whole3 T) (q_is_whole3 T) rfl tk (da_cons (de_ix (de_var (pv 0)) de_int) (da_cons (de_gc (by rfl) T.c_LEAST_LOW T.t_LEAST_LOW) (da_cons de_int da_nil))) dk_nil) (de_one (de_call (src := r_is_whole3) (ks := []) G_is_whole (hr.mono (by decide)) (by rfl) (b_is_whole3 T) (q_is_whole3 T) rfl tk (da_cons (de_ix (de_var (pv 0)) de_int) (da_cons (de_ix (de_var (pv 0)) de_int) (da_cons (de_gc (by rfl) T.c_MOST_HIGH T.t_MOST_HIGH) da_nil))) dk_nil))))))
  exact h
theorem ok_is_way (T : Tx w K mg c_Feed c_BadText c_BadValue c_NotFinite p__law_feed_right t__law_feed_right a_BEHIND_E a_DOUBLE a_FOLLOWING a_WHOLE_TEXTS) (B : ∀ p ∈ [(t__law_feed_right, p__law_feed_right)], LamX.TabB base mg p.1 p.2) : DefG P w (mkC K c_Feed c_BadText c_BadValue c_NotFinite p__law_feed_right) mg base 1 "is_way" s_is_way [] [] ["thing"] m_is_way := by
  refine DefAt.okG T.d_is_way fun f fd F => ?_
  have h := fnG_of (P := P) (w := w) (mg := mg) (base := base) (c := (mkC K c_Feed c_BadText c_BadValue c_NotFinite p__law_feed_right)) (k := 0) (fb := f_is_way) F sc_is_way fun cdv A outer s H E hr => by
    have tk : Takes (cxOf (CX P w) P w K mg base N_is_way "is_way" (defScope s_is_way) f cdv A outer s H E) (fun cls d _ H => E cls d H) := takes_of rfl rfl rfl rfl
    exact (dss_one (ds_ret (de_and (de_callB (cal_isi T.isi) (by rfl) T.z_isinstance (by decide +kernel) (da_cons (de_var (pv 0)) (da_cons (de_ty (pe_bltn (v := .ty "str") (by rfl) T.z_str (by decide +kernel) rfl)) da_nil))) (de_one (de_cm (cmp_in hr.u65) (de_var (pv 0)) (de_tup (da_cons (de_gc (by rfl) T.c_NEAREST T.t_NEAREST) (da_cons (de_gc (by rfl) T.c_AWAY T.t_AWAY) (da_cons (de_gc (by rfl) T.c_ZERO T.t_ZERO) (da_cons (de_gc (by rfl) T.c_UP T.t_UP) (da_cons (de_gc (by rfl) T.c_DOWN T.t_DOWN) da_nil)))))))))))
  exact h
theorem ok_need_ways (T : Tx w K mg c_Feed c_BadText c_BadValue c_NotFinite p__law_feed_right t__law_feed_right a_BEHIND_E a_DOUBLE a_FOLLOWING a_WHOLE_TEXTS) (B : ∀ p ∈ [(t__law_feed_right, p__law_feed_right)], LamX.TabB base mg p.1 p.2) : DefG P w (mkC K c_Feed c_BadText c_BadValue c_NotFinite p__law_feed_right) mg base 3 "need_ways" s_need_ways [] [] ["shape", "way"] m_need_ways := by
  have G_is_shape := ok_is_shape (P := P) (w := w) (base := base) T B
  have G_is_way := ok_is_way (P := P) (w := w) (base := base) T B
  have X_BadValue := okx_BadValue (P := P) (w := w) (base := base) T
  refine DefAt.okG T.d_need_ways fun f fd F => ?_
  have h := fnG_of (P := P) (w := w) (mg := mg) (base := base) (c := (mkC K c_Feed c_BadText c_BadValue c_NotFinite p__law_feed_right)) (k := 2) (fb := f_need_ways) F sc_need_ways fun cdv A outer s H E hr => by
    have tk : Takes (cxOf (CX P w) P w K mg base N_need_ways "need_ways" (defScope s_need_ways) f cdv A outer s H E) (fun cls d _ H => E cls d H) := takes_of rfl rfl rfl rfl
    exact (dss_cons (ds_if (dt_not (dt_val (de_call (src := r_is_shape1) (ks := []) G_is_shape (hr.mono (by decide)) (by rfl) (b_is_shape1 T) (q_is_shape1 T) rfl tk (da_cons (de_var (pv 0)) da_nil) dk_nil)))
    (dss_one (ds_raise X_BadValue gd1_ok (fun _ => rfl) (hr.mono (by decide)) tk (by rfl) de_str))
    dss_nil)
    (dss_one (ds_if (dt_not (dt_val (de_call (src := r_is_way1) (ks := []) G_is_way (hr.mono (by decide)) (by rfl) (b_is_way1 T) (q_is_way1 T) rfl tk (da_cons (de_var (pv 1)) da_nil) dk_nil)))
    (dss_one (ds_raise X_BadValue gd1_ok (fun _ => rfl) (hr.mono (by decide)) tk (by rfl) de_str))
    dss_nil)))
  exact h
theorem ok_Feed___init__ (T : Tx w K mg c_Feed c_BadText c_BadValue c_NotFinite p__law_feed_right t__law_feed_right a_BEHIND_E a_DOUBLE a_FOLLOWING a_WHOLE_TEXTS) (B : ∀ p ∈ [(t__law_feed_right, p__law_feed_right)], LamX.TabB base mg p.1 p.2) : InitG P w (mkC K c_Feed c_BadText c_BadValue c_NotFinite p__law_feed_right) mg base 4 c_Feed "Feed.__init__" s_Feed___init__ [.ref a_DOUBLE] [("way", .str "nearest")] ["self", "shape", "way"] m_Feed___init__ := by
  have G_need_ways := ok_need_ways (P := P) (w := w) (base := base) T B
  refine InitAt.okG T.d_Feed___init__ fun f fd F => ?_
  have h := fnG_of (P := P) (w := w) (mg := mg) (base := base) (c := (mkC K c_Feed c_BadText c_BadValue c_NotFinite p__law_feed_right)) (k := 3) (fb := f_Feed___init__) F sc_Feed___init__ fun cdv A outer s H E hr => by
    have tk : Takes (cxOf (CX P w) P w K mg base N_Feed___init__ "Feed.__init__" (defScope s_Feed___init__) f cdv A outer s H E) (fun cls d _ H => E cls d H) := takes_of rfl rfl rfl rfl
    exact (dss_cons (ds_expr (de_call (src := r_need_ways2) (ks := []) G_need_ways (hr.mono (by decide)) (by rfl) (b_need_ways2 T) (q_need_ways2 T) rfl tk (da_cons (de_var (pv 1)) (da_cons (de_var (pv 2)) da_nil)) dk_nil))
    (dss_cons (ds_fput rfl T.cl_Feed T.n_Feed_to_shape (de_var (pv 0)) (de_var (pv 1)))
    (dss_cons (ds_fput rfl T.cl_Feed T.n_Feed_by_way (de_var (pv 0)) (de_var (pv 2)))
    (dss_one (ds_fput rfl T.cl_Feed T.n_Feed_all_pieces (de_var (pv 0)) (de_mut (df_lst da_nil)))))))
  exact h
theorem ok_Feed_heard (T : Tx w K mg c_Feed c_BadText c_BadValue c_NotFinite p__law_feed_right t__law_feed_right a_BEHIND_E a_DOUBLE a_FOLLOWING a_WHOLE_TEXTS) (B : ∀ p ∈ [(t__law_feed_right, p__law_feed_right)], LamX.TabB base mg p.1 p.2) : MethG P w (mkC K c_Feed c_BadText c_BadValue c_NotFinite p__law_feed_right) mg base 1 c_Feed "heard" "Feed.heard" s_Feed_heard [] [] ["self"] m_Feed_heard := by
  refine MethAt.okG T.d_Feed_heard fun f fd F => ?_
  have h := fnG_of (P := P) (w := w) (mg := mg) (base := base) (c := (mkC K c_Feed c_BadText c_BadValue c_NotFinite p__law_feed_right)) (k := 0) (fb := f_Feed_heard) F sc_Feed_heard fun cdv A outer s H E hr => by
    have tk : Takes (cxOf (CX P w) P w K mg base N_Feed_heard "Feed.heard" (defScope s_Feed_heard) f cdv A outer s H E) (fun cls d _ H => E cls d H) := takes_of rfl rfl rfl rfl
    exact (dss_one (ds_ret (de_join de_str (de_fld rfl T.cl_Feed T.n_Feed_all_pieces (de_var (pv 0))))))
  exact h
theorem ok_Feed_is_text (T : Tx w K mg c_Feed c_BadText c_BadValue c_NotFinite p__law_feed_right t__law_feed_right a_BEHIND_E a_DOUBLE a_FOLLOWING a_WHOLE_TEXTS) (B : ∀ p ∈ [(t__law_feed_right, p__law_feed_right)], LamX.TabB base mg p.1 p.2) : MethG P w (mkC K c_Feed c_BadText c_BadValue c_NotFinite p__law_feed_right) mg base 3 c_Feed "is_text" "Feed.is_text" s_Feed_is_text [] [] ["self"] m_Feed_is_text := by
  have G_Feed_heard := ok_Feed_heard (P := P) (w := w) (base := base) T B
  have G_stage_of := ok_stage_of (P := P) (w := w) (base := base) T B
  refine MethAt.okG T.d_Feed_is_text fun f fd F => ?_
  have h := fnG_of (P := P) (w := w) (mg := mg) (base := base) (c := (mkC K c_Feed c_BadText c_BadValue c_NotFinite p__law_feed_right)) (k := 2) (fb := f_Feed_is_text) F sc_Feed_is_text fun cdv A outer s H E hr => by
    have tk : Takes (cxOf (CX P w) P w K mg base N_Feed_is_text "Feed.is_text" (defScope s_Feed_is_text) f cdv A outer s H E) (fun cls d _ H => E cls d H) := takes_of rfl rfl rfl rfl
    exact (dss_one (ds_ret (de_cm (cmp_in hr.u65) (de_call (src := r_stage_of1) (ks := []) G_stage_of (hr.mono (by decide)) (by rfl) (b_stage_of1 T) (q_stage_of1 T) rfl tk (da_cons (de_me0 (src := r_Feed_heard0) (de_var (pv 0)) rfl T.cl_Feed G_Feed_heard (hr.mono (by decide)) (b_Feed_heard0 T) (q_Feed_heard0 T) rfl tk) da_nil) dk_nil) (de_gc (by rfl) T.c_WHOLE_TEXTS T.t_WHOLE_TEXTS))))
  exact h
theorem ok_Feed_push (T : Tx w K mg c_Feed c_BadText c_BadValue c_NotFinite p__law_feed_right t__law_feed_right a_BEHIND_E a_DOUBLE a_FOLLOWING a_WHOLE_TEXTS) (B : ∀ p ∈ [(t__law_feed_right, p__law_feed_right)], LamX.TabB base mg p.1 p.2) : MethG P w (mkC K c_Feed c_BadText c_BadValue c_NotFinite p__law_feed_right) mg base 4 c_Feed "push" "Feed.push" s_Feed_push [] [] ["self", "piece"] m_Feed_push := by
  have G_Feed_heard := ok_Feed_heard (P := P) (w := w) (base := base) T B
  have G_stage_behind := ok_stage_behind (P := P) (w := w) (base := base) T B
  have G_stage_of := ok_stage_of (P := P) (w := w) (base := base) T B
  have X_BadText := okx_BadText (P := P) (w := w) (base := base) T
  have X_BadValue := okx_BadValue (P := P) (w := w) (base := base) T
  refine MethAt.okG T.d_Feed_push fun f fd F => ?_
  have h := fnG_of (P := P) (w := w) (mg := mg) (base := base) (c := (mkC K c_Feed c_BadText c_BadValue c_NotFinite p__law_feed_right)) (k := 3) (fb := f_Feed_push) F sc_Feed_push fun cdv A outer s H E hr => by
    have tk : Takes (cxOf (CX P w) P w K mg base N_Feed_push "Feed.push" (defScope s_Feed_push) f cdv A outer s H E) (fun cls d _ H => E cls d H) := takes_of rfl rfl rfl rfl
    exact (dss_cons (ds_if (dt_not (dt_val (de_callB (cal_isi T.isi) (by rfl) T.z_isinstance (by decide +kernel) (da_cons (de_var (pv 1)) (da_cons (de_ty (pe_bltn (v := .ty "str") (by rfl) T.z_str (by decide +kernel) rfl)) da_nil)))))
    (dss_one (ds_raise X_BadValue gd1_ok (fun _ => rfl) (hr.mono (by decide)) tk (by rfl) de_str))
    dss_nil)
    (dss_cons (ds_par (i := 2) (j := 3) rfl sc_Feed_push.nd rfl rfl (by decide) rfl rfl (da_cons (de_call (src := r_stage_of1) (ks := []) G_stage_of (hr.mono (by decide)) (by rfl) (b_stage_of1 T) (q_stage_of1 T) rfl tk (da_cons (de_me0 (src := r_Feed_heard0) (de_var (pv 0)) rfl T.cl_Feed G_Feed_heard (hr.mono (by decide)) (b_Feed_heard0 T) (q_Feed_heard0 T) rfl tk) da_nil) dk_nil) (da_cons (de_callB cal_len (by rfl) T.z_len (by decide +kernel) (da_cons (de_me0 (src := r_Feed_heard0) (de_var (pv 0)) rfl T.cl_Feed G_Feed_heard (hr.mono (by decide)) (b_Feed_heard0 T) (q_Feed_heard0 T) rfl tk) da_nil)) da_nil)))
    (dss_cons (ds_for (passes_of rfl) rfl (di_seq (de_var (pv 1))) (dg_nm (i := 4) sc_Feed_push.nd rfl (.inl rfl))
    (dss_cons (ds_if (dt_w (dw_or (dt_cm (cmp_eq hr.u64) (de_var (pv 3)) (de_gc (by rfl) T.c_MOST_SIGNS T.t_MOST_SIGNS)) (dw_or1 (dt_cm (cmp_notIn hr.u65) (de_var (pv 4)) (de_kix (by rfl) T.c_FOLLOWING T.kt_FOLLOWING (de_var (pv 2)))))))
    (dss_one (ds_raise X_BadText gdT_ok (fun _ => rfl) (hr.mono (by decide)) tk (by rfl) (de_var (pv 3))))
    dss_nil)
    (dss_one (ds_par (i := 2) (j := 3) rfl sc_Feed_push.nd rfl rfl (by decide) rfl rfl (da_cons (de_call (src := r_stage_behind2) (ks := []) G_stage_behind (hr.mono (by decide)) (by rfl) (b_stage_behind2 T) (q_stage_behind2 T) rfl tk (da_cons (de_var (pv 2)) (da_cons (de_var (pv 4)) da_nil)) dk_nil) (da_cons (de_add (de_var (pv 3)) de_int) da_nil))))))
    (dss_cons (ds_expr (de_app (de_fld rfl T.cl_Feed T.n_Feed_all_pieces (de_var (pv 0))) (da_cons (de_var (pv 1)) da_nil)))
    (dss_one (ds_ret (de_var (pv 3))))))))
  exact h
theorem ok_Feed___len__ (T : Tx w K mg c_Feed c_BadText c_BadValue c_NotFinite p__law_feed_right t__law_feed_right a_BEHIND_E a_DOUBLE a_FOLLOWING a_WHOLE_TEXTS) (B : ∀ p ∈ [(t__law_feed_right, p__law_feed_right)], LamX.TabB base mg p.1 p.2) : MethG P w (mkC K c_Feed c_BadText c_BadValue c_NotFinite p__law_feed_right) mg base 2 c_Feed "__len__" "Feed.__len__" s_Feed___len__ [] [] ["self"] m_Feed___len__ := by
  have G_Feed_heard := ok_Feed_heard (P := P) (w := w) (base := base) T B
  refine MethAt.okG T.d_Feed___len__ fun f fd F => ?_
  have h := fnG_of (P := P) (w := w) (mg := mg) (base := base) (c := (mkC K c_Feed c_BadText c_BadValue c_NotFinite p__law_feed_right)) (k := 1) (fb := f_Feed___len__) F sc_Feed___len__ fun cdv A outer s H E hr => by
    have tk : Takes (cxOf (CX P w) P w K mg base N_Feed___len__ "Feed.__len__" (defScope s_Feed___len__) f cdv A outer s H E) (fun cls d _ H => E cls d H) := takes_of rfl rfl rfl rfl
    exact (dss_one (ds_ret (de_callB cal_len (by rfl) T.z_len (by decide +kernel) (da_cons (de_me0 (src := r_Feed_heard0) (de_var (pv 0)) rfl T.cl_Feed G_Feed_heard (hr.mono (by decide)) (b_Feed_heard0 T) (q_Feed_heard0 T) rfl tk) da_nil))))
  exact h
theorem ok__law_class (T : Tx w K mg c_Feed c_BadText c_BadValue c_NotFinite p__law_feed_right t__law_feed_right a_BEHIND_E a_DOUBLE a_FOLLOWING a_WHOLE_TEXTS) (B : ∀ p ∈ [(t__law_feed_right, p__law_feed_right)], LamX.TabB base mg p.1 p.2) : DefG P w (mkC K c_Feed c_BadText c_BadValue c_NotFinite p__law_feed_right) mg base 1 "_law_class" s__law_class [] [] ["_law_error"] m__law_class := by
  refine DefAt.okG T.d__law_class fun f fd F => ?_
  have h := fnG_of (P := P) (w := w) (mg := mg) (base := base) (c := (mkC K c_Feed c_BadText c_BadValue c_NotFinite p__law_feed_right)) (k := 0) (fb := f__law_class) F sc__law_class fun cdv A outer s H E hr => by
    have tk : Takes (cxOf (CX P w) P w K mg base N__law_class "_law_class" (defScope s__law_class) f cdv A outer s H E) (fun cls d _ H => E cls d H) := takes_of rfl rfl rfl rfl
    exact (dss_cons (ds_if (dt_val (de_callB (cal_isx T.isx) (by rfl) T.z_isinstance (by decide +kernel) (da_cons (de_var (pv 0)) (da_cons (de_xcl rfl (by rfl) T.g_BadText) da_nil))))
    (dss_one (ds_ret (de_if (dt_w (dw_and (dt_val (de_callB (cal_isx T.isx) (by rfl) T.z_isinstance (by decide +kernel) (da_cons (de_var (pv 0)) (da_cons (de_xcl rfl (by rfl) T.g_BadValue) da_nil)))) (dw_and1 (dt_cm (cmp_eq hr.u64) (de_xf T.xf_what (de_var (pv 0))) de_str)))) (de_tup (da_cons de_str (da_cons (de_xf T.xf_place (de_var (pv 0))) da_nil))) (de_tup (da_cons de_str da_nil)))))
    dss_nil)
    (dss_cons (ds_if (dt_val (de_callB (cal_isx T.isx) (by rfl) T.z_isinstance (by decide +kernel) (da_cons (de_var (pv 0)) (da_cons (de_xcl rfl (by rfl) T.g_BadValue) da_nil))))
    (dss_one (ds_ret (de_if (dt_val (de_callB (cal_isx T.isx) (by rfl) T.z_isinstance (by decide +kernel) (da_cons (de_var (pv 0)) (da_cons (de_ty (pe_bltn (v := .ty "ValueError") (by rfl) T.z_ValueError (by decide +kernel) rfl)) da_nil)))) (de_tup (da_cons de_str (da_cons (de_xf T.xf_what (de_var (pv 0))) da_nil))) (de_tup (da_cons de_str da_nil)))))
    dss_nil)
    (dss_one (ds_ret (de_if (dt_val (de_callB (cal_isx T.isx) (by rfl) T.z_isinstance (by decide +kernel) (da_cons (de_var (pv 0)) (da_cons (de_ty (pe_bltn (v := .ty "ArithmeticError") (by rfl) T.z_ArithmeticError (by decide +kernel) rfl)) da_nil)))) (de_tup (da_cons de_str (da_cons (de_xf T.xf_state (de_var (pv 0))) da_nil))) (de_tup (da_cons de_str da_nil)))))))
  exact h
theorem ok__law_told (T : Tx w K mg c_Feed c_BadText c_BadValue c_NotFinite p__law_feed_right t__law_feed_right a_BEHIND_E a_DOUBLE a_FOLLOWING a_WHOLE_TEXTS) (B : ∀ p ∈ [(t__law_feed_right, p__law_feed_right)], LamX.TabB base mg p.1 p.2) (k : Nat) (hk : 1 ≤ k) : ToldG P w (mkC K c_Feed c_BadText c_BadValue c_NotFinite p__law_feed_right) mg base k "_law_told" xNs m__law_class := told_of1 T.d__law_told rfl sc__law_told (.inl rfl) rfl rfl rfl rfl rfl T.g_BadValue T.g_NotFinite (by decide) (by decide) rfl (by decide) (ok__law_class T B) hk (fun _ _ _ _ _ _ us hl => match us, hl with | [_], _ => rfl) (fun _ _ _ _ _ _ us hl => match us, hl with | [_], _ => rfl) T.xt
theorem ok__law_feed_right (T : Tx w K mg c_Feed c_BadText c_BadValue c_NotFinite p__law_feed_right t__law_feed_right a_BEHIND_E a_DOUBLE a_FOLLOWING a_WHOLE_TEXTS) (B : ∀ p ∈ [(t__law_feed_right, p__law_feed_right)], LamX.TabB base mg p.1 p.2) : DefG P w (mkC K c_Feed c_BadText c_BadValue c_NotFinite p__law_feed_right) mg base 7 "_law_feed_right" s__law_feed_right [] [] ["_law_text"] m__law_feed_right := by
  have G_Feed___init__ := ok_Feed___init__ (P := P) (w := w) (base := base) T B
  have G_Feed___len__ := ok_Feed___len__ (P := P) (w := w) (base := base) T B
  have G_Feed_heard := ok_Feed_heard (P := P) (w := w) (base := base) T B
  have G_Feed_is_text := ok_Feed_is_text (P := P) (w := w) (base := base) T B
  have G_Feed_push := ok_Feed_push (P := P) (w := w) (base := base) T B
  have G__law_is_whole_text := ok__law_is_whole_text (P := P) (w := w) (base := base) T B
  have G__law_let_by := ok__law_let_by (P := P) (w := w) (base := base) T B
  have G__law_told := fun k h => ok__law_told (P := P) (w := w) (base := base) T B k h
  have B__law_feed_right := B _ (.head _)
  have tm__law_feed_right : (p__law_feed_right, ("_law_feed_right" : Str) ++ ".<locals>." ++ "<lambda>") ∈ (mkC K c_Feed c_BadText c_BadValue c_NotFinite p__law_feed_right).T := .head _
  have h := DefAt.okC (P := P) (w := w) (mg := mg) (base := base) (c := (mkC K c_Feed c_BadText c_BadValue c_NotFinite p__law_feed_right)) (k := 6) (fb := f__law_feed_right) T.d__law_feed_right T.cd__law_feed_right sc__law_feed_right fun f A outer s H E hr => by
    have tk : Takes (cxOf (CX P w) P w K mg base N__law_feed_right "_law_feed_right" (defScope s__law_feed_right) f (.ref t__law_feed_right) A outer s H E) (fun cls d _ H => E cls d H) := takes_of rfl rfl rfl rfl
    exact (dss_cons (ds_asg (de_tup (da_cons (de_mk0 (src := r_Feed0) (ks := []) G_Feed___init__ rfl (hr.mono (by decide)) (by rfl) T.g_Feed (b_Feed0 T) (q_Feed0 T) rfl tk dk_nil) (da_cons (de_call (src := r__law_let_by1) (ks := []) G__law_let_by (hr.mono (by decide)) (by rfl) (b__law_let_by1 T) (q__law_let_by1 T) rfl tk (da_cons (de_var (pv 0)) da_nil) dk_nil) da_nil))) (dg_tup (n := 2) rfl (dgs_cons (dg_nm (i := 1) sc__law_feed_right.nd rfl (.inr rfl)) (dgs_cons (dg_nm (i := 2) sc__law_feed_right.nd rfl (.inr rfl)) dgs_nil))))
    (dss_cons (ds_for (passes_of rfl) rfl (di_range1 (by rfl) T.z_range (da_cons (de_var (pv 2)) da_nil)) (dg_nm (i := 3) sc__law_feed_right.nd rfl (.inl rfl))
    (dss_one (ds_if (dt_w (dw_or (dt_cm (cmp_ne hr.u64) (de_me (src := r_Feed_push1) (de_var (pv 1)) rfl T.cl_Feed G_Feed_push (hr.mono (by decide)) (b_Feed_push1 T) (q_Feed_push1 T) rfl tk (da_cons (de_ix (de_var (pv 0)) (de_var (pv 3))) da_nil)) (de_add (de_var (pv 3)) de_int)) (dw_or1 (dt_cm (cmp_ne hr.u64) (de_me0 (src := r_Feed_is_text0) (de_var (pv 1)) rfl T.cl_Feed G_Feed_is_text (hr.mono (by decide)) (b_Feed_is_text0 T) (q_Feed_is_text0 T) rfl tk) (de_call (src := r__law_is_whole_text1) (ks := []) G__law_is_whole_text (hr.mono (by decide)) (by rfl) (b__law_is_whole_text1 T) (q__law_is_whole_text1 T) rfl tk (da_cons (de_slice (de_var (pv 0)) do_none (do_some (de_add (de_var (pv 3)) de_int))) da_nil) dk_nil)))))
    (dss_one (ds_ret de_bl))
    dss_nil)))
    (dss_cons (ds_set (i := 4) sc__law_feed_right.nd rfl (.inr rfl) (de_mk0 (src := r_Feed0) (ks := []) G_Feed___init__ rfl (hr.mono (by decide)) (by rfl) T.g_Feed (b_Feed0 T) (q_Feed0 T) rfl tk dk_nil))
    (dss_cons (ds_set (i := 5) sc__law_feed_right.nd rfl (.inl rfl) (de_if (dt_cm (cmp_eq hr.u64) (de_var (pv 2)) (de_callB cal_len (by rfl) T.z_len (by decide +kernel) (da_cons (de_var (pv 0)) da_nil))) (de_frz (df_lst (da_cons (de_callB cal_len (by rfl) T.z_len (by decide +kernel) (da_cons (de_var (pv 0)) da_nil)) da_nil))) (de_tup (da_cons de_str (da_cons (de_var (pv 2)) da_nil)))))
    (dss_cons (ds_if (dt_w (dw_or (dt_cm (cmp_ne hr.u64) (de_told (k := 4) (G__law_told 4 (by decide)) (by rfl) B__law_feed_right rfl tm__law_feed_right (hu_of T.tnd tm__law_feed_right) (hr.mono (by decide)) (lamS_by (sc := defScope s__law_feed_right) (by decide +kernel)) rfl (fun _ _ _ _ _ => rfl) (fun A' outer' s' H' E' f' c' hr => (de_me (src := r_Feed_push1) (de_var (pv 4)) rfl T.cl_Feed G_Feed_push (hr.mono (by decide)) (b_Feed_push1 T) (q_Feed_push1 T) rfl lam_tk (da_cons (de_var (pv 0)) da_nil)))) (de_var (pv 5))) (dw_or1 (dt_cm (cmp_ne hr.u64) (de_callB (cal_lenI rfl G_Feed___len__ rfl (hr.mono (by decide)) (b_Feed___len__0 T)) (by rfl) T.z_len (by decide +kernel) (da_cons (de_var (pv 4)) da_nil)) (de_if (dt_cm (cmp_eq hr.u64) (de_var (pv 2)) (de_callB cal_len (by rfl) T.z_len (by decide +kernel) (da_cons (de_var (pv 0)) da_nil))) (de_callB cal_len (by rfl) T.z_len (by decide +kernel) (da_cons (de_var (pv 0)) da_nil)) de_int)))))
    (dss_one (ds_ret de_bl))
    dss_nil)
    (dss_cons (ds_if (dt_w (dw_and (dt_cm cmp_lt (de_var (pv 2)) (de_callB cal_len (by rfl) T.z_len (by decide +kernel) (da_cons (de_var (pv 0)) da_nil))) (dw_and1 (dt_cm (cmp_ne hr.u64) (de_told (k := 4) (G__law_told 4 (by decide)) (by rfl) B__law_feed_right rfl tm__law_feed_right (hu_of T.tnd tm__law_feed_right) (hr.mono (by decide)) (lamS_by (sc := defScope s__law_feed_right) (by decide +kernel)) rfl (fun _ _ _ _ _ => rfl) (fun A' outer' s' H' E' f' c' hr => (de_me (src := r_Feed_push1) (de_var (pv 1)) rfl T.cl_Feed G_Feed_push (hr.mono (by decide)) (b_Feed_push1 T) (q_Feed_push1 T) rfl lam_tk (da_cons (de_ix (de_var (pv 0)) (de_var (pv 2))) da_nil)))) (de_tup (da_cons de_str (da_cons (de_var (pv 2)) da_nil)))))))
    (dss_one (ds_ret de_bl))
    dss_nil)
    (dss_one (ds_ret (de_cm (cmp_eq hr.u64) (de_me0 (src := r_Feed_heard0) (de_var (pv 1)) rfl T.cl_Feed G_Feed_heard (hr.mono (by decide)) (b_Feed_heard0 T) (q_Feed_heard0 T) rfl tk) (de_slice (de_var (pv 0)) do_none (do_some (de_var (pv 2)))))))))))))
  exact h.cutT
theorem ok_law (T : Tx w K mg c_Feed c_BadText c_BadValue c_NotFinite p__law_feed_right t__law_feed_right a_BEHIND_E a_DOUBLE a_FOLLOWING a_WHOLE_TEXTS) (B : ∀ p ∈ [(t__law_feed_right, p__law_feed_right)], LamX.TabB base mg p.1 p.2) : DefG P w (mkC K c_Feed c_BadText c_BadValue c_NotFinite p__law_feed_right) mg base 8 "law" s_law [] [] ["_law_script"] m_law := by
  have G__law_any_text := ok__law_any_text (P := P) (w := w) (base := base) T B
  have G__law_begun := ok__law_begun (P := P) (w := w) (base := base) T B
  have G__law_deep := ok__law_deep (P := P) (w := w) (base := base) T B
  have G__law_draw := ok__law_draw (P := P) (w := w) (base := base) T B
  have G__law_feed_right := ok__law_feed_right (P := P) (w := w) (base := base) T B
  have G__law_long_right := ok__law_long_right (P := P) (w := w) (base := base) T B
  have G__law_signs_due := ok__law_signs_due (P := P) (w := w) (base := base) T B
  have G__law_spoilt := ok__law_spoilt (P := P) (w := w) (base := base) T B
  have G_follows := ok_follows (P := P) (w := w) (base := base) T B
  refine DefAt.okG T.d_law fun f fd F => ?_
  have h := fnG_of (P := P) (w := w) (mg := mg) (base := base) (c := (mkC K c_Feed c_BadText c_BadValue c_NotFinite p__law_feed_right)) (k := 7) (fb := f_law) F sc_law fun cdv A outer s H E hr => by
    have tk : Takes (cxOf (CX P w) P w K mg base N_law "law" (defScope s_law) f cdv A outer s H E) (fun cls d _ H => E cls d H) := takes_of rfl rfl rfl rfl
    exact (dss_cons (ds_set (i := 1) sc_law.nd rfl (.inl rfl) (de_call (src := r__law_begun1) (ks := []) G__law_begun (hr.mono (by decide)) (by rfl) (b__law_begun1 T) (q__law_begun1 T) rfl tk (da_cons (de_var (pv 0)) da_nil) dk_nil))
    (dss_cons (ds_for (passes_of rfl) rfl (di_seq (de_frz (df_cat (de_frz (df_lst (da_cons de_non (da_cons de_int (da_cons (de_frz (df_lst (da_cons de_str da_nil))) (da_cons (de_tup da_nil) (da_cons de_bl da_nil))))))) (de_call0 (src := r__law_deep0) (ks := []) G__law_deep (hr.mono (by decide)) (by rfl) (b__law_deep0 T) (q__law_deep0 T) rfl tk dk_nil)))) (dg_nm (i := 2) sc_law.nd rfl (.inl rfl))
    (dss_one (ds_if (dt_cm (cmp_ne hr.u64) (de_call (src := r_follows1) (ks := []) G_follows (hr.mono (by decide)) (by rfl) (b_follows1 T) (q_follows1 T) rfl tk (da_cons (de_var (pv 2)) da_nil) dk_nil) de_str)
    (dss_one (ds_ret de_bl))
    dss_nil)))
    (dss_cons (ds_if (dt_not (dt_val (de_call (src := r__law_long_right1) (ks := []) G__law_long_right (hr.mono (by decide)) (by rfl) (b__law_long_right1 T) (q__law_long_right1 T) rfl tk (da_cons (de_var (pv 1)) da_nil) dk_nil)))
    (dss_one (ds_ret de_bl))
    dss_nil)
    (dss_cons (ds_for (passes_of rfl) rfl (di_range1 (by rfl) T.z_range (da_cons (de_callB cal_min (by rfl) T.z_min (by decide +kernel) (da_cons de_int (da_cons (de_add de_int (de_fdiv (de_callB cal_len (by rfl) T.z_len (by decide +kernel) (da_cons (de_var (pv 0)) da_nil)) de_int)) da_nil))) da_nil)) (dg_nm (i := 3) sc_law.nd rfl (.inl rfl))
    (dss_cons (ds_set (i := 4) sc_law.nd rfl (.inl rfl) (de_call (src := r__law_any_text1) (ks := []) G__law_any_text (hr.mono (by decide)) (by rfl) (b__law_any_text1 T) (q__law_any_text1 T) rfl tk (da_cons (de_var (pv 1)) da_nil) dk_nil))
    (dss_cons (ds_set (i := 5) sc_law.nd rfl (.inl rfl) (de_call (src := r__law_spoilt2) (ks := []) G__law_spoilt (hr.mono (by decide)) (by rfl) (b__law_spoilt2 T) (q__law_spoilt2 T) rfl tk (da_cons (de_var (pv 1)) (da_cons (de_var (pv 4)) da_nil)) dk_nil))
    (dss_cons (ds_for (passes_of rfl) rfl (di_seq (de_tup (da_cons (de_var (pv 4)) (da_cons (de_var (pv 5)) (da_cons (de_slice (de_var (pv 4)) do_none (do_some (de_call (src := r__law_draw2) (ks := []) G__law_draw (hr.mono (by decide)) (by rfl) (b__law_draw2 T) (q__law_draw2 T) rfl tk (da_cons (de_var (pv 1)) (da_cons (de_add (de_callB cal_len (by rfl) T.z_len (by decide +kernel) (da_cons (de_var (pv 4)) da_nil)) de_int) da_nil)) dk_nil))) da_nil))))) (dg_nm (i := 6) sc_law.nd rfl (.inl rfl))
    (dss_one (ds_if (dt_cm (cmp_ne hr.u64) (de_call (src := r_follows1) (ks := []) G_follows (hr.mono (by decide)) (by rfl) (b_follows1 T) (q_follows1 T) rfl tk (da_cons (de_var (pv 6)) da_nil) dk_nil) (de_call (src := r__law_signs_due1) (ks := []) G__law_signs_due (hr.mono (by decide)) (by rfl) (b__law_signs_due1 T) (q__law_signs_due1 T) rfl tk (da_cons (de_var (pv 6)) da_nil) dk_nil))
    (dss_one (ds_ret de_bl))
    dss_nil)))
    (dss_one (ds_if (dt_w (dw_or (dt_not (dt_val (de_call (src := r__law_feed_right1) (ks := []) G__law_feed_right (hr.mono (by decide)) (by rfl) (b__law_feed_right1 T) (q__law_feed_right1 T) rfl tk (da_cons (de_var (pv 4)) da_nil) dk_nil))) (dw_or1 (dt_not (dt_val (de_call (src := r__law_feed_right1) (ks := []) G__law_feed_right (hr.mono (by decide)) (by rfl) (b__law_feed_right1 T) (q__law_feed_right1 T) rfl tk (da_cons (de_var (pv 5)) da_nil) dk_nil))))))
    (dss_one (ds_ret de_bl))
    dss_nil))))))
    (dss_one (ds_ret de_bl))))))
  exact h
end
theorem fin_law {P : Program} {w : World} {K : PySem.W.Frag} {mg : Str → Option Value} {h : Heap} {q : Program} {fa c_Feed c_BadText c_BadValue c_NotFinite p__law_feed_right t__law_feed_right a_BEHIND_E a_DOUBLE a_FOLLOWING a_WHOLE_TEXTS : Addr} (hfa : mg "law" = some (.ref fa)) (TH : ∀ (e : DefRec) (y : Str) (c P : Addr), (recsOf q).find? (fun e => e.name == y) = some e → PySem.W.tabIn K y = some (c, P) → PySem.W.CodeHd h c P ∧ h.get? P = some tab0) (T : Tx w K mg c_Feed c_BadText c_BadValue c_NotFinite p__law_feed_right t__law_feed_right a_BEHIND_E a_DOUBLE a_FOLLOWING a_WHOLE_TEXTS) (r__law_feed_right : ∃ e, (recsOf q).find? (fun e => e.name == ("_law_feed_right" : Str)) = some e) :
    ∃ (c : Cc) (cs : List (Addr × Addr)) (fd : FuncData), c.K = K ∧ (∀ p ∈ cs, TabH K h p) ∧ (∀ p ∈ c.T, ∃ q ∈ cs, q.2 = p.1) ∧ (∀ (s : Shared) (u : Value), BindsTo s fd ⟨[u], []⟩ [("_law_script", u)]) ∧
        ∀ base : Heap, K.In base → base.Ns mainGlobals mg → (∀ p ∈ cs, LamX.TabB base mg p.1 p.2) → FnG P w K mg base 8 fa fd ["_law_script"] (spD c 1 m_law) := by
  obtain ⟨fd, h1, h2⟩ := DefG.finT (P := P) (w := w) (c := (mkC K c_Feed c_BadText c_BadValue c_NotFinite p__law_feed_right)) (cs := [(t__law_feed_right, p__law_feed_right)]) T.d_law hfa (fun _ _ _ _ _ _ us hl => match us, hl with | [_], _ => rfl) fun base B => ok_law T B
  refine ⟨(mkC K c_Feed c_BadText c_BadValue c_NotFinite p__law_feed_right), [(t__law_feed_right, p__law_feed_right)], fd, rfl, ?_, ?_, h1, h2⟩
  · intro p hp
    simp only [List.mem_cons, List.not_mem_nil, or_false] at hp
    rcases hp with rfl
    · obtain ⟨e, he⟩ := r__law_feed_right
      exact ⟨(TH e _ _ _ he T.tb__law_feed_right).1, (TH e _ _ _ he T.tb__law_feed_right).2, T.nk__law_feed_right⟩
  · intro p hp
    change p ∈ [(p__law_feed_right, ("_law_feed_right" : Str) ++ ".<locals>." ++ "<lambda>")] at hp
    simp only [List.mem_cons, List.not_mem_nil, or_false] at hp
    rcases hp with rfl
    · exact ⟨(t__law_feed_right, p__law_feed_right), .head _, rfl⟩
end DW
open PySem PySem.W PyProof.Rows
set_option maxHeartbeats 0 in
theorem PySem.Challenge.cw_digitway_k60_whole_what_follows_holds : PySem.Challenge.rw_digitway_k60_whole_what_follows.Holds := by
  w_on; o_law; k_head; (case hw => w_witness2)
  k_fill
  refine DW.walkGT (l := PySem.Challenge.rw_digitway_k60_whole_what_follows) (n := 63) (k := 8) (x := "_law_script") (m := DW.m_law) rfl (by decide) rfl ⟨⟨rfl, by decide, by decide⟩, fun _ => rfl⟩ (fun w h Y => PySem.W.km_in_of Y) ?F DW.law_true
  case F =>
    intro w mg fa h KX G hmg TH
    refine' DW.fin_law hmg TH (DW.Tx.mk ?x0 ?x1 ?x2 ?x3 ?x4 ?x5 ?x6 ?x7 ?x8 ?x9 ?x10 ?x11 ?x12 ?x13 ?x14 ?x15 ?x16 ?x17 ?x18 ?x19 ?x20 ?x21 ?x22 ?x23 ?x24 ?x25 ?x26 ?x27 ?x28 ?x29 ?x30 ?x31 ?x32 ?x33 ?x34 ?x35 ?x36 ?x37 ?x38 ?x39 ?x40 ?x41 ?x42 ?x43 ?x44 ?x45 ?x46 ?x47 ?x48 ?x49 ?x50 ?x51 ?x52 ?x53 ?x54 ?x55 ?x56 ?x57 ?x58 ?x59 ?x60 ?x61 ?x62 ?x63 ?x64 ?x65 ?x66 ?x67 ?x68 ?x69 ?x70 ?x71 ?x72 ?x73 ?x74 ?x75 ?x76 ?x77 ?x78 ?x79 ?x80 ?x81 ?x82 ?x83 ?x84 ?x85 ?x86 ?x87 ?x88 ?x89 ?x90 ?x91 ?x92 ?x93 ?x94 ?x95 ?x96 ?x97 ?x98 ?x99 ?x100 ?x101 ?x102 ?x103 ?x104) ⟨_, rfl⟩
    (case x0 =>
      (refine' PySem.W.mg_of KX G ?e; (case e => k_is))
    )
    (case x1 =>
      (refine' PySem.W.mg_of KX G ?e; (case e => k_is))
    )
    (case x2 =>
      (refine' PySem.W.mg_of KX G ?e; (case e => k_is))
    )
    (case x3 =>
      (refine' PySem.W.mg_of KX G ?e; (case e => k_is))
    )
    (case x4 =>
      (refine' PySem.W.mg_of KX G ?e; (case e => k_is))
    )
    (case x5 =>
      (refine' PySem.W.mg_of KX G ?e; (case e => k_is))
    )
    (case x6 =>
      (refine' PySem.W.mg_of KX G ?e; (case e => k_is))
    )
    (case x7 =>
      (refine' PySem.W.mg_of KX G ?e; (case e => k_is))
    )
    (case x8 =>
      (refine' DW.CodeOf.mk (PySem.W.mg_of KX G ?e) ?l ?c; (case e => k_is); (case l => k_is); (case c => rfl))
    )
    (case x9 =>
      (refine' DW.tab_mk ?ta ?tl ?tc ?tk ?tp; (case ta => k_is); (case tl => k_is); (case tc => rfl); (case tk => k_is); (case tp => rfl))
    )
    (case x10 =>
      kernel_rfl
    )
    (case x11 =>
      (show List.Nodup [_]; decide)
    )
    (case x12 =>
      (refine' DW.IsxOk.of_list ?ty ?oo ?ob
       (case ty => (simp only [DW.allP_cons, DW.allP_nil, and_true]; (repeat' refine @And.intro _ _ ?_ ?_) <;> (refine' L2.ExcC.mk ?_ ?_ ?_ ?_ ?_ ?_ ?_ ?_ <;> k_is)))
       (case oo => (simp only [DW.allP_cons, DW.allP_nil, and_true]; (repeat' refine @And.intro _ _ ?_ ?_) <;> first | exact DW.kit_same2 (by decide) | (refine' DW.kit_bo2 (by decide) ?_ ?_ ?_ <;> k_is)))
       (case ob => (simp only [DW.allP_cons, DW.allP_nil, DW.xTys, DW.allT_cons, DW.allT_nil, and_true]; (repeat' refine @And.intro _ _ ?_ ?_) <;> (refine' DW.kit_ob2 (by decide +kernel) ?_ <;> k_is))))
    )
    (case x13 =>
      (refine' DW.XfOk.of_list ?xf ?no
       (case xf => (simp only [DW.allP_cons, DW.allP_nil, and_true]; (repeat' refine @And.intro _ _ ?_ ?_) <;> (refine' L2.XfC.mk ?_ ?_ ?_ ?_ <;> k_is)))
       (case no => (simp only [DW.allP_cons, DW.allP_nil, and_true]; (repeat' refine @And.intro _ _ ?_ ?_) <;> k_is)))
    )
    (case x14 =>
      (refine' DW.XfOk.of_list ?xf ?no
       (case xf => (simp only [DW.allP_cons, DW.allP_nil, and_true]; (repeat' refine @And.intro _ _ ?_ ?_) <;> (refine' L2.XfC.mk ?_ ?_ ?_ ?_ <;> k_is)))
       (case no => (simp only [DW.allP_cons, DW.allP_nil, and_true]; (repeat' refine @And.intro _ _ ?_ ?_) <;> k_is)))
    )
    (case x15 =>
      (refine' DW.XfOk.of_list ?xf ?no
       (case xf => (simp only [DW.allP_cons, DW.allP_nil, and_true]; (repeat' refine @And.intro _ _ ?_ ?_) <;> (refine' L2.XfC.mk ?_ ?_ ?_ ?_ <;> k_is)))
       (case no => (simp only [DW.allP_cons, DW.allP_nil, and_true]; (repeat' refine @And.intro _ _ ?_ ?_) <;> k_is)))
    )
    (case x16 =>
      (refine' DW.xt_of ?_; (simp only [DW.allP_cons, DW.allP_nil, and_true]; (repeat' refine @And.intro _ _ ?_ ?_) <;> kernel_rfl))
    )
    (case x17 =>
      (refine' DW.XInitAt.mk ?a ?i ?l ?c ?k; (case a => k_is); (case i => k_is); (case l => k_is); (case c => k_is); (case k => k_is))
    )
    (case x18 =>
      (refine' PySem.DWX.XMk.mk ?_ ?_ ?_ ?_ ?_ ?_ ?_ <;> first | k_is | kx_is)
    )
    (case x19 =>
      (refine' DW.XSt.mkV ?_ ?_ ?_ ?_ <;> first | k_is | kx_is)
    )
    (case x20 =>
      (refine' DW.XSt.mkV ?_ ?_ ?_ ?_ <;> first | k_is | kx_is)
    )
    (case x21 =>
      (refine' DW.XInitAt.mk ?a ?i ?l ?c ?k; (case a => k_is); (case i => k_is); (case l => k_is); (case c => k_is); (case k => k_is))
    )
    (case x22 =>
      (refine' PySem.DWX.XMk.mk ?_ ?_ ?_ ?_ ?_ ?_ ?_ <;> first | k_is | kx_is)
    )
    (case x23 =>
      (refine' DW.XSt.mkV ?_ ?_ ?_ ?_ <;> first | k_is | kx_is)
    )
    (case x24 =>
      (refine' DW.XInitAt.mk ?a ?i ?l ?c ?k; (case a => k_is); (case i => k_is); (case l => k_is); (case c => k_is); (case k => k_is))
    )
    (case x25 =>
      (refine' PySem.DWX.XMk.mk ?_ ?_ ?_ ?_ ?_ ?_ ?_ <;> first | k_is | kx_is)
    )
    (case x26 =>
      (refine' DW.XSt.mkA ?_ ?_ ?_ ?_ <;> first | k_is | kx_is)
    )
    (case x27 =>
      (refine' ClX.CRead.mk ?_ ?_ <;> k_is)
    )
    (case x28 =>
      (refine' DW.xv_mk ?a ?l ?c ?k; (case a => k_is); (case l => k_is); (case c => k_is); (case k => k_is))
    )
    (case x29 =>
      (refine' DW.gc_mk KX G ?e ?r; (case e => k_is); (case r => exact ⟨_, rfl⟩))
    )
    (case x30 =>
      exact fun _ _ => by simp only [DW.Dat]
    )
    (case x31 =>
      (refine' DW.gc_mk KX G ?e ?r; (case e => k_is); (case r => exact ⟨_, rfl⟩))
    )
    (case x32 =>
      exact fun _ _ => by simp only [DW.Dat]
    )
    (case x33 =>
      (refine' DW.gc_mk KX G ?e ?r; (case e => k_is); (case r => exact rfl))
    )
    (case x34 =>
      (refine' DW.KTab.mk (ks := ["e", "e+", "e1", "e2", "e3"]) ?l ?k ?d ?u; (case l => k_is); (case k => rfl); (case d => decide +kernel); (case u => (simp only [DW.U_BEHIND_E, DW.allE_cons, DW.allE_nil, DW.KEnt_s, DW.KEnt_n, and_true]; (repeat' refine @And.intro _ _ ?_ ?_) <;> first | (exact DW.KEnt.s (by k_is)) | k_is)))
    )
    (case x35 =>
      (refine' DW.gc_mk KX G ?e ?r; (case e => k_is); (case r => exact rfl))
    )
    (case x36 =>
      (refine' DW.kt_D (xs := [.int (53), .int (-1074), .int (971)]) ?l ?z ?r ?hd; (case l => (dsimp only [DW.mkC]; k_is)); (case z => decide); (case r => exact (.cons ⟨_, rfl⟩ (.cons ⟨_, rfl⟩ (.cons ⟨_, rfl⟩ .nil)))); (case hd => exact fun _ _ => (.cons (by simp only [DW.Dat]) (.cons (by simp only [DW.Dat]) (.cons (by simp only [DW.Dat]) .nil)))))
    )
    (case x37 =>
      (refine' DW.gc_mk KX G ?e ?r; (case e => k_is); (case r => exact ⟨_, rfl⟩))
    )
    (case x38 =>
      exact fun _ _ => by simp only [DW.Dat]
    )
    (case x39 =>
      (refine' DW.gc_mk KX G ?e ?r; (case e => k_is); (case r => exact ⟨_, rfl⟩))
    )
    (case x40 =>
      exact fun _ _ => by simp only [DW.Dat]
    )
    (case x41 =>
      (refine' DW.gc_mk KX G ?e ?r; (case e => k_is); (case r => exact rfl))
    )
    (case x42 =>
      (refine' DW.KTab.mk (ks := ["start", "signed", "n", "na", "nan", "i", "in", "inf", "whole", "dot", "point", "e", "e+", "e1", "e2", "e3", "e4"]) ?l ?k ?d ?u; (case l => k_is); (case k => rfl); (case d => decide +kernel); (case u => (simp only [DW.U_FOLLOWING, DW.allE_cons, DW.allE_nil, DW.KEnt_s, DW.KEnt_n, and_true]; (repeat' refine @And.intro _ _ ?_ ?_) <;> first | (exact DW.KEnt.s (by k_is)) | k_is)))
    )
    (case x43 =>
      (refine' DW.gc_mk KX G ?e ?r; (case e => k_is); (case r => exact ⟨_, rfl⟩))
    )
    (case x44 =>
      exact fun _ _ => by simp only [DW.Dat]
    )
    (case x45 =>
      (refine' DW.gc_mk KX G ?e ?r; (case e => k_is); (case r => exact ⟨_, rfl⟩))
    )
    (case x46 =>
      exact fun _ _ => by simp only [DW.Dat]
    )
    (case x47 =>
      (refine' DW.gc_mk KX G ?e ?r; (case e => k_is); (case r => exact ⟨_, rfl⟩))
    )
    (case x48 =>
      exact fun _ _ => by simp only [DW.Dat]
    )
    (case x49 =>
      (refine' DW.gc_mk KX G ?e ?r; (case e => k_is); (case r => exact ⟨_, rfl⟩))
    )
    (case x50 =>
      exact fun _ _ => by simp only [DW.Dat]
    )
    (case x51 =>
      (refine' DW.gc_mk KX G ?e ?r; (case e => k_is); (case r => exact ⟨_, rfl⟩))
    )
    (case x52 =>
      exact fun _ _ => by simp only [DW.Dat]
    )
    (case x53 =>
      (refine' DW.gc_mk KX G ?e ?r; (case e => k_is); (case r => exact ⟨_, rfl⟩))
    )
    (case x54 =>
      exact fun _ _ => by simp only [DW.Dat]
    )
    (case x55 =>
      (refine' DW.gc_mk KX G ?e ?r; (case e => k_is); (case r => exact rfl))
    )
    (case x56 =>
      (refine' DW.kt_D (xs := [.str "nan", .str "inf", .str "whole", .str "point", .str "e1", .str "e2", .str "e3", .str "e4"]) ?l ?z ?r ?hd; (case l => (dsimp only [DW.mkC]; k_is)); (case z => decide); (case r => exact (.cons ⟨_, rfl⟩ (.cons ⟨_, rfl⟩ (.cons ⟨_, rfl⟩ (.cons ⟨_, rfl⟩ (.cons ⟨_, rfl⟩ (.cons ⟨_, rfl⟩ (.cons ⟨_, rfl⟩ (.cons ⟨_, rfl⟩ .nil))))))))); (case hd => exact fun _ _ => (.cons (by simp only [DW.Dat]) (.cons (by simp only [DW.Dat]) (.cons (by simp only [DW.Dat]) (.cons (by simp only [DW.Dat]) (.cons (by simp only [DW.Dat]) (.cons (by simp only [DW.Dat]) (.cons (by simp only [DW.Dat]) (.cons (by simp only [DW.Dat]) .nil))))))))))
    )
    (case x57 =>
      (refine' DW.gc_mk KX G ?e ?r; (case e => k_is); (case r => exact ⟨_, rfl⟩))
    )
    (case x58 =>
      exact fun _ _ => by simp only [DW.Dat]
    )
    (case x59 =>
      (refine' DW.DefAt.mk0 KX G ?a ?l ?c ?k; (case a => k_is); (case l => k_is); (case c => k_is); (case k => k_is))
    )
    (case x60 =>
      (refine' DW.DefAt.mk0 KX G ?a ?l ?c ?k; (case a => k_is); (case l => k_is); (case c => k_is); (case k => k_is))
    )
    (case x61 =>
      (refine' DW.DefAt.mk0 KX G ?a ?l ?c ?k; (case a => k_is); (case l => k_is); (case c => k_is); (case k => k_is))
    )
    (case x62 =>
      (refine' DW.DefAt.mk0 KX G ?a ?l ?c ?k; (case a => k_is); (case l => k_is); (case c => k_is); (case k => k_is))
    )
    (case x63 =>
      (refine' DW.DefAt.mk0 KX G ?a ?l ?c ?k; (case a => k_is); (case l => k_is); (case c => k_is); (case k => k_is))
    )
    (case x64 =>
      (refine' DW.DefAt.mk0 KX G ?a ?l ?c ?k; (case a => k_is); (case l => k_is); (case c => k_is); (case k => k_is))
    )
    (case x65 =>
      (refine' DW.DefAt.mk0 KX G ?a ?l ?c ?k; (case a => k_is); (case l => k_is); (case c => k_is); (case k => k_is))
    )
    (case x66 =>
      (refine' DW.DefAt.mk0 KX G ?a ?l ?c ?k; (case a => k_is); (case l => k_is); (case c => k_is); (case k => k_is))
    )
    (case x67 =>
      (refine' DW.DefAt.mk0 KX G ?a ?l ?c ?k; (case a => k_is); (case l => k_is); (case c => k_is); (case k => k_is))
    )
    (case x68 =>
      (refine' DW.DefAt.mk0 KX G ?a ?l ?c ?k; (case a => k_is); (case l => k_is); (case c => k_is); (case k => k_is))
    )
    (case x69 =>
      (refine' DW.DefAt.mk0 KX G ?a ?l ?c ?k; (case a => k_is); (case l => k_is); (case c => k_is); (case k => k_is))
    )
    (case x70 =>
      (refine' DW.DefAt.mk0 KX G ?a ?l ?c ?k; (case a => k_is); (case l => k_is); (case c => k_is); (case k => k_is))
    )
    (case x71 =>
      (refine' DW.DefAt.mk0 KX G ?a ?l ?c ?k; (case a => k_is); (case l => k_is); (case c => k_is); (case k => k_is))
    )
    (case x72 =>
      (refine' DW.DefAt.mk0 KX G ?a ?l ?c ?k; (case a => k_is); (case l => k_is); (case c => k_is); (case k => k_is))
    )
    (case x73 =>
      (refine' DW.DefAt.mk0 KX G ?a ?l ?c ?k; (case a => k_is); (case l => k_is); (case c => k_is); (case k => k_is))
    )
    (case x74 =>
      (refine' DW.DefAt.mk0 KX G ?a ?l ?c ?k; (case a => k_is); (case l => k_is); (case c => k_is); (case k => k_is))
    )
    (case x75 =>
      (refine' DW.DefAt.mk0 KX G ?a ?l ?c ?k; (case a => k_is); (case l => k_is); (case c => k_is); (case k => k_is))
    )
    (case x76 =>
      (refine' DW.DefAt.mk0 KX G ?a ?l ?c ?k; (case a => k_is); (case l => k_is); (case c => k_is); (case k => k_is))
    )
    (case x77 =>
      (refine' DW.DefAt.mk0 KX G ?a ?l ?c ?k; (case a => k_is); (case l => k_is); (case c => k_is); (case k => k_is))
    )
    (case x78 =>
      (refine' DW.DefAt.mk0 KX G ?a ?l ?c ?k; (case a => k_is); (case l => k_is); (case c => k_is); (case k => k_is))
    )
    (case x79 =>
      (refine' DW.DefAt.mk0 KX G ?a ?l ?c ?k; (case a => k_is); (case l => k_is); (case c => k_is); (case k => k_is))
    )
    (case x80 =>
      (refine' DW.InitAt.mk ?a ?i ?mk ?kC ?l ?c ?k ?d ?w; (case a => k_is); (case i => k_is); (case mk => k_is); (case kC => k_is); (case l => k_is); (case c => k_is); (case k => k_is)
       (case d => (refine' DW.dfl_mk ?t (by simp) ?r; (case t => k_is); (case r => exact (.cons rfl .nil))))
       (case w => (refine' (DW.KwdV.one ?e0 ?r0 (.inl rfl)); (case e0 => k_is); (case r0 => exact ⟨_, rfl⟩))))
    )
    (case x81 =>
      (refine' DW.MethAt.mk ?a ?i ?l ?c ?k ?d ?w; (case a => k_is); (case i => k_is); (case l => k_is); (case c => k_is); (case k => k_is)
       (case d => exact .inl ⟨rfl, rfl⟩)
       (case w => exact .inl rfl))
    )
    (case x82 =>
      (refine' DW.MethAt.mk ?a ?i ?l ?c ?k ?d ?w; (case a => k_is); (case i => k_is); (case l => k_is); (case c => k_is); (case k => k_is)
       (case d => exact .inl ⟨rfl, rfl⟩)
       (case w => exact .inl rfl))
    )
    (case x83 =>
      (refine' DW.MethAt.mk ?a ?i ?l ?c ?k ?d ?w; (case a => k_is); (case i => k_is); (case l => k_is); (case c => k_is); (case k => k_is)
       (case d => exact .inl ⟨rfl, rfl⟩)
       (case w => exact .inl rfl))
    )
    (case x84 =>
      (refine' DW.MethAt.mk ?a ?i ?l ?c ?k ?d ?w; (case a => k_is); (case i => k_is); (case l => k_is); (case c => k_is); (case k => k_is)
       (case d => exact .inl ⟨rfl, rfl⟩)
       (case w => exact .inl rfl))
    )
    (case x85 =>
      (refine' DW.DefAt.mk0 KX G ?a ?l ?c ?k; (case a => k_is); (case l => k_is); (case c => k_is); (case k => k_is))
    )
    (case x86 =>
      (refine' DW.DefAt.mk0 KX G ?a ?l ?c ?k; (case a => k_is); (case l => k_is); (case c => k_is); (case k => k_is))
    )
    (case x87 =>
      (refine' DW.DefAt.mk0 KX G ?a ?l ?c ?k; (case a => k_is); (case l => k_is); (case c => k_is); (case k => k_is))
    )
    (case x88 =>
      (refine' DW.DefAt.mk0 KX G ?a ?l ?c ?k; (case a => k_is); (case l => k_is); (case c => k_is); (case k => k_is))
    )
    (case x89 =>
      (refine' DW.Cls.mk' ?a ?b ?c ?d; (case a => k_is); (case b => k_is); (case c => k_is); (case d => k_is))
    )
    (case x90 =>
      (show PySem.W.findIn _ _ _ = _; k_is)
    )
    (case x91 =>
      (show PySem.W.findIn _ _ _ = _; k_is)
    )
    (case x92 =>
      (show PySem.W.findIn _ _ _ = _; k_is)
    )
    (case x93 =>
      (refine' PySem.W.mg_none_of KX G ?e; (case e => k_is))
    )
    (case x94 =>
      (refine' PySem.W.mg_none_of KX G ?e; (case e => k_is))
    )
    (case x95 =>
      (refine' PySem.W.mg_none_of KX G ?e; (case e => k_is))
    )
    (case x96 =>
      (refine' PySem.W.mg_none_of KX G ?e; (case e => k_is))
    )
    (case x97 =>
      (refine' PySem.W.mg_none_of KX G ?e; (case e => k_is))
    )
    (case x98 =>
      (refine' PySem.W.mg_none_of KX G ?e; (case e => k_is))
    )
    (case x99 =>
      (refine' PySem.W.mg_none_of KX G ?e; (case e => k_is))
    )
    (case x100 =>
      (refine' PySem.W.mg_none_of KX G ?e; (case e => k_is))
    )
    (case x101 =>
      (refine' PySem.W.mg_none_of KX G ?e; (case e => k_is))
    )
    (case x102 =>
      (refine' PySem.W.mg_none_of KX G ?e; (case e => k_is))
    )
    (case x103 =>
      (refine' PySem.W.mg_none_of KX G ?e; (case e => k_is))
    )
    (case x104 =>
      (refine' DW.IsiOk.of_list ?bo ?ob ?oo ?ty
       (case bo => (simp only [DW.allP_cons, DW.allP_nil, DW.bTys, DW.allT_cons, DW.allT_nil, and_true] <;> (repeat' refine @And.intro _ _ ?_ ?_) <;> (refine' DW.kit_bo ?_ ?_ ?_ <;> k_is)))
       (case ob => (simp only [DW.allP_cons, DW.allP_nil, DW.bTys, DW.allT_cons, DW.allT_nil, and_true] <;> (repeat' refine @And.intro _ _ ?_ ?_) <;> (refine' DW.kit_ob (by decide +kernel) ?_ <;> k_is)))
       (case oo => (simp only [DW.allP_cons, DW.allP_nil, and_true] <;> (repeat' refine @And.intro _ _ ?_ ?_) <;> first | exact DW.kit_same' | exact DW.kit_same | (refine' DW.kit_diff' (by decide) ?_ ?_ ?_ <;> k_is) | (refine' DW.kit_diff (by decide) (by decide) ?_ ?_ ?_ <;> k_is)))
       (case ty => (simp only [DW.allP_cons, DW.allP_nil, and_true] <;> (repeat' refine @And.intro _ _ ?_ ?_) <;> (refine' DW.IsiCls.mk (DW.Cls.mk' ?_ ?_ ?_ ?_) ?_ ?_ ?_ ?_ <;> k_is))))
    )
