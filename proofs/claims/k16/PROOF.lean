import PyProof.Rows.All
import Wide.All
import OpenK.AllK
import Wide.FinOn
import HandS.ForMost
import HandS.Exc
import HandS.Text
import HandS.IsInst
import HandS.WordsExc
import KE.KExcSuper
import HandS.ExcInit
import HandS.Nested
import HandS.ExcField
import HandS.ExcIs
import KE.KExcIs
import KE.KStateDown
import HandS.Defaults
import HandS.Head0
import HandS.Head1
import HandS.Head2
import HandS.HeadHook1
import HandS.HeadHook2
import HandS.ExcValue
import HandS.TupSets
import PySem.Challenge.RW_anymaker_k16_errors_made_and_bases
set_option Elab.async false
set_option linter.all false
set_option maxRecDepth 100000
set_option maxHeartbeats 4000000
/-! My own layer over HandS: defs by name, readings step by step, heaps that keep all but some. -/
namespace My
open PySem L2

/-- a def of the module stands under its name and keeps its promise -/
def FnAt (P : Program) (w : World) (K : PySem.W.Frag) (mg : Str → Option Value) (base : Heap) (CX : CXT) (k : Nat) (x : Str) (ps : List Str) (sp : Sp) : Prop :=
  ∃ (f : Addr) (fd : FuncData), mg x = some (.ref f) ∧ PySem.W.keepIn K (.ref f) = true ∧ Binds K fd ps [] ∧ FnOk P w K mg base CX k f fd ps sp ∧ ∃ oc od osl, K.lookup f = some ⟨oc, od, .func fd, osl⟩
/-- a def of the text as the top left it -/
def DefAt (K : PySem.W.Frag) (mg : Str → Option Value) (x : Str) (st : Stmt) : Prop := ∃ (f : Addr) (fd : FuncData), mg x = some (.ref f) ∧ Fun K x x st f fd
section
variable {P : Program} {w : World} {K : PySem.W.Frag} {mg : Str → Option Value} {base : Heap} {CX : CXT} {k : Nat} {x : Str} {ps : List Str} {sp : Sp} {st : Stmt}
theorem FnAt.mk (D : DefAt K mg x st) (hb : ∀ (kV doc pm : Value) (an : Option Addr) (cdv ct : Value) (us : List Value), us.length = ps.length → bindArgs (PySem.W.fnOf x x (defArgs st) (defBody st) (defScope st) .none kV doc pm an cdv ct) ⟨us, []⟩ = pure (ps.zip us))
    (h : ∀ f fd, Fun K x x st f fd → FnOk P w K mg base CX k f fd ps sp) : FnAt P w K mg base CX k x ps sp := by
  obtain ⟨f, fd, e, F⟩ := D
  refine ⟨f, fd, e, F.kp, F.binds hb, h f fd F, ?_⟩
  obtain ⟨oc, od, kV, doc, pm, an, cdv, ct, osl, rfl, lk, hcd⟩ := F.ex
  exact ⟨oc, od, osl, lk⟩
/-- keywords' values in the parameters' order -/
def kwOrd {α : Type} (idx : List Nat) (ws : List α) : List α := idx.filterMap fun i => ws[i]?
theorem vals_kwOrd {zs : List V} {ws : List Value} (r : Vals zs ws) : ∀ idx : List Nat, Vals (kwOrd idx zs) (kwOrd idx ws)
  | [] => .nil
  | i :: r' => by
    have ih := vals_kwOrd r r'
    unfold kwOrd at ih ⊢
    rw [List.filterMap_cons, List.filterMap_cons]
    cases e : zs[i]? with
    | none => rw [Vals.none_of r e]; exact ih
    | some x =>
      obtain ⟨u, e2, ru⟩ := Vals.get r e
      rw [e2]
      exact .cons ru ih
/-- how the def st binds n positional values and the keywords ks -/
def KwB (x : Str) (st : Stmt) (ps ks : List Str) (n : Nat) (idx : List Nat) : Prop :=
  ∀ (kV doc pm : Value) (an : Option Addr) (cdv ct : Value) (us ws : List Value), us.length = n → ws.length = ks.length → bindArgs (PySem.W.fnOf x x (defArgs st) (defBody st) (defScope st) .none kV doc pm an cdv ct) ⟨us, ks.zip ws⟩ = pure (ps.zip (us ++ kwOrd idx ws))
def tCallW (n m : Nat) (idx : List Nat) (sp : Sp) (E : XK) (t tk : TA) : TE := fun σ H Q => t σ H fun vs H1 => tk σ H1 fun zs H2 => vs.length = n ∧ zs.length = m ∧ sp (vs ++ kwOrd idx zs) H2 Q E
end
section
variable {X : Cx} {CX : CXT} {k : Nat} {x : Str} {ps : List Str} {sp : Sp} {p pos : Pos} {e : Expr} {es : List Expr} {t : TA}
theorem pe_f (F : FnAt X.prog X.w X.K X.mg X.base CX0 k x ps sp) (hr : Room k X.A) (hg : Gl X x) (ha : PA X (e :: es) t) (hdb : (x == ("__debug__" : Str)) = false := by decide)
    (he : starEach (e :: es) X.env = (false, eval e X.env) :: starEach es X.env := by rfl) (hpl : (backTo pos (starEach es X.env)).any (·.1) = false := by rfl) :
    PE X (.Call (.Name x p) (e :: es) [] pos) (tCall sp [] E0 t) := by
  obtain ⟨f, fd, e1, e2, e3, e4, _⟩ := F
  exact pe_call e4 hr hg e1 e2 e3 .nil pass0 ha hdb he hpl
theorem pe_f0 (F : FnAt X.prog X.w X.K X.mg X.base CX0 k x ps sp) (hr : Room k X.A) (hg : Gl X x) (hdb : (x == ("__debug__" : Str)) = false := by decide) : PE X (.Call (.Name x p) [] [] pos) (tCall sp [] E0 tNil) := by
  obtain ⟨f, fd, e1, e2, e3, e4, _⟩ := F
  exact pe_call0 e4 hr hg e1 e2 e3 .nil pass0 hdb
section
variable {st : Stmt} {ks : List Str} {n : Nat} {idx : List Nat} {E : XK} {kws : List Keyword} {tk : TA}
theorem run_fw {pins : List (Addr × Obj)} {σ : L2.St} {H : Hp} {s : Shared} {Q : VK} {us ws : List Value} {vs zs : List V} {f : Addr} {fd : FuncData} (F : FnOk X.prog X.w X.K X.mg X.base CX k f fd ps sp) (hr : Room k X.A)
    (hb : ∀ us ws : List Value, us.length = n → ws.length = ks.length → bindArgs fd ⟨us, ks.zip ws⟩ = pure (ps.zip (us ++ kwOrd idx ws))) (hx : Passes CX X E)
    (I : L2.Inv X pins σ H s) (r : Vals vs us) (rz : Vals zs ws) (l1 : vs.length = n) (l2 : zs.length = ks.length) (h : sp (vs ++ kwOrd idx zs) H Q E) : wpAny (model X.prog X.w) X.A (call (.ref f) us (ks.zip ws)) (EP X pins σ Q) X.xe s := by
  have r2 := r.append (vals_kwOrd rz idx)
  refine wpAny_call (codeAny_mono (F.run X.A X.stack s H ⟨us, ks.zip ws⟩ _ _ Q E hr I.env0 (.of_eq (hb us ws (r.length.symm.trans l1) (rz.length.symm.trans l2))) r2 h) fun r s' hq => ?_)
  cases r with
  | error e => exact hx pins σ H s e s' I hq
  | ok fl =>
    cases fl with
    | ret u => exact I.after hq
    | next => exact False.elim hq
    | brk => exact False.elim hq
    | cont => exact False.elim hq
theorem FnAt.kw (D : DefAt X.K X.mg x st) (F : FnAt X.prog X.w X.K X.mg X.base CX k x ps sp) (B : KwB x st ps ks n idx) :
    ∃ (f : Addr) (fd : FuncData), X.mg x = some (.ref f) ∧ PySem.W.keepIn X.K (.ref f) = true ∧ FnOk X.prog X.w X.K X.mg X.base CX k f fd ps sp ∧ ∀ us ws : List Value, us.length = n → ws.length = ks.length → bindArgs fd ⟨us, ks.zip ws⟩ = pure (ps.zip (us ++ kwOrd idx ws)) := by
  obtain ⟨f, fd, e1, e2, e3, e4, oc, od, osl, lk⟩ := F
  obtain ⟨f', fd', e1', F'⟩ := D
  rw [e1] at e1'
  cases e1'
  obtain ⟨oc', od', kV, doc, pm, an, cdv, ct, osl', rfl, lk', hcd⟩ := F'.ex
  rw [lk] at lk'
  cases lk'
  exact ⟨f, _, e1, e2, e4, fun us ws h1 h2 => B kV doc pm an cdv ct us ws h1 h2⟩
/-- f(e, .., k = v, ..) -/
theorem pe_fw (D : DefAt X.K X.mg x st) (F : FnAt X.prog X.w X.K X.mg X.base CX k x ps sp) (B : KwB x st ps ks n idx) (hx : Passes CX X E) (hr : Room k X.A) (hg : Gl X x) (ha : PA X (e :: es) t) (hkw : PK X kws tk)
    (hall : (backToKw pos (keywordEach kws X.env)).all (·.1.isSome) = true := by rfl) (hks : (backToKw pos (keywordEach kws X.env)).filterMap (·.1) = ks := by rfl)
    (hdb : (x == ("__debug__" : Str)) = false := by decide) (he : starEach (e :: es) X.env = (false, eval e X.env) :: starEach es X.env := by rfl)
    (hpl : ((backTo pos (starEach (e :: es) X.env)).any (·.1) || (backToKw pos (keywordEach kws X.env)).any (·.1.isNone)) = false := by rfl) :
    PE X (.Call (.Name x p) (e :: es) kws pos) (tCallW n ks.length idx sp E t tk) := by
  obtain ⟨f, fd, hm, hk, F, hb⟩ := F.kw D B
  refine ⟨fun pins s σ H Q I h => ?_⟩
  refine wpAny_Call_Name_kw (ld_glob I hg hm ?_ hdb)
  refine PySem.W.callWith_KW (h₀ := X.base) I.ok.mod.kin hk hall (thn (ha.run pos pins s σ H _ I h) fun us s1 ⟨vs, H1, I1, r, q⟩ => ?_) hpl he
  refine thn (hkw.run pos pins s1 σ H1 _ I1 q) fun ws s2 ⟨zs, H2, I2, rz, l1, l2, q2⟩ => ⟨I2.kIn, ?_⟩
  rw [hks]
  exact run_fw F hr hb hx I2 r rz l1 l2 q2
/-- f(k = v, ..) -/
theorem pe_fw0 (D : DefAt X.K X.mg x st) (F : FnAt X.prog X.w X.K X.mg X.base CX k x ps sp) (B : KwB x st ps ks 0 idx) (hx : Passes CX X E) (hr : Room k X.A) (hg : Gl X x) (hkw : PK X kws tk)
    (hall : (backToKw pos (keywordEach kws X.env)).all (·.1.isSome) = true := by rfl) (hks : (backToKw pos (keywordEach kws X.env)).filterMap (·.1) = ks := by rfl)
    (hdb : (x == ("__debug__" : Str)) = false := by decide) (hpl : ((backTo pos (starEach [] X.env)).any (·.1) || (backToKw pos (keywordEach kws X.env)).any (·.1.isNone)) = false := by rfl) :
    PE X (.Call (.Name x p) [] kws pos) (tCallW 0 ks.length idx sp E tNil tk) := by
  obtain ⟨f, fd, hm, hk, F, hb⟩ := F.kw D B
  refine ⟨fun pins s σ H Q I h => ?_⟩
  refine wpAny_Call_Name_kw (ld_glob I hg hm ?_ hdb)
  refine PySem.W.callWith_KW0 (h₀ := X.base) I.ok.mod.kin hk hall ?_ hpl
  refine thn (hkw.run pos pins s σ H _ I h) fun ws s2 ⟨zs, H2, I2, rz, l1, l2, q2⟩ => ⟨I2.kIn, ?_⟩
  rw [hks]
  exact run_fw F hr hb hx I2 .nil rz l1 l2 q2
end
end

/-! ### readings, step by step -/
section
variable {σ : St} {H : Hp} {Q : VK} {v x y : V} {i : Nat} {ta tb te : TE} {t u : TT} {tr : TA} {r : R2} {D : Ends}
theorem rd_var (h : σ[i]? = some (some v)) (q : Q v H) : tVar i σ H Q := ⟨v, h, q⟩
theorem rd_v0 {r : L2.St} (q : Q v H) : tVar 0 (some v :: r) H Q := ⟨v, rfl, q⟩
theorem rd_n0 {a : Option V} {r : L2.St} {QG : L2.St → Hp → Prop} (q : QG (some v :: r) H) : gName 0 v (a :: r) H QG := q
theorem rd_v1 {a0 : Option V} {r : L2.St} (q : Q v H) : tVar 1 (a0 :: some v :: r) H Q := ⟨v, rfl, q⟩
theorem rd_n1 {a0 : Option V} {a : Option V} {r : L2.St} {QG : L2.St → Hp → Prop} (q : QG (a0 :: some v :: r) H) : gName 1 v (a0 :: a :: r) H QG := q
theorem rd_v2 {a0 a1 : Option V} {r : L2.St} (q : Q v H) : tVar 2 (a0 :: a1 :: some v :: r) H Q := ⟨v, rfl, q⟩
theorem rd_n2 {a0 a1 : Option V} {a : Option V} {r : L2.St} {QG : L2.St → Hp → Prop} (q : QG (a0 :: a1 :: some v :: r) H) : gName 2 v (a0 :: a1 :: a :: r) H QG := q
theorem rd_v3 {a0 a1 a2 : Option V} {r : L2.St} (q : Q v H) : tVar 3 (a0 :: a1 :: a2 :: some v :: r) H Q := ⟨v, rfl, q⟩
theorem rd_n3 {a0 a1 a2 : Option V} {a : Option V} {r : L2.St} {QG : L2.St → Hp → Prop} (q : QG (a0 :: a1 :: a2 :: some v :: r) H) : gName 3 v (a0 :: a1 :: a2 :: a :: r) H QG := q
theorem rd_v4 {a0 a1 a2 a3 : Option V} {r : L2.St} (q : Q v H) : tVar 4 (a0 :: a1 :: a2 :: a3 :: some v :: r) H Q := ⟨v, rfl, q⟩
theorem rd_n4 {a0 a1 a2 a3 : Option V} {a : Option V} {r : L2.St} {QG : L2.St → Hp → Prop} (q : QG (a0 :: a1 :: a2 :: a3 :: some v :: r) H) : gName 4 v (a0 :: a1 :: a2 :: a3 :: a :: r) H QG := q
theorem rd_v5 {a0 a1 a2 a3 a4 : Option V} {r : L2.St} (q : Q v H) : tVar 5 (a0 :: a1 :: a2 :: a3 :: a4 :: some v :: r) H Q := ⟨v, rfl, q⟩
theorem rd_n5 {a0 a1 a2 a3 a4 : Option V} {a : Option V} {r : L2.St} {QG : L2.St → Hp → Prop} (q : QG (a0 :: a1 :: a2 :: a3 :: a4 :: some v :: r) H) : gName 5 v (a0 :: a1 :: a2 :: a3 :: a4 :: a :: r) H QG := q
theorem rd_v6 {a0 a1 a2 a3 a4 a5 : Option V} {r : L2.St} (q : Q v H) : tVar 6 (a0 :: a1 :: a2 :: a3 :: a4 :: a5 :: some v :: r) H Q := ⟨v, rfl, q⟩
theorem rd_n6 {a0 a1 a2 a3 a4 a5 : Option V} {a : Option V} {r : L2.St} {QG : L2.St → Hp → Prop} (q : QG (a0 :: a1 :: a2 :: a3 :: a4 :: a5 :: some v :: r) H) : gName 6 v (a0 :: a1 :: a2 :: a3 :: a4 :: a5 :: a :: r) H QG := q
theorem rd_v7 {a0 a1 a2 a3 a4 a5 a6 : Option V} {r : L2.St} (q : Q v H) : tVar 7 (a0 :: a1 :: a2 :: a3 :: a4 :: a5 :: a6 :: some v :: r) H Q := ⟨v, rfl, q⟩
theorem rd_n7 {a0 a1 a2 a3 a4 a5 a6 : Option V} {a : Option V} {r : L2.St} {QG : L2.St → Hp → Prop} (q : QG (a0 :: a1 :: a2 :: a3 :: a4 :: a5 :: a6 :: some v :: r) H) : gName 7 v (a0 :: a1 :: a2 :: a3 :: a4 :: a5 :: a6 :: a :: r) H QG := q
theorem rd_v8 {a0 a1 a2 a3 a4 a5 a6 a7 : Option V} {r : L2.St} (q : Q v H) : tVar 8 (a0 :: a1 :: a2 :: a3 :: a4 :: a5 :: a6 :: a7 :: some v :: r) H Q := ⟨v, rfl, q⟩
theorem rd_n8 {a0 a1 a2 a3 a4 a5 a6 a7 : Option V} {a : Option V} {r : L2.St} {QG : L2.St → Hp → Prop} (q : QG (a0 :: a1 :: a2 :: a3 :: a4 :: a5 :: a6 :: a7 :: some v :: r) H) : gName 8 v (a0 :: a1 :: a2 :: a3 :: a4 :: a5 :: a6 :: a7 :: a :: r) H QG := q
theorem rd_v9 {a0 a1 a2 a3 a4 a5 a6 a7 a8 : Option V} {r : L2.St} (q : Q v H) : tVar 9 (a0 :: a1 :: a2 :: a3 :: a4 :: a5 :: a6 :: a7 :: a8 :: some v :: r) H Q := ⟨v, rfl, q⟩
theorem rd_n9 {a0 a1 a2 a3 a4 a5 a6 a7 a8 : Option V} {a : Option V} {r : L2.St} {QG : L2.St → Hp → Prop} (q : QG (a0 :: a1 :: a2 :: a3 :: a4 :: a5 :: a6 :: a7 :: a8 :: some v :: r) H) : gName 9 v (a0 :: a1 :: a2 :: a3 :: a4 :: a5 :: a6 :: a7 :: a8 :: a :: r) H QG := q
theorem rd_v10 {a0 a1 a2 a3 a4 a5 a6 a7 a8 a9 : Option V} {r : L2.St} (q : Q v H) : tVar 10 (a0 :: a1 :: a2 :: a3 :: a4 :: a5 :: a6 :: a7 :: a8 :: a9 :: some v :: r) H Q := ⟨v, rfl, q⟩
theorem rd_n10 {a0 a1 a2 a3 a4 a5 a6 a7 a8 a9 : Option V} {a : Option V} {r : L2.St} {QG : L2.St → Hp → Prop} (q : QG (a0 :: a1 :: a2 :: a3 :: a4 :: a5 :: a6 :: a7 :: a8 :: a9 :: some v :: r) H) : gName 10 v (a0 :: a1 :: a2 :: a3 :: a4 :: a5 :: a6 :: a7 :: a8 :: a9 :: a :: r) H QG := q
theorem rd_v11 {a0 a1 a2 a3 a4 a5 a6 a7 a8 a9 a10 : Option V} {r : L2.St} (q : Q v H) : tVar 11 (a0 :: a1 :: a2 :: a3 :: a4 :: a5 :: a6 :: a7 :: a8 :: a9 :: a10 :: some v :: r) H Q := ⟨v, rfl, q⟩
theorem rd_n11 {a0 a1 a2 a3 a4 a5 a6 a7 a8 a9 a10 : Option V} {a : Option V} {r : L2.St} {QG : L2.St → Hp → Prop} (q : QG (a0 :: a1 :: a2 :: a3 :: a4 :: a5 :: a6 :: a7 :: a8 :: a9 :: a10 :: some v :: r) H) : gName 11 v (a0 :: a1 :: a2 :: a3 :: a4 :: a5 :: a6 :: a7 :: a8 :: a9 :: a10 :: a :: r) H QG := q
theorem rd_v12 {a0 a1 a2 a3 a4 a5 a6 a7 a8 a9 a10 a11 : Option V} {r : L2.St} (q : Q v H) : tVar 12 (a0 :: a1 :: a2 :: a3 :: a4 :: a5 :: a6 :: a7 :: a8 :: a9 :: a10 :: a11 :: some v :: r) H Q := ⟨v, rfl, q⟩
theorem rd_n12 {a0 a1 a2 a3 a4 a5 a6 a7 a8 a9 a10 a11 : Option V} {a : Option V} {r : L2.St} {QG : L2.St → Hp → Prop} (q : QG (a0 :: a1 :: a2 :: a3 :: a4 :: a5 :: a6 :: a7 :: a8 :: a9 :: a10 :: a11 :: some v :: r) H) : gName 12 v (a0 :: a1 :: a2 :: a3 :: a4 :: a5 :: a6 :: a7 :: a8 :: a9 :: a10 :: a11 :: a :: r) H QG := q
theorem rd_v13 {a0 a1 a2 a3 a4 a5 a6 a7 a8 a9 a10 a11 a12 : Option V} {r : L2.St} (q : Q v H) : tVar 13 (a0 :: a1 :: a2 :: a3 :: a4 :: a5 :: a6 :: a7 :: a8 :: a9 :: a10 :: a11 :: a12 :: some v :: r) H Q := ⟨v, rfl, q⟩
theorem rd_n13 {a0 a1 a2 a3 a4 a5 a6 a7 a8 a9 a10 a11 a12 : Option V} {a : Option V} {r : L2.St} {QG : L2.St → Hp → Prop} (q : QG (a0 :: a1 :: a2 :: a3 :: a4 :: a5 :: a6 :: a7 :: a8 :: a9 :: a10 :: a11 :: a12 :: some v :: r) H) : gName 13 v (a0 :: a1 :: a2 :: a3 :: a4 :: a5 :: a6 :: a7 :: a8 :: a9 :: a10 :: a11 :: a12 :: a :: r) H QG := q
theorem rd_v14 {a0 a1 a2 a3 a4 a5 a6 a7 a8 a9 a10 a11 a12 a13 : Option V} {r : L2.St} (q : Q v H) : tVar 14 (a0 :: a1 :: a2 :: a3 :: a4 :: a5 :: a6 :: a7 :: a8 :: a9 :: a10 :: a11 :: a12 :: a13 :: some v :: r) H Q := ⟨v, rfl, q⟩
theorem rd_n14 {a0 a1 a2 a3 a4 a5 a6 a7 a8 a9 a10 a11 a12 a13 : Option V} {a : Option V} {r : L2.St} {QG : L2.St → Hp → Prop} (q : QG (a0 :: a1 :: a2 :: a3 :: a4 :: a5 :: a6 :: a7 :: a8 :: a9 :: a10 :: a11 :: a12 :: a13 :: some v :: r) H) : gName 14 v (a0 :: a1 :: a2 :: a3 :: a4 :: a5 :: a6 :: a7 :: a8 :: a9 :: a10 :: a11 :: a12 :: a13 :: a :: r) H QG := q
theorem rd_v15 {a0 a1 a2 a3 a4 a5 a6 a7 a8 a9 a10 a11 a12 a13 a14 : Option V} {r : L2.St} (q : Q v H) : tVar 15 (a0 :: a1 :: a2 :: a3 :: a4 :: a5 :: a6 :: a7 :: a8 :: a9 :: a10 :: a11 :: a12 :: a13 :: a14 :: some v :: r) H Q := ⟨v, rfl, q⟩
theorem rd_n15 {a0 a1 a2 a3 a4 a5 a6 a7 a8 a9 a10 a11 a12 a13 a14 : Option V} {a : Option V} {r : L2.St} {QG : L2.St → Hp → Prop} (q : QG (a0 :: a1 :: a2 :: a3 :: a4 :: a5 :: a6 :: a7 :: a8 :: a9 :: a10 :: a11 :: a12 :: a13 :: a14 :: some v :: r) H) : gName 15 v (a0 :: a1 :: a2 :: a3 :: a4 :: a5 :: a6 :: a7 :: a8 :: a9 :: a10 :: a11 :: a12 :: a13 :: a14 :: a :: r) H QG := q
theorem rd_v16 {a0 a1 a2 a3 a4 a5 a6 a7 a8 a9 a10 a11 a12 a13 a14 a15 : Option V} {r : L2.St} (q : Q v H) : tVar 16 (a0 :: a1 :: a2 :: a3 :: a4 :: a5 :: a6 :: a7 :: a8 :: a9 :: a10 :: a11 :: a12 :: a13 :: a14 :: a15 :: some v :: r) H Q := ⟨v, rfl, q⟩
theorem rd_n16 {a0 a1 a2 a3 a4 a5 a6 a7 a8 a9 a10 a11 a12 a13 a14 a15 : Option V} {a : Option V} {r : L2.St} {QG : L2.St → Hp → Prop} (q : QG (a0 :: a1 :: a2 :: a3 :: a4 :: a5 :: a6 :: a7 :: a8 :: a9 :: a10 :: a11 :: a12 :: a13 :: a14 :: a15 :: some v :: r) H) : gName 16 v (a0 :: a1 :: a2 :: a3 :: a4 :: a5 :: a6 :: a7 :: a8 :: a9 :: a10 :: a11 :: a12 :: a13 :: a14 :: a15 :: a :: r) H QG := q
theorem rd_v17 {a0 a1 a2 a3 a4 a5 a6 a7 a8 a9 a10 a11 a12 a13 a14 a15 a16 : Option V} {r : L2.St} (q : Q v H) : tVar 17 (a0 :: a1 :: a2 :: a3 :: a4 :: a5 :: a6 :: a7 :: a8 :: a9 :: a10 :: a11 :: a12 :: a13 :: a14 :: a15 :: a16 :: some v :: r) H Q := ⟨v, rfl, q⟩
theorem rd_n17 {a0 a1 a2 a3 a4 a5 a6 a7 a8 a9 a10 a11 a12 a13 a14 a15 a16 : Option V} {a : Option V} {r : L2.St} {QG : L2.St → Hp → Prop} (q : QG (a0 :: a1 :: a2 :: a3 :: a4 :: a5 :: a6 :: a7 :: a8 :: a9 :: a10 :: a11 :: a12 :: a13 :: a14 :: a15 :: a16 :: some v :: r) H) : gName 17 v (a0 :: a1 :: a2 :: a3 :: a4 :: a5 :: a6 :: a7 :: a8 :: a9 :: a10 :: a11 :: a12 :: a13 :: a14 :: a15 :: a16 :: a :: r) H QG := q
theorem rd_v18 {a0 a1 a2 a3 a4 a5 a6 a7 a8 a9 a10 a11 a12 a13 a14 a15 a16 a17 : Option V} {r : L2.St} (q : Q v H) : tVar 18 (a0 :: a1 :: a2 :: a3 :: a4 :: a5 :: a6 :: a7 :: a8 :: a9 :: a10 :: a11 :: a12 :: a13 :: a14 :: a15 :: a16 :: a17 :: some v :: r) H Q := ⟨v, rfl, q⟩
theorem rd_n18 {a0 a1 a2 a3 a4 a5 a6 a7 a8 a9 a10 a11 a12 a13 a14 a15 a16 a17 : Option V} {a : Option V} {r : L2.St} {QG : L2.St → Hp → Prop} (q : QG (a0 :: a1 :: a2 :: a3 :: a4 :: a5 :: a6 :: a7 :: a8 :: a9 :: a10 :: a11 :: a12 :: a13 :: a14 :: a15 :: a16 :: a17 :: some v :: r) H) : gName 18 v (a0 :: a1 :: a2 :: a3 :: a4 :: a5 :: a6 :: a7 :: a8 :: a9 :: a10 :: a11 :: a12 :: a13 :: a14 :: a15 :: a16 :: a17 :: a :: r) H QG := q
theorem rd_v19 {a0 a1 a2 a3 a4 a5 a6 a7 a8 a9 a10 a11 a12 a13 a14 a15 a16 a17 a18 : Option V} {r : L2.St} (q : Q v H) : tVar 19 (a0 :: a1 :: a2 :: a3 :: a4 :: a5 :: a6 :: a7 :: a8 :: a9 :: a10 :: a11 :: a12 :: a13 :: a14 :: a15 :: a16 :: a17 :: a18 :: some v :: r) H Q := ⟨v, rfl, q⟩
theorem rd_n19 {a0 a1 a2 a3 a4 a5 a6 a7 a8 a9 a10 a11 a12 a13 a14 a15 a16 a17 a18 : Option V} {a : Option V} {r : L2.St} {QG : L2.St → Hp → Prop} (q : QG (a0 :: a1 :: a2 :: a3 :: a4 :: a5 :: a6 :: a7 :: a8 :: a9 :: a10 :: a11 :: a12 :: a13 :: a14 :: a15 :: a16 :: a17 :: a18 :: some v :: r) H) : gName 19 v (a0 :: a1 :: a2 :: a3 :: a4 :: a5 :: a6 :: a7 :: a8 :: a9 :: a10 :: a11 :: a12 :: a13 :: a14 :: a15 :: a16 :: a17 :: a18 :: a :: r) H QG := q
theorem rd_c (q : Q v H) : tC v σ H Q := q
theorem rd_op (q : ta σ H fun x H1 => tb σ H1 fun y H2 => r x y H2 Q) : tOp r ta tb σ H Q := q
theorem rd_un {r : V → Hp → VK → Prop} (q : ta σ H fun x H1 => r x H1 Q) : tUn r ta σ H Q := q
theorem rd_I0 {g : Int → Int → V} {a b : Int} (q : Q (g a b) H) : rI0 g (.int a) (.int b) H Q := ⟨a, b, rfl, rfl, q⟩
theorem rd_I {C : Int → Int → Prop} {g : Int → Int → V} {a b : Int} (c : C a b) (q : Q (g a b) H) : rI C g (.int a) (.int b) H Q := ⟨a, b, rfl, rfl, c, q⟩
theorem rd_U {g : Int → V} {a : Int} (q : Q (g a) H) : rU g (.int a) H Q := ⟨a, rfl, q⟩
theorem rd_nil {QA : List V → Hp → Prop} (q : QA [] H) : tNil σ H QA := q
theorem rd_cons {QA : List V → Hp → Prop} (q : te σ H fun x H1 => tr σ H1 fun xs H2 => QA (x :: xs) H2) : tCons te tr σ H QA := q
theorem rd_call {sp : Sp} {dvs : List V} {E : XK} (q : tr σ H fun vs H1 => sp (vs ++ dvs) H1 Q E) : tCall sp dvs E tr σ H Q := q
theorem rd_callW {sp : Sp} {n m : Nat} {idx : List Nat} {E : XK} {tk : TA} (q : tr σ H fun vs H1 => tk σ H1 fun zs H2 => vs.length = n ∧ zs.length = m ∧ sp (vs ++ kwOrd idx zs) H2 Q E) : tCallW n m idx sp E tr tk σ H Q := q
theorem rd_cb {r : List V → Hp → VK → Prop} (q : tr σ H fun vs H1 => r vs H1 Q) : tCB r tr σ H Q := q
theorem rd_asg {g : TG} (q : te σ H fun x H1 => g x σ H1 D.nx) : tAsg te g D σ H := q
theorem rd_seq {a b : TS} (q : a { D with nx := b D } σ H) : tSeq a b D σ H := q
theorem rd_name {n : Nat} {QG : St → Hp → Prop} (q : QG (σ.set n (some v)) H) : gName n v σ H QG := q
theorem rd_ret (q : te σ H D.rt) : tRet te D σ H := q
theorem rd_drop (q : te σ H fun _ H1 => D.nx σ H1) : tDrop te D σ H := q
theorem rd_next (q : D.nx σ H) : tNext D σ H := q
theorem rd_ifs {c : TT} {a b : TS} (q : c σ H fun k H1 => if k = true then a D σ H1 else b D σ H1) : tIfS c a b D σ H := q
theorem rd_if {c : TT} (q : c σ H fun k H1 => if k = true then ta σ H1 Q else tb σ H1 Q) : tIf c ta tb σ H Q := q
theorem rd_tB {QT : Bool → Hp → Prop} (q : te σ H fun x H1 => ∃ c, x = .bl c ∧ QT c H1) : tB te σ H QT := q
theorem rd_test {QT : Bool → Hp → Prop} (q : te σ H fun x H1 => ∃ c, x = .bl c ∧ QT c H1) : tTest te σ H QT := q
theorem rd_yes {QT : Bool → Hp → Prop} (q : QT true H) : tYes σ H QT := q
theorem rd_not {QT : Bool → Hp → Prop} (q : t σ H fun c H1 => QT (!c) H1) : tNot t σ H QT := q
theorem rd_bl {b : Bool} {Φ : Bool → Prop} (q : Φ b) : ∃ c, V.bl b = .bl c ∧ Φ c := ⟨b, rfl, q⟩
theorem rd_and {QT : Bool → Hp → Prop} (q : t σ H fun c H1 => if c = true then u σ H1 QT else QT false H1) : tAnd t u σ H QT := q
theorem rd_or {QT : Bool → Hp → Prop} (q : t σ H fun c H1 => if c = true then QT true H1 else u σ H1 QT) : tOr t u σ H QT := q
theorem rd_andV (q : ta σ H fun x H1 => ∃ c, x = .bl c ∧ if c = true then tb σ H1 Q else Q (.bl false) H1) : tAndV ta tb σ H Q := q
theorem rd_orV (q : ta σ H fun x H1 => ∃ c, x = .bl c ∧ if c = true then Q (.bl true) H1 else tb σ H1 Q) : tOrV ta tb σ H Q := q
theorem rd_eq (h : scal x y = true) (q : Q (.bl (decide (x = y))) H) : rEq x y H Q := ⟨h, q⟩
theorem rd_ne (h : scal x y = true) (q : Q (.bl (!decide (x = y))) H) : rNe x y H Q := ⟨h, q⟩
theorem rd_par {a b : Nat} (q : tr σ H fun vs H1 => ∃ v w, vs = [v, w] ∧ D.nx ((σ.set a (some v)).set b (some w)) H1) : tPar a b tr D σ H := q
theorem rd_par2 {v w : V} {Φ : V → V → Prop} (q : Φ v w) : ∃ v' w', [v, w] = [v', w'] ∧ Φ v' w' := ⟨v, w, rfl, q⟩
theorem rd_tup (q : tr σ H fun xs H1 => xs.length ≤ sizeLine ∧ ∀ p, H1 p = none → Q (.ref p) (upd H1 p (.tup xs))) : tTup tr σ H Q := q
theorem rd_lst (q : tr σ H fun xs H1 => xs.length ≤ sizeLine ∧ ∀ p, H1 p = none → Q (.ref p) (upd H1 p (.lst xs))) : tLst tr σ H Q := q
theorem rd_new {o : HO} {n : Nat} (hn : n ≤ sizeLine) (q : ∀ p, H p = none → Q (.ref p) (upd H p o)) : n ≤ sizeLine ∧ ∀ p, H p = none → Q (.ref p) (upd H p o) := ⟨hn, q⟩
theorem rd_part {QO : Option Int → Hp → Prop} (q : te σ H fun x H1 => ∃ i, x = .int i ∧ QO (some i) H1) : tPart te σ H QO := q
theorem rd_int {a : Int} {Φ : Int → Prop} (q : Φ a) : ∃ i, V.int a = .int i ∧ Φ i := ⟨a, rfl, q⟩
theorem rd_nopart {QO : Option Int → Hp → Prop} (q : QO none H) : tNoPart σ H QO := q
theorem rd_sl {r : V → Option Int → Option Int → Hp → VK → Prop} {tl th : TO} (q : te σ H fun x H1 => tl σ H1 fun l H2 => th σ H2 fun u H3 => r x l u H3 Q) : tSl r te tl th σ H Q := q
theorem rd_ex1 {a : Int} {Φ : Int → Prop} (q : Φ a) : ∃ i, [V.int a] = [.int i] ∧ Φ i := ⟨a, rfl, q⟩
theorem rd_exs {a : Str} {Φ : Str → Prop} (q : Φ a) : ∃ i, [V.str a] = [.str i] ∧ Φ i := ⟨a, rfl, q⟩
theorem rd_or1 {a : Int} {Φ : Int → Prop} {Ψ : Prop} (q : Φ a) : (∃ i, [V.int a] = [.int i] ∧ Φ i) ∨ Ψ := .inl ⟨a, rfl, q⟩
end
end My
namespace My
open PySem L2
/-! ### heaps that keep all but some -/
def Kx (S : List Addr) (H H' : Hp) : Prop := ∀ a o, H a = some o → a ∉ S → H' a = some o
theorem Kx.refl {S : List Addr} {H : Hp} : Kx S H H := fun _ _ e _ => e
theorem Kx.trans {S : List Addr} {H H1 H2 : Hp} (a : Kx S H H1) (b : Kx S H1 H2) : Kx S H H2 := fun x o e n => b x o (a x o e n) n
theorem Kx.mono {S S' : List Addr} {H H' : Hp} (a : Kx S H H') (s : ∀ x ∈ S, x ∈ S') : Kx S' H H' := fun x o e n => a x o e fun z => n (s x z)
theorem Kx.nw {S : List Addr} {H H' : Hp} {p : Addr} {o : HO} (a : Kx S H H') (n : H' p = none) : Kx S H (upd H' p o) := fun x u e h => by
  have q := a x u e h
  rw [upd_ne (ne_of_none q n)]
  exact q
theorem Kx.in {S : List Addr} {H H' : Hp} {p : Addr} {o : HO} (a : Kx S H H') (n : p ∈ S) : Kx S H (upd H' p o) := fun x u e h => by
  have z : x ≠ p := fun z => h (z ▸ n)
  rw [upd_ne z]
  exact a x u e h
/-- an object that was new ahead may change -/
theorem Kx.mu {S : List Addr} {H H' : Hp} {p : Addr} {o : HO} (a : Kx S H H') (n : H p = none) : Kx S H (upd H' p o) := fun x u e h => by
  rw [upd_ne (ne_of_none e n)]
  exact a x u e h
theorem Kx.sql {S : List Addr} {H H' : Hp} {K : PySem.W.Frag} {a : Addr} {xs : List V} (k : Kx S H H') (h : SqL K H a xs) (n : a ∉ S) : SqL K H' a xs := by
  rcases h with (h | ⟨o, h⟩) | h
  · exact .inl (.inl (k a _ h n))
  · exact .inl (.inr ⟨o, k a _ h n⟩)
  · exact .inr h
theorem Kx.sqt {S : List Addr} {H H' : Hp} {K : PySem.W.Frag} {a : Addr} {xs : List V} (k : Kx S H H') (h : SqT K H a xs) (n : a ∉ S) : SqT K H' a xs := by
  rcases h with (h | ⟨o, h⟩) | h
  · exact .inl (.inl (k a _ h n))
  · exact .inl (.inr ⟨o, k a _ h n⟩)
  · exact .inr h
/-- what was not there is not there ahead -/
theorem Kx.back {S : List Addr} {H H' : Hp} {p : Addr} (k : Kx S H H') (n : H' p = none) (hp : p ∉ S) : H p = none := by
  cases e : H p with
  | none => rfl
  | some o =>
    rw [k p o e hp] at n
    cases n

/-! ### what is walked: n items, while S holds; Y: what a turn yields -/
structure Src (J : It) (n : Nat) (S : Hp → Prop) (Y : Nat → Hp → V → Hp → Prop) : Prop where
  go : ∀ i H, S H → i < n → J.go i H
  yld : ∀ i H x H', S H → i < n → J.yld i H x H' → Y i H x H'
  stop : ∀ i H, S H → n ≤ i → J.stop i H
def Yx (xs : List V) : Nat → Hp → V → Hp → Prop := fun i H x H' => H' = H ∧ xs[i]? = some x
/-- enumerate: a new pair each turn -/
def Ye (xs : List V) : Nat → Hp → V → Hp → Prop := fun i H x H' => ∃ T y, x = .ref T ∧ H T = none ∧ H' = upd H T (.tup [.int (i : Nat), y]) ∧ xs[i]? = some y
theorem src_list {K : PySem.W.Frag} {a : Addr} {xs : List V} : Src (Itl K a) xs.length (fun H => SqL K H a xs) (Yx xs) where
  go := fun i H s h => ⟨xs, xs[i], s, by simp [h]⟩
  yld := fun i H x H' s _ ⟨e, y⟩ => ⟨e, y xs s⟩
  stop := fun i H s h => ⟨xs, s, h⟩
theorem src_tup {K : PySem.W.Frag} {a : Addr} {xs : List V} : Src (Itt K a) xs.length (fun H => SqT K H a xs) (Yx xs) where
  go := fun i H s h => ⟨xs, xs[i], s, by simp [h]⟩
  yld := fun i H x H' s _ ⟨e, y⟩ => ⟨e, y xs s⟩
  stop := fun i H s h => ⟨xs, s, h⟩
theorem src_range {lo : Int} {n : Nat} : Src (Itr lo n) n (fun _ => True) (fun i H x H' => H' = H ∧ x = .int (lo + (i : Nat))) where
  go := fun i H _ h => h
  yld := fun i H x H' _ _ y => y
  stop := fun i H _ h => h
def sgn (c : Nat) : Str := ⟨#[c]⟩
theorem src_str {z : Str} : Src (Its z) z.cps.size (fun _ => True) (fun i H x H' => H' = H ∧ ∃ c, z.cps[i]? = some c ∧ x = .str (sgn c)) where
  go := fun i H _ h => h
  yld := fun i H x H' _ _ y => y
  stop := fun i H _ h => h
theorem src_enum {K : PySem.W.Frag} {a : Addr} {xs : List V} : Src (Ite K a) xs.length (fun H => SqL K H a xs) (Ye xs) where
  go := fun i H s h => ⟨xs, xs[i], s, by simp [h]⟩
  yld := fun i H x H' s _ ⟨T, y, e, n, u, q⟩ => ⟨T, y, e, n, u, q xs s⟩
  stop := fun i H s h => ⟨xs, s, h⟩
section
variable {J : It} {n : Nat} {S : Hp → Prop} {Y : Nat → Hp → V → Hp → Prop} {g : TG} {σ : L2.St} {H : Hp}
/-- a for, by an invariant Pv of the turn's number -/
theorem for_src {tb : TS} {D : Ends} (s : Src J n S Y) (Pv : Nat → L2.St → Hp → Prop) (h0 : Pv 0 σ H) (hl : ∀ i σ H, i ≤ n → Pv i σ H → S H)
    (hs : ∀ i x σ H H', i < n → Y i H x H' → Pv i σ H → g x σ H' fun σ2 H2 => tb { D with nx := Pv (i + 1), ct := Pv (i + 1), bk := D.nx } σ2 H2) (hd : ∀ σ H, Pv n σ H → D.nx σ H) :
    ∃ W : Nat → Nat → L2.St → Hp → Prop, (∃ m, W 0 m σ H) ∧ ∀ i m σ H, W i m σ H →
      (J.stop i H ∧ D.nx σ H) ∨ (J.go i H ∧ ∃ N : L2.St → Hp → Prop, (∀ σ' H', N σ' H' → ∃ m', m' < m ∧ W (i + 1) m' σ' H') ∧ ∀ x H', J.yld i H x H' → g x σ H' fun σ2 H2 => tb { D with nx := N, ct := N, bk := D.nx } σ2 H2) := by
  refine ⟨fun i m σ H => m = n - i ∧ i ≤ n ∧ Pv i σ H, ⟨n, by simp, Nat.zero_le _, h0⟩, ?_⟩
  rintro i m σ H ⟨rfl, hi, p⟩
  have q := hl i σ H hi p
  by_cases hlt : i < n
  · exact .inr ⟨s.go i H q hlt, Pv (i + 1), fun σ' H' p' => ⟨n - (i + 1), by omega, rfl, hlt, p'⟩, fun x H' y => hs i x σ H H' hlt (s.yld i H x H' q hlt y) p⟩
  · have e : i = n := by omega
    subst e
    exact .inl ⟨s.stop i H q (Nat.le_refl _), hd σ H p⟩
/-- a comprehension, its new list at D -/
theorem lc_src {tt : TT} {te : TE} {vs : List Nat} {D : Addr} {Q : Hp → Prop} (s : Src J n S Y) (Pv : Nat → Hp → Prop) (h0 : Pv 0 (upd H D (.lst []))) (hl : ∀ i H, i ≤ n → Pv i H → S H)
    (hs : ∀ i x H H', i < n → Y i H x H' → Pv i H → g x (wipe σ vs) H' fun σ2 H2 => wipe σ2 vs = wipe σ vs ∧ tt σ2 H2 fun b H3 =>
      if b = true then te σ2 H3 fun y H4 => ∃ acc, H4 D = some (.lst acc) ∧ acc.length < sizeLine ∧ Pv (i + 1) (upd H4 D (.lst (acc ++ [y]))) else Pv (i + 1) H3) (hd : ∀ H, Pv n H → Q H) :
    ∃ W : Nat → Nat → Hp → Prop, (∃ m, W 0 m (upd H D (.lst []))) ∧ ∀ i m H, W i m H →
      (J.stop i H ∧ Q H) ∨ (J.go i H ∧ ∃ Nx : Hp → Prop, (∀ H', Nx H' → ∃ m', m' < m ∧ W (i + 1) m' H') ∧ ∀ x H', J.yld i H x H' → g x (wipe σ vs) H' fun σ2 H2 => wipe σ2 vs = wipe σ vs ∧ tt σ2 H2 fun b H3 =>
        if b = true then te σ2 H3 fun y H4 => ∃ acc, H4 D = some (.lst acc) ∧ acc.length < sizeLine ∧ Nx (upd H4 D (.lst (acc ++ [y]))) else Nx H3) := by
  refine ⟨fun i m H => m = n - i ∧ i ≤ n ∧ Pv i H, ⟨n, by simp, Nat.zero_le _, h0⟩, ?_⟩
  rintro i m H ⟨rfl, hi, p⟩
  have q := hl i H hi p
  by_cases hlt : i < n
  · exact .inr ⟨s.go i H q hlt, Pv (i + 1), fun H' p' => ⟨n - (i + 1), by omega, rfl, hlt, p'⟩, fun x H' y => hs i x H H' hlt (s.yld i H x H' q hlt y) p⟩
  · have e : i = n := by omega
    subst e
    exact .inl ⟨s.stop i H q (Nat.le_refl _), hd H p⟩
/-- the state of a comprehension that is a filterMap of its items and keeps all but at Z -/
structure PvF (H : Hp) (D : Addr) (Z : List Addr) (L : List V) (H' : Hp) : Prop where
  at_ : H' D = some (.lst L)
  kx : Kx Z H H'
  nz : D ∉ Z
theorem PvF.yes {H H1 H2 : Hp} {D : Addr} {Z : List Addr} {L L' : List V} {y : V} (p : PvF H D Z L H1) (n : H D = none) (k : Kx Z H1 H2) (hl : L.length < sizeLine) (e : L ++ [y] = L') :
    ∃ acc, H2 D = some (.lst acc) ∧ acc.length < sizeLine ∧ PvF H D Z L' (upd H2 D (.lst (acc ++ [y]))) :=
  ⟨L, k _ _ p.at_ p.nz, hl, e ▸ upd_same, (p.kx.trans k).mu n, p.nz⟩
theorem PvF.no {H H1 H2 : Hp} {D : Addr} {Z : List Addr} {L L' : List V} (p : PvF H D Z L H1) (k : Kx Z H1 H2) (e : L = L') : PvF H D Z L' H2 := ⟨e ▸ k _ _ p.at_ p.nz, p.kx.trans k, p.nz⟩
theorem PvF.zero {H : Hp} {D : Addr} {Z : List Addr} (n : H D = none) (hz : ∀ z ∈ Z, H z ≠ none) : PvF H D Z [] (upd H D (.lst [])) := ⟨upd_same, Kx.refl.mu n, fun h => hz _ h n⟩
theorem take_fm {f : V → Option V} {xs : List V} {i : Nat} {x : V} (h : xs[i]? = some x) : (xs.take (i + 1)).filterMap f = (xs.take i).filterMap f ++ (match f x with | some y => [y] | none => []) := by
  obtain ⟨hl, e⟩ := List.getElem?_eq_some_iff.mp h
  rw [List.take_succ_eq_append_getElem hl, List.filterMap_append, e]
  cases hf : f x <;> simp [hf]
theorem take_fm_yes {f : V → Option V} {xs : List V} {i : Nat} {x y : V} (h : xs[i]? = some x) (hf : f x = some y) : (xs.take i).filterMap f ++ [y] = (xs.take (i + 1)).filterMap f := by rw [take_fm h, hf]
theorem take_fm_no {f : V → Option V} {xs : List V} {i : Nat} {x : V} (h : xs[i]? = some x) (hf : f x = none) : (xs.take i).filterMap f = (xs.take (i + 1)).filterMap f := by rw [take_fm h, hf, List.append_nil]
theorem fm_len {f : V → Option V} (xs : List V) (i : Nat) : ((xs.take i).filterMap f).length ≤ xs.length := by
  have h1 := List.length_filterMap_le f (xs.take i)
  have h2 : (xs.take i).length ≤ xs.length := by rw [List.length_take]; omega
  omega
end
/-! steps at what is walked -/
section
variable {σ : L2.St} {H : Hp} {R : It → Hp → Prop} {tl : TE} {ta : TA}
theorem rd_il {K : PySem.W.Frag} (q : tl σ H fun x H1 => ∃ a, x = .ref a ∧ (∃ xs, SqL K H1 a xs) ∧ R (Itl K a) H1) : iList K tl σ H R := q
theorem rd_it {K : PySem.W.Frag} (q : tl σ H fun x H1 => ∃ a, x = .ref a ∧ (∃ xs, SqT K H1 a xs) ∧ R (Itt K a) H1) : iTup K tl σ H R := q
theorem rd_is (q : tl σ H fun v H1 => ∃ x, v = .str x ∧ R (Its x) H1) : iStr tl σ H R := q
theorem rd_ir (q : ta σ H fun vs H1 => ∃ j : Int, vs = [.int j] ∧ -(2 ^ 62) ≤ j ∧ j < 2 ^ 62 ∧ R (Itr 0 j.toNat) H1) : iRng1 ta σ H R := q
theorem rd_ie {K : PySem.W.Frag} (q : ta σ H fun vs H1 => ∃ a xs, vs = [.ref a] ∧ SqL K H1 a xs ∧ R (Ite K a) H1) : iEnum K ta σ H R := q
theorem rd_for {wi : TI} {g : TG} {tb : TS} {D : Ends} (q : wi σ H fun J H1 => ∃ W : Nat → Nat → L2.St → Hp → Prop, (∃ m, W 0 m σ H1) ∧ ∀ i m σ H, W i m σ H →
  (J.stop i H ∧ D.nx σ H) ∨ (J.go i H ∧ ∃ N : L2.St → Hp → Prop, (∀ σ' H', N σ' H' → ∃ m', m' < m ∧ W (i + 1) m' σ' H') ∧ ∀ x H', J.yld i H x H' → g x σ H' fun σ2 H2 => tb { D with nx := N, ct := N, bk := D.nx } σ2 H2)) : tFor wi g tb D σ H := q
theorem rd_lc {wi : TI} {g : TG} {tt : TT} {te : TE} {vs : List Nat} {Q : VK} (q : wi σ H fun J H1 => ∀ D, H1 D = none → ∃ W : Nat → Nat → Hp → Prop, (∃ m, W 0 m (upd H1 D (.lst []))) ∧ ∀ i m H, W i m H →
  (J.stop i H ∧ Q (.ref D) H) ∨ (J.go i H ∧ ∃ Nx : Hp → Prop, (∀ H', Nx H' → ∃ m', m' < m ∧ W (i + 1) m' H') ∧ ∀ x H', J.yld i H x H' → g x (wipe σ vs) H' fun σ2 H2 => wipe σ2 vs = wipe σ vs ∧ tt σ2 H2 fun b H3 =>
    if b = true then te σ2 H3 fun y H4 => ∃ acc, H4 D = some (.lst acc) ∧ acc.length < sizeLine ∧ Nx (upd H4 D (.lst (acc ++ [y]))) else Nx H3)) : tLc wi g tt te vs σ H Q := q
theorem rd_il1 {K : PySem.W.Frag} {a : Addr} {xs : List V} (h : SqL K H a xs) (q : R (Itl K a) H) : ∃ a', V.ref a = .ref a' ∧ (∃ xs, SqL K H a' xs) ∧ R (Itl K a') H := ⟨a, rfl, ⟨xs, h⟩, q⟩
theorem rd_it1 {K : PySem.W.Frag} {a : Addr} {xs : List V} (h : SqT K H a xs) (q : R (Itt K a) H) : ∃ a', V.ref a = .ref a' ∧ (∃ xs, SqT K H a' xs) ∧ R (Itt K a') H := ⟨a, rfl, ⟨xs, h⟩, q⟩
theorem rd_is1 {z : Str} (q : R (Its z) H) : ∃ x, V.str z = .str x ∧ R (Its x) H := ⟨z, rfl, q⟩
theorem rd_ir1 {j : Int} (h1 : -(2 ^ 62) ≤ j) (h2 : j < 2 ^ 62) (q : R (Itr 0 j.toNat) H) : ∃ j' : Int, [V.int j] = [.int j'] ∧ -(2 ^ 62) ≤ j' ∧ j' < 2 ^ 62 ∧ R (Itr 0 j'.toNat) H := ⟨j, rfl, h1, h2, q⟩
theorem rd_ie1 {K : PySem.W.Frag} {a : Addr} {xs : List V} (h : SqL K H a xs) (q : R (Ite K a) H) : ∃ a' xs', [V.ref a] = [.ref a'] ∧ SqL K H a' xs' ∧ R (Ite K a') H := ⟨a, xs, rfl, h, q⟩
end
/-! dicts with keys that are texts -/
section
variable {σ : L2.St} {H : Hp} {td ty tv : TE} {D : Ends} {Q : VK}
theorem rd_bm {K : PySem.W.Frag} {T : String} {r : V → List V → Hp → VK → Prop} {to : TE} {t : TA} (q : to σ H fun x H1 => tyV K T x H1 ∧ t σ H1 fun xs H2 => r x xs H2 Q) : tBM K T r to t σ H Q := q
theorem rd_bm0 {K : PySem.W.Frag} {T : String} {r : V → List V → Hp → VK → Prop} {to : TE} (q : to σ H fun x H1 => tyV K T x H1 ∧ r x [] H1 Q) : tBM0 K T r to σ H Q := q
theorem rd_dget (q : td σ H fun x H1 => ty σ H1 fun y H2 => ∃ a v, x = .ref a ∧ DGet H2 a y (some v) ∧ Q v H2) : tDGet td ty σ H Q := q
theorem rd_dput (q : tv σ H fun v H1 => td σ H1 fun x H2 => ty σ H2 fun y H3 => ∃ a H4, x = .ref a ∧ DPut H3 a y v H4 ∧ D.nx σ H4) : sDPut td ty tv D σ H := q
theorem rd_getS {a : Addr} {kvs : List (Key × V)} {x : Str} {v : V} {Φ : V → Prop} (h : H a = some (.dK kvs)) (hv : valV kvs (Sum.inr x : Key) = some v) (q : Φ v) : ∃ a' v', V.ref a = .ref a' ∧ DGet H a' (.str x) (some v') ∧ Φ v' :=
  ⟨a, v, rfl, hv ▸ DGet.k (k := Sum.inr x) h, q⟩
theorem rd_putS {a : Addr} {kvs : List (Key × V)} {x : Str} {v : V} {Φ : Hp → Prop} (h : H a = some (.dK kvs)) (hl : kvs.length < sizeLine) (q : Φ (upd H a (.dK (putK kvs (Sum.inr x) v)))) : ∃ a' H4, V.ref a = .ref a' ∧ DPut H a' (.str x) v H4 ∧ Φ H4 :=
  ⟨a, _, rfl, DPut.k (k := Sum.inr x) h hl, q⟩
end
/-! a statement whose ways meet again: what holds behind it -/
def tCut (t : TS) : TS := fun D σ H => ∃ N : L2.St → Hp → Prop, t { D with nx := N } σ H ∧ ∀ σ H, N σ H → D.nx σ H
theorem ps_cut {X : Cx} {st : Stmt} {t : TS} (h : PS X st t) : PS X st (tCut t) := by
  refine ⟨fun pins s σ H D I hq => ?_⟩
  obtain ⟨N, h1, h2⟩ := hq
  refine thn (h.run pins s σ H _ I h1) fun fl s1 q => ?_
  cases fl with
  | next =>
    obtain ⟨σ', H', J, z⟩ := q
    exact ⟨σ', H', J, h2 _ _ z⟩
  | ret v => exact q
  | brk => exact q
  | cont => exact q
/-! data: its shape -/
def Sh (n : Nat) (d : PyData) : Prop := d.canLay0 = true ∧ d.depth ≤ n
theorem Sh.mono {n m : Nat} {d : PyData} (h : Sh n d) (k : n ≤ m) : Sh m d := ⟨h.1, Nat.le_trans h.2 k⟩
theorem canAll : ∀ {ds : List PyData}, (∀ d ∈ ds, d.canLay0 = true) → PyData.canLayAll0 ds = true
  | [], _ => by simp [PyData.canLayAll0]
  | d :: r, h => by
    simp only [PyData.canLayAll0, Bool.and_eq_true]
    exact ⟨h d (by simp), canAll fun e he => h e (by simp [he])⟩
theorem depAll {n : Nat} : ∀ {ds : List PyData}, (∀ d ∈ ds, d.depth ≤ n) → PyData.depthAll ds ≤ n
  | [], _ => by simp [PyData.depthAll]
  | d :: r, h => by
    simp only [PyData.depthAll]
    have h1 := h d (by simp)
    have h2 := depAll (n := n) (ds := r) fun e he => h e (by simp [he])
    omega
theorem Sh.lst {n : Nat} {ds : List PyData} (h : ∀ d ∈ ds, Sh n d) : Sh (n + 1) (.list ds) :=
  ⟨by simp only [PyData.canLay0]; exact canAll fun d hd => (h d hd).1, by simp only [PyData.depth]; have := depAll (n := n) fun d hd => (h d hd).2; omega⟩
theorem Sh.tup {n : Nat} {ds : List PyData} (h : ∀ d ∈ ds, Sh n d) : Sh (n + 1) (.tuple ds) :=
  ⟨by simp only [PyData.canLay0]; exact canAll fun d hd => (h d hd).1, by simp only [PyData.depth]; have := depAll (n := n) fun d hd => (h d hd).2; omega⟩
theorem Sh.int {n : Nat} (i : Int) : Sh n (.int i) := ⟨by simp [PyData.canLay0], by simp [PyData.depth]⟩
theorem Sh.bl {n : Nat} (i : Bool) : Sh n (.bool i) := ⟨by simp [PyData.canLay0], by simp [PyData.depth]⟩
theorem Sh.non {n : Nat} : Sh n .none := ⟨by simp [PyData.canLay0], by simp [PyData.depth]⟩
theorem Sh.str {n : Nat} {x : Str} (h : PyData.strOk x = true) : Sh n (.str x) := ⟨by simp [PyData.canLay0, h], by simp [PyData.depth]⟩
theorem Sh.ok {n : Nat} {d : PyData} (h : Sh n d) (k : n ≤ 64) : SeqAt.shaped d = true := by
  unfold SeqAt.shaped
  rw [h.1]
  simp only [Bool.true_and, decide_eq_true_eq]
  exact Nat.le_trans h.2 k
theorem eqv_nil (ds : List PyData) : PyData.eqv (.list ds) (.list []) = ds.isEmpty := by
  cases ds <;> simp [PyData.eqv, PyData.eqvAll]
theorem dp_map {K : PySem.W.Frag} {H : Hp} {α : Type} {f : α → V} {g : α → PyData} (h : ∀ a, Dp K H (f a) (g a)) : ∀ xs : List α, DpAll K H (xs.map f) (xs.map g)
  | [] => .nil
  | x :: r => .cons (h x) (dp_map h r)
/-! texts, chains, targets of several names -/
section
variable {σ : L2.St} {H : Hp} {Q : VK} {ta tb tc te to : TE} {x v : V}
theorem rd_chain {r r' : R2} (q : ta σ H fun x H1 => tb σ H1 fun y H2 => r x y H2 fun z H3 => ∃ k, z = .bl k ∧ (if k = true then tc σ H3 fun w' H4 => r' y w' H4 Q else Q (.bl false) H3)) : tChain r r' ta tb tc σ H Q := q
theorem rd_m0 {r : V → List V → Hp → VK → Prop} (q : to σ H fun x H1 => (∃ a, x = .str a) ∧ r x [] H1 Q) : tM0 r to σ H Q := q
theorem rd_m1 {r : V → List V → Hp → VK → Prop} (q : to σ H fun x H1 => (∃ a, x = .str a) ∧ te σ H1 fun y H2 => r x [y] H2 Q) : tM1 r to te σ H Q := q
theorem rd_isS {z : Str} {Φ : Prop} (q : Φ) : (∃ a, V.str z = .str a) ∧ Φ := ⟨⟨z, rfl⟩, q⟩
theorem rd_gcons {t : TG} {u : TGs} {r : List V} {QG : L2.St → Hp → Prop} (q : t v σ H fun σ' H' => u r σ' H' QG) : gCons t u (v :: r) σ H QG := ⟨v, r, rfl, q⟩
theorem rd_gnil {QG : L2.St → Hp → Prop} (q : QG σ H) : gNil [] σ H QG := ⟨rfl, q⟩
theorem rd_callK {sp : Sp} {gV : List V → List V → List V} {E : XK} {t tk : TA} (q : t σ H fun vs H1 => tk σ H1 fun zs H2 => sp (gV vs zs) H2 Q E) : tCallK sp gV E t tk σ H Q := q
theorem rd_callS {sp : Sp} {E : L2.St → XK} {t : TA} (q : t σ H fun vs H1 => sp vs H1 Q (E σ)) : tCallS sp E t σ H Q := q
theorem rd_retN {D : Ends} (q : D.rt .non H) : tRetN D σ H := q
theorem rd_notV {ta : TE} (q : ta σ H fun x H1 => ∃ c, x = .bl c ∧ Q (.bl (!c)) H1) : tNotV ta σ H Q := q
theorem rd_unpG {K : PySem.W.Frag} {n : Nat} {gs : TGs} {QG : L2.St → Hp → Prop} {vs : List V} (hl : Nat.ble vs.length sizeLine = true) (h : vs.length = n) (q : ∀ H2, Kx [] H H2 → gs vs σ H2 QG) :
    vs.length ≤ sizeLine ∧ ∀ p, H p = none → gTup K n gs (.ref p) σ (upd H p (.tup vs)) QG :=
  ⟨Nat.le_of_ble_eq_true hl, fun p hp => ⟨p, vs, rfl, SqT.of upd_same, h, q _ (Kx.refl.nw hp)⟩⟩
end
def rLenQ (K : PySem.W.Frag) : List V → Hp → VK → Prop := fun xs H Q => ∃ p ys, xs = [.ref p] ∧ (SqL K H p ys ∨ SqT K H p ys) ∧ Q (.int ys.length) H
theorem call_lenQ {X : Cx} : CallR X (.builtin "len") (rLenQ X.K) := call_len_seq
theorem pick_ints {ns : List Int} (P : Int → Bool) (h : ns.all P = true) {i : Nat} {x : V} (hx : (ns.map V.int)[i]? = some x) : ∃ j, x = .int j ∧ P j = true := by
  obtain ⟨j, hj, rfl⟩ := List.mem_map.mp (List.mem_of_getElem? hx)
  exact ⟨j, rfl, List.all_eq_true.mp h j hj⟩
theorem pick_strs {ys : List Str} (P : Str → Bool) (h : ys.all P = true) {i : Nat} {x : V} (hx : (ys.map V.str)[i]? = some x) : ∃ z, x = .str z ∧ P z = true := by
  obtain ⟨j, hj, rfl⟩ := List.mem_map.mp (List.mem_of_getElem? hx)
  exact ⟨j, rfl, List.all_eq_true.mp h j hj⟩
theorem lenOk {α : Type} {vs : List α} (hl : Nat.ble vs.length sizeLine = true) : vs.length ≤ sizeLine := Nat.le_of_ble_eq_true hl
theorem take_map {α β : Type} {l : List α} {f : α → β} {i : Nat} {c : α} (h : l[i]? = some c) : (l.take i).map f ++ [f c] = (l.take (i + 1)).map f := by
  obtain ⟨hl, e⟩ := List.getElem?_eq_some_iff.mp h
  rw [List.take_succ_eq_append_getElem hl, List.map_append, e]
  rfl
theorem take_flt {α : Type} {l : List α} {p : α → Bool} {i : Nat} {c : α} (h : l[i]? = some c) (hp : p c = true) : (l.take i).filter p ++ [c] = (l.take (i + 1)).filter p := by
  obtain ⟨hl, e⟩ := List.getElem?_eq_some_iff.mp h
  rw [List.take_succ_eq_append_getElem hl, List.filter_append, e]
  simp [hp]
theorem take_flt0 {α : Type} {l : List α} {p : α → Bool} {i : Nat} {c : α} (h : l[i]? = some c) (hp : p c = false) : (l.take i).filter p = (l.take (i + 1)).filter p := by
  obtain ⟨hl, e⟩ := List.getElem?_eq_some_iff.mp h
  rw [List.take_succ_eq_append_getElem hl, List.filter_append, e]
  simp [hp]
end My

set_option Elab.async false
set_option linter.all false
set_option maxRecDepth 100000
set_option maxHeartbeats 4000000
local macro_rules | `(tactic| walk_at "rd") => `(tactic| (repeat (with_reducible first
  | refine My.rd_c ?_ | refine My.rd_op ?_ | refine My.rd_un ?_ | refine My.rd_I0 ?_ | refine My.rd_U ?_ | refine My.rd_nil ?_ | refine My.rd_cons ?_ | refine My.rd_call ?_ | refine My.rd_cb ?_
  | refine My.rd_asg ?_ | refine My.rd_seq ?_ | refine My.rd_ret ?_ | refine My.rd_drop ?_ | refine My.rd_next ?_ | refine My.rd_ifs ?_ | refine My.rd_if ?_ | refine My.rd_tB ?_ | refine My.rd_test ?_
  | refine My.rd_yes ?_ | refine My.rd_not ?_ | refine My.rd_bl ?_ | refine My.rd_and ?_ | refine My.rd_or ?_ | refine My.rd_andV ?_ | refine My.rd_orV ?_ | refine My.rd_eq rfl ?_ | refine My.rd_ne rfl ?_ | refine My.rd_par ?_ | (refine My.rd_par2 ?_; try dsimp only [List.set_cons_zero, List.set_cons_succ])
  | refine My.rd_tup ?_ | refine My.rd_lst ?_ | refine My.rd_part ?_ | refine My.rd_int ?_ | refine My.rd_nopart ?_ | refine My.rd_sl ?_ | refine My.rd_ex1 ?_ | refine My.rd_exs ?_ | refine My.rd_or1 ?_ | refine My.rd_chain ?_ | refine My.rd_m0 ?_ | refine My.rd_m1 ?_ | refine My.rd_isS ?_ | refine My.rd_unpG rfl rfl ?_ | refine My.rd_gcons ?_ | refine My.rd_gnil ?_ | refine My.rd_callK ?_ | refine My.rd_callS ?_ | refine My.rd_callW ?_ | refine My.rd_retN ?_ | refine My.rd_notV ?_ | apply My.rd_il | apply My.rd_it | apply My.rd_is | apply My.rd_ir | apply My.rd_ie | apply My.rd_for | apply My.rd_lc | apply My.rd_bm | apply My.rd_bm0 | apply My.rd_dget | apply My.rd_dput | refine My.rd_v0 ?_ | refine My.rd_v1 ?_ | refine My.rd_v2 ?_ | refine My.rd_v3 ?_ | refine My.rd_v4 ?_ | refine My.rd_v5 ?_ | refine My.rd_v6 ?_ | refine My.rd_v7 ?_ | refine My.rd_v8 ?_ | refine My.rd_v9 ?_ | refine My.rd_v10 ?_ | refine My.rd_v11 ?_ | refine My.rd_v12 ?_ | refine My.rd_v13 ?_ | refine My.rd_v14 ?_ | refine My.rd_v15 ?_ | refine My.rd_v16 ?_ | refine My.rd_v17 ?_ | refine My.rd_v18 ?_ | refine My.rd_v19 ?_ | refine My.rd_n0 ?_ | refine My.rd_n1 ?_ | refine My.rd_n2 ?_ | refine My.rd_n3 ?_ | refine My.rd_n4 ?_ | refine My.rd_n5 ?_ | refine My.rd_n6 ?_ | refine My.rd_n7 ?_ | refine My.rd_n8 ?_ | refine My.rd_n9 ?_ | refine My.rd_n10 ?_ | refine My.rd_n11 ?_ | refine My.rd_n12 ?_ | refine My.rd_n13 ?_ | refine My.rd_n14 ?_ | refine My.rd_n15 ?_ | refine My.rd_n16 ?_ | refine My.rd_n17 ?_ | refine My.rd_n18 ?_ | refine My.rd_n19 ?_)))
local macro_rules | `(tactic| walk_at "go") => `(tactic| (dsimp only [L2.cxOf, L2.Cx.nox, L2.Cx.wish, L2.start, List.map_cons, List.map_nil, List.length_cons, List.length_nil, List.cons_append, List.nil_append, Nat.reduceAdd, Nat.reduceSub, List.replicate_succ, List.replicate_zero, List.map, List.set_cons_zero, List.set_cons_succ, L2.wipe]; walk_at "rd"))
local macro_rules | `(tactic| walk_at "lc") => `(tactic| (dsimp only [L2.wipe, List.map, List.set_cons_zero, List.set_cons_succ]; walk_at "rd"))
namespace My
open PySem L2
def top (i : Nat) : Stmt := PySem.Challenge.pw_anymaker_k16_errors_made_and_bases.main.body.getD i (.Pass ⟨0, 0, 0, 0⟩)
abbrev s__law_begun : Stmt := top 57
abbrev s__law_mixed : Stmt := top 58
abbrev s__law_take : Stmt := top 59
abbrev s__law_pick : Stmt := top 60
abbrev s__law_plain_errors : Stmt := top 61
abbrev s__law_told_errors : Stmt := top 62
abbrev s__law_classes : Stmt := top 63
abbrev s_law : Stmt := top 64
abbrev s_BadScope___init__ : Stmt := inClass (top 37) 0
abbrev s_BadText___init__ : Stmt := inClass (top 42) 0
abbrev s_TooMany___init__ : Stmt := inClass (top 54) 0
abbrev s_Unnamed___init__ : Stmt := inClass (top 55) 0
end My
namespace My
open PySem L2
theorem sc__law_begun : FnScope ["_law_script", "_law_wide", "_law_grain"] ["_law_script"] (defScope s__law_begun) := ⟨rfl, rfl, rfl, by decide +kernel, rfl, by decide +kernel, by decide +kernel⟩
theorem sc__law_mixed : FnScope ["_law_draw", "_law_turn", "_law_found", "_law_prime", "_law_blend", "_law_grain"] ["_law_draw"] (defScope s__law_mixed) := ⟨rfl, rfl, rfl, by decide +kernel, rfl, by decide +kernel, by decide +kernel⟩
theorem sc__law_take : FnScope ["_law_draw", "_law_many", "_law_found"] ["_law_draw", "_law_many"] (defScope s__law_take) := ⟨rfl, rfl, rfl, by decide +kernel, rfl, by decide +kernel, by decide +kernel⟩
theorem sc__law_pick : FnScope ["_law_draw", "_law_some"] ["_law_draw", "_law_some"] (defScope s__law_pick) := ⟨rfl, rfl, rfl, by decide +kernel, rfl, by decide +kernel, by decide +kernel⟩
/-- what the draws ask of the top -/
structure TxD (K : PySem.W.Frag) (mg : Str → Option Value) : Prop where
  b_abs : mg "abs" = none
  b_int : mg "int" = none
  b_len : mg "len" = none
  d__law_begun : DefAt K mg "_law_begun" s__law_begun
  d__law_mixed : DefAt K mg "_law_mixed" s__law_mixed
  d__law_take : DefAt K mg "_law_take" s__law_take
  d__law_pick : DefAt K mg "_law_pick" s__law_pick
def drawKv (w c : Addr) (r t : Int) : List (Key × V) := [(Sum.inr "wide", .ref w), (Sum.inr "cells", .ref c), (Sum.inr "rest", .int r), (Sum.inr "turn", .int t)]
theorem dk_wide (w c : Addr) (r t : Int) : valV (drawKv w c r t) (Sum.inr ("wide" : Str) : Key) = some (.ref w) := by first | rfl | decide +kernel
theorem dk_cells (w c : Addr) (r t : Int) : valV (drawKv w c r t) (Sum.inr ("cells" : Str) : Key) = some (.ref c) := by first | rfl | decide +kernel
theorem dk_rest (w c : Addr) (r t : Int) : valV (drawKv w c r t) (Sum.inr ("rest" : Str) : Key) = some (.int r) := by first | rfl | decide +kernel
theorem dk_turn (w c : Addr) (r t : Int) : valV (drawKv w c r t) (Sum.inr ("turn" : Str) : Key) = some (.int t) := by first | rfl | decide +kernel
theorem dk_putR (w c : Addr) (r t r' : Int) : putK (drawKv w c r t) (Sum.inr ("rest" : Str) : Key) (.int r') = drawKv w c r' t := by first | rfl | decide +kernel
theorem dk_putT (w c : Addr) (r t t' : Int) : putK (drawKv w c r t) (Sum.inr ("turn" : Str) : Key) (.int t') = drawKv w c r t' := by first | rfl | decide +kernel
/-- the source of draws at d, its long numbers at w, its cells at c; n turns at most so far -/
structure Draw (H : Hp) (d w c : Addr) (n : Nat) : Prop where
  ex : ∃ (ws cs : List Int) (r : Int) (t : Nat), H d = some (.dK (drawKv w c r (t : Int))) ∧ H w = some (.lst (ws.map V.int)) ∧ H c = some (.lst (cs.map V.int)) ∧ t ≤ n
theorem Draw.ne {H : Hp} {d w c : Addr} {n : Nat} (D : Draw H d w c n) : d ≠ w ∧ d ≠ c := by
  obtain ⟨ws, cs, r, t, h1, h2, h3, _⟩ := D.ex
  exact ⟨ne_of h1 h2 (by intro z; cases z), ne_of h1 h3 (by intro z; cases z)⟩
theorem Draw.keep {H H' : Hp} {d w c : Addr} {n m : Nat} (D : Draw H d w c n) (k : Kx [] H H') (h : n ≤ m) : Draw H' d w c m := by
  obtain ⟨ws, cs, r, t, h1, h2, h3, h4⟩ := D.ex
  exact ⟨ws, cs, r, t, k _ _ h1 (by simp), k _ _ h2 (by simp), k _ _ h3 (by simp), by omega⟩
theorem Draw.fresh {H : Hp} {d w c p : Addr} {n : Nat} (D : Draw H d w c n) (h : H p = none) : p ≠ d ∧ p ≠ w ∧ p ≠ c := by
  obtain ⟨ws, cs, r, t, h1, h2, h3, _⟩ := D.ex
  exact ⟨(ne_of_none h1 h).symm, (ne_of_none h2 h).symm, (ne_of_none h3 h).symm⟩
theorem Draw.there {H : Hp} {d w c : Addr} {n : Nat} (D : Draw H d w c n) : ∀ z ∈ [d, w], H z ≠ none := by
  obtain ⟨ws, cs, r, t, h1, h2, h3, _⟩ := D.ex
  intro z hz
  simp only [List.mem_cons, List.not_mem_nil, or_false] at hz
  rcases hz with rfl | rfl
  · rw [h1]; simp
  · rw [h2]; simp
/-- as many turns are let -/
def lim : Nat := 1000000000000
def sp_begun (K : PySem.W.Frag) : Sp := fun vs H Q _ => ∃ (a : Addr) (ns : List Int), vs = [.ref a] ∧ SqL K H a (ns.map V.int) ∧ ns.length ≤ 63 ∧
  ∀ (H' : Hp) (d w c : Addr), Kx [] H H' → H d = none → H w = none → H c = none → w ≠ c → Draw H' d w c 0 → Q (.ref d) H'
def sp_mixed : Sp := fun vs H Q _ => ∃ (d w c : Addr) (n : Nat), vs = [.ref d] ∧ Draw H d w c n ∧ n < lim ∧
  ∀ (H' : Hp) (r : Int), Kx [d] H H' → Draw H' d w c (n + 1) → Q (.int r) H'
def sp_take : Sp := fun vs H Q _ => ∃ (d w c : Addr) (n : Nat) (m : Int), vs = [.ref d, .int m] ∧ Draw H d w c n ∧ w ≠ c ∧ n < lim ∧ 0 < m ∧ m < 1073741824 ∧
  ∀ (H' : Hp) (r : Int), Kx [d, w] H H' → Draw H' d w c (n + 1) → 0 ≤ r → r < m → Q (.int r) H'
def sp_pick (K : PySem.W.Frag) : Sp := fun vs H Q _ => ∃ (d w c l : Addr) (n : Nat) (xs : List V), vs = [.ref d, .ref l] ∧ Draw H d w c n ∧ w ≠ c ∧ n < lim ∧ SqL K H l xs ∧ l ≠ d ∧ l ≠ w ∧ 0 < xs.length ∧ xs.length < 1073741824 ∧
  ∀ (H' : Hp) (i : Nat) (x : V), Kx [d, w] H H' → Draw H' d w c (n + 1) → xs[i]? = some x → Q x H'
theorem ints_at {ns : List Int} {i : Nat} {x : V} (h : (ns.map V.int)[i]? = some x) : ∃ z, x = V.int z := by
  rw [List.getElem?_map] at h
  cases e : ns[i]? with
  | none => rw [e] at h; cases h
  | some z => rw [e] at h; exact ⟨z, (Option.some.inj h).symm⟩
section
variable {P : Program} {w : World} {K : PySem.W.Frag} {mg : Str → Option Value} {base : Heap}
theorem ok__law_begun (T : TxD K mg) : FnAt P w K mg base CX0 1 "_law_begun" ["_law_script"] (sp_begun K) := by
  refine FnAt.mk T.d__law_begun (fun _ _ _ _ _ _ us hl => match us, hl with | [_], _ => rfl) fun f fd F => ?_
  refine F.ok sc__law_begun (fun vs H Q E h => by obtain ⟨a, ns, rfl, _⟩ := h; rfl) (fun cdv A outer s H vs Q E hr h => ?_)
  obtain ⟨a, ns, rfl, hS, hl, k⟩ := h
  refine ⟨_, (pss_cons (ps_setLc (i := 1) (own := [("_law_grain", 2)]) (by rfl) sc__law_begun.nd rfl rfl (sw_true rfl rfl rfl (by decide +kernel)) (pi_list (pv 0)) (blkOk_by (own := [("_law_grain", 2)]) (N := ["_law_script", "_law_wide", "_law_grain"]) (sc := defScope s__law_begun) (by decide +kernel)) (fun _ _ _ _ _ => by exact (pg_name (i := 2) sc__law_begun.nd rfl (by first | exact Or.inl rfl | exact Or.inr rfl))) (fun _ _ _ _ _ => (pts_one (pt_cmpR op_ge (pe_callB call_abs rfl T.b_abs (by decide +kernel) (pa_cons (pv 2) pa_nil)) (pe_op op_pow pe_int pe_int) (nomark _)))) (fun _ _ _ _ _ => (pe_op op_sub (pe_callB call_abs rfl T.b_abs (by decide +kernel) (pa_cons (pv 2) pa_nil)) (pe_op op_pow pe_int pe_int))))
    (pss_one (ps_ret (pe_disp (pps_cons pe_str (pv 1) (pps_cons pe_str (pe_lc (own := [("_law_grain", 2)]) (by rfl) sc__law_begun.nd (pi_list (pv 0)) (blkOk_by (own := [("_law_grain", 2)]) (N := ["_law_script", "_law_wide", "_law_grain"]) (sc := defScope s__law_begun) (by decide +kernel)) (fun _ _ _ _ _ => by exact (pg_name (i := 2) sc__law_begun.nd rfl (by first | exact Or.inl rfl | exact Or.inr rfl))) (fun _ _ _ _ _ => pts_nil) (fun _ _ _ _ _ => (pe_op op_mod (pe_callTy call_int1 rfl T.b_int (by decide +kernel) (pa_cons (pe_callB call_abs rfl T.b_abs (by decide +kernel) (pa_cons (pv 2) pa_nil)) pa_nil)) pe_int))) (pps_cons pe_str pe_int (pps_cons pe_str pe_int pps_nil)))) (by rfl) (by rfl) (fun z => by cases z) (by decide))))), ?_⟩
  walk_at "go"
  refine ⟨a, rfl, ⟨_, hS⟩, ?_⟩
  intro D hD
  refine lc_src src_list (fun i H1 => ∃ acc : List Int, acc.length ≤ i ∧ PvF H D [] (acc.map V.int) H1) ⟨[], Nat.le_refl _, PvF.zero hD (by simp)⟩ (fun i H1 _ ⟨_, _, p⟩ => p.kx.sql hS (by simp)) ?_ ?_
  · rintro i x H1 H2 hi ⟨rfl, hx⟩ ⟨acc, hacc, p⟩
    rw [List.length_map] at hi
    obtain ⟨z, rfl⟩ := ints_at hx
    walk_at "lc"
    refine ⟨rfl, ?_⟩
    walk_at "rd"
    refine ⟨_, _, rfl, rfl, ⟨by decide, by decide, by decide⟩, ?_⟩
    walk_at "rd"
    refine ite2 (fun _ => ?_) (fun _ => ?_)
    · walk_at "rd"
      refine ⟨_, _, rfl, rfl, ⟨by decide, by decide, by decide⟩, ?_⟩
      walk_at "rd"
      obtain ⟨acc', q1, q2, q3⟩ := p.yes hD Kx.refl (by rw [List.length_map]; exact small1000 (by omega)) rfl
      exact ⟨acc', q1, q2, acc ++ [_], by rw [List.length_append]; simp; omega, by rw [List.map_append]; exact q3⟩
    · exact ⟨acc, by omega, p⟩
  · rintro H1 ⟨acc, hacc, p⟩
    walk_at "rd"
    intro p0 hp0
    dsimp only [tPairs, wipe, List.map, List.set_cons_zero, List.set_cons_succ]
    walk_at "rd"
    have kH : Kx [] H (upd H1 p0 (.dK [])) := p.kx.nw hp0
    have hS1 := kH.sql hS (by simp)
    refine ⟨a, rfl, ⟨_, hS1⟩, ?_⟩
    intro c hc
    have hcp : c ≠ p0 := fun z => by rw [z, upd_same] at hc; cases hc
    refine lc_src src_list (fun i H2 => ∃ cs : List Int, cs.length ≤ i ∧ PvF (upd H1 p0 (.dK [])) c [] (cs.map V.int) H2) ⟨[], Nat.le_refl _, PvF.zero hc (by simp)⟩ (fun i H2 _ ⟨_, _, p⟩ => p.kx.sql hS1 (by simp)) ?_ ?_
    · rintro i x H2 H3 hi ⟨rfl, hx⟩ ⟨cs, hcs, q⟩
      rw [List.length_map] at hi
      obtain ⟨z, rfl⟩ := ints_at hx
      walk_at "lc"
      refine ⟨rfl, ?_⟩
      walk_at "rd"
      refine iteT ?_
      walk_at "rd"
      refine ⟨_, _, rfl, rfl, (by show (0 : Int) < 2147483629; decide), ?_⟩
      obtain ⟨acc', q1, q2, q3⟩ := q.yes hc Kx.refl (by rw [List.length_map]; exact small1000 (by omega)) rfl
      exact ⟨acc', q1, q2, cs ++ [_], by rw [List.length_append]; simp; omega, by rw [List.map_append]; exact q3⟩
    · rintro H2 ⟨cs, hcs, q⟩
      walk_at "rd"
      have hp2 : H2 p0 = some (.dK []) := q.kx _ _ upd_same (by simp)
      refine ⟨hp2, drawKv D c 0 0, rfl, (by show 4 ≤ 15; decide), ?_⟩
      have em : mergeK ([] : List (Key × V)) (drawKv D c 0 0) = drawKv D c 0 0 := by first | rfl | decide +kernel
      rw [em]
      have hDp : D ≠ p0 := ne_of_none p.at_ hp0
      have hp1 : H p0 = none := p.kx.back hp0 (by simp)
      have hc1 : H1 c = none := by rw [upd_ne hcp] at hc; exact hc
      have kk : Kx [] H (upd H2 p0 (.dK (drawKv D c 0 0))) := (kH.trans q.kx).mu hp1
      refine k _ p0 D c kk hp1 hD (p.kx.back hc1 (by simp)) (ne_of_none p.at_ hc1) ⟨acc, cs, 0, 0, upd_same, ?_, ?_, Nat.le_refl _⟩
      · rw [upd_ne hDp]
        exact q.kx _ _ (by rw [upd_ne hDp]; exact p.at_) (by simp)
      · rw [upd_ne hcp]
        exact q.at_
theorem ok__law_mixed (T : TxD K mg) : FnAt P w K mg base CX0 1 "_law_mixed" ["_law_draw"] sp_mixed := by
  refine FnAt.mk T.d__law_mixed (fun _ _ _ _ _ _ us hl => match us, hl with | [_], _ => rfl) fun f fd F => ?_
  refine F.ok sc__law_mixed (fun vs H Q E h => by obtain ⟨d, w, c, n, rfl, _⟩ := h; rfl) (fun cdv A outer s H vs Q E hr h => ?_)
  obtain ⟨d, w, c, n, rfl, D, hn, k⟩ := h
  obtain ⟨ws, cs, r, t, h1, h2, h3, ht⟩ := D.ex
  refine ⟨_, (pss_cons (ps_par (i := 1) (j := 2) (by rfl) sc__law_mixed.nd rfl rfl (by decide) rfl rfl (pa_cons (pe_op op_add (pe_dget (hu_of hr) (pv 0) pe_str (fun _ _ => rfl)) pe_int) (pa_cons pe_int pa_nil)) (by rfl))
    (pss_cons (ps_dput (hu_of hr) (pv 0) pe_str (pv 1) rfl)
    (pss_cons (ps_for PassesOwn.never rfl (pi_list (pe_lst (pa_cons pe_int (pa_cons pe_int (pa_cons pe_int (pa_cons pe_int pa_nil)))))) (pg_name (i := 3) sc__law_mixed.nd rfl (by first | exact Or.inl rfl | exact Or.inr rfl))
    (pss_cons (ps_set (i := 4) sc__law_mixed.nd rfl (by first | exact Or.inl rfl | exact Or.inr rfl) (pe_op op_add (pe_op op_mul pe_int (pv 1)) (pe_op op_fdiv (pv 3) pe_int)))
    (pss_cons (ps_for PassesOwn.never rfl (pi_list (pe_dget (hu_of hr) (pv 0) pe_str (fun _ _ => rfl))) (pg_name (i := 5) sc__law_mixed.nd rfl (by first | exact Or.inl rfl | exact Or.inr rfl))
    (pss_one (ps_set (i := 4) sc__law_mixed.nd rfl (by first | exact Or.inl rfl | exact Or.inr rfl) (pe_op op_mod (pe_callTy call_int1 rfl T.b_int (by decide +kernel) (pa_cons (pe_op op_add (pe_op op_add (pe_op op_mul (pv 4) pe_int) (pv 5)) (pv 1)) pa_nil)) (pv 3)))))
    (pss_one (ps_set (i := 2) sc__law_mixed.nd rfl (by first | exact Or.inl rfl | exact Or.inr rfl) (pe_op op_add (pe_op op_mul (pv 2) pe_int) (pe_op op_mod (pe_callTy call_int1 rfl T.b_int (by decide +kernel) (pa_cons (pe_op op_pow (pv 4) pe_int) pa_nil)) (pv 3))))))))
    (pss_one (ps_ret (pv 2)))))), ?_⟩
  walk_at "go"
  refine rd_getS h1 (dk_turn _ _ _ _) ?_
  walk_at "rd"
  refine rd_putS h1 (by show 4 < sizeLine; decide) ?_
  rw [dk_putT]
  walk_at "rd"
  refine ⟨by decide, fun p hp => ⟨p, rfl, ⟨_, SqL.of upd_same⟩, ?_⟩⟩
  have hpd : p ≠ d := fun z => by rw [z, upd_same] at hp; cases hp
  have hG : ∃ G, G = upd (upd H d (HO.dK (drawKv w c r (↑t + 1)))) p (HO.lst [V.int 2147483647, V.int 2147483629, V.int 2147483587, V.int 2147483579]) := ⟨_, rfl⟩
  obtain ⟨G, hG⟩ := hG
  rw [← hG]
  have gd : G d = some (.dK (drawKv w c r (↑t + 1))) := by rw [hG, upd_ne hpd.symm, upd_same]
  have gp : G p = some (.lst [V.int 2147483647, V.int 2147483629, V.int 2147483587, V.int 2147483579]) := by rw [hG, upd_same]
  have kG : Kx [d] H G := by
    rw [hG]
    exact (Kx.refl.in (by simp)).nw hp
  have nd := D.ne
  have gw : G w = some (.lst (ws.map V.int)) := kG _ _ h2 (by simp [nd.1.symm])
  have gc : G c = some (.lst (cs.map V.int)) := kG _ _ h3 (by simp [nd.2.symm])
  have hlim : (t : Int) + 1 ≤ 1000000000000 := by unfold lim at hn; omega
  refine for_src src_list (fun i σ H' => H' = G ∧ ∃ (f : Int) (a b e : Option V), σ = [some (.ref d), some (.int (↑t + 1)), some (.int f), a, b, e]) ⟨rfl, 0, _, _, _, rfl⟩ (fun i σ H' _ ⟨e, _⟩ => by rw [e]; exact SqL.of gp) ?_ ?_
  · rintro i x σ H1 H2 hi ⟨rfl, hx⟩ ⟨rfl, f, a, b, e, rfl⟩
    obtain ⟨q, rfl, hq1, hq2⟩ : ∃ q : Int, x = .int q ∧ 0 < q ∧ q < 2147483648 := by
      have hm := List.mem_of_getElem? hx
      simp only [List.mem_cons, List.not_mem_nil, or_false] at hm
      rcases hm with rfl | rfl | rfl | rfl
      all_goals exact ⟨_, rfl, by decide, by decide⟩
    walk_at "rd"
    refine ⟨_, _, rfl, rfl, .inl ⟨by decide, by decide⟩, ?_⟩
    walk_at "rd"
    refine ⟨_, _, rfl, rfl, ⟨by decide, by decide⟩, ?_⟩
    walk_at "rd"
    refine rd_getS gd (dk_cells _ _ _ _) ⟨c, rfl, ⟨_, SqL.of gc⟩, ?_⟩
    refine for_src src_list (fun j σ H' => H' = H2 ∧ ∃ (b : Int) (e : Option V), (b.natAbs < 2 ^ 64) ∧ σ = [some (.ref d), some (.int (↑t + 1)), some (.int f), some (.int q), some (.int b), e]) ⟨rfl, _, _, ?_, rfl⟩ (fun i σ H' _ ⟨e, _⟩ => by rw [e]; exact SqL.of gc) ?_ ?_
    · have e1 : 0 ≤ q / 37 := Int.ediv_nonneg (by omega) (by decide)
      have e2 : q / 37 ≤ q := Int.ediv_le_self _ (by omega)
      omega
    · rintro j y σ H3 H4 hj ⟨rfl, hy⟩ ⟨rfl, b, e, hb, rfl⟩
      obtain ⟨z, rfl⟩ := ints_at hy
      walk_at "rd"
      refine ⟨_, _, rfl, rfl, .inr ⟨by decide, by decide⟩, ?_⟩
      walk_at "rd"
      refine ⟨_, _, rfl, rfl, hq1, ?_⟩
      walk_at "rd"
      have e1 := Int.emod_nonneg (b * 69621 + z + (↑t + 1)) (by omega : q ≠ 0)
      have e2 := Int.emod_lt_of_pos (b * 69621 + z + (↑t + 1)) hq1
      exact ⟨rfl, _, _, by omega, rfl⟩
    · rintro σ H3 ⟨rfl, b, e, hb, rfl⟩
      walk_at "rd"
      refine ⟨_, _, rfl, rfl, .inr ⟨by decide, by decide⟩, ?_⟩
      walk_at "rd"
      refine ⟨_, _, rfl, rfl, ⟨by decide, by decide, hb⟩, ?_⟩
      walk_at "rd"
      refine ⟨_, _, rfl, rfl, hq1, ?_⟩
      walk_at "rd"
      exact ⟨rfl, _, _, _, _, rfl⟩
  · rintro σ H1 ⟨rfl, f, a, b, e, rfl⟩
    walk_at "rd"
    exact k _ _ kG ⟨ws, cs, r, t + 1, gd, gw, gc, by omega⟩
theorem ok__law_take (T : TxD K mg) : FnAt P w K mg base CX0 2 "_law_take" ["_law_draw", "_law_many"] sp_take := by
  refine FnAt.mk T.d__law_take (fun _ _ _ _ _ _ us hl => match us, hl with | [_, _], _ => rfl) fun f fd F => ?_
  refine F.ok sc__law_take (fun vs H Q E h => by obtain ⟨d, w, c, n, m, rfl, _⟩ := h; rfl) (fun cdv A outer s H vs Q E hr h => ?_)
  obtain ⟨d, w, c, n, m, rfl, D, hwc, hn, hm, hm2, k⟩ := h
  obtain ⟨ws, cs, r, t, h1, h2, h3, ht⟩ := D.ex
  have nd := D.ne
  refine ⟨_, (pss_cons (ps_cut (ps_if (pt_cmpR op_eq (pe_dget (hu_of hr) (pv 0) pe_str (fun _ _ => rfl)) pe_int (nomark _)) (pss_one (ps_dput (hu_of hr) (pv 0) pe_str (pe_ifExp (pt_cmpR (op_neD hr.units) (pe_dget (hu_of hr) (pv 0) pe_str (fun _ _ => rfl)) (pe_lst pa_nil) (nomark _)) (pe_bm PySem.F.plainAttrs_list PySem.F.slot_list_pop PySem.F.type_list_pop mt_popAt (pe_dget (hu_of hr) (pv 0) pe_str (fun _ _ => rfl)) (pa_cons pe_int pa_nil)) (pe_f (ok__law_mixed T) (hr.mono (by decide)) rfl (pa_cons (pv 0) pa_nil))) rfl)) pss_nil))
    (pss_cons (ps_set (i := 2) sc__law_take.nd rfl (by first | exact Or.inl rfl | exact Or.inr rfl) (pe_op op_mod (pe_callTy call_int1 rfl T.b_int (by decide +kernel) (pa_cons (pe_dget (hu_of hr) (pv 0) pe_str (fun _ _ => rfl)) pa_nil)) (pv 1)))
    (pss_cons (ps_dput (hu_of hr) (pv 0) pe_str (pe_op op_fdiv (pe_dget (hu_of hr) (pv 0) pe_str (fun _ _ => rfl)) (pv 1)) rfl)
    (pss_one (ps_ret (pv 2)))))), ?_⟩
  walk_at "go"
  refine ⟨fun σ H1 => σ = [some (.ref d), some (.int m), none] ∧ ∃ (ws cs : List Int) (r : Int) (t : Nat), Kx [d, w] H H1 ∧ H1 d = some (.dK (drawKv w c r (t : Int))) ∧ H1 w = some (.lst (ws.map V.int)) ∧ H1 c = some (.lst (cs.map V.int)) ∧ t ≤ n + 1, ?_, ?_⟩
  · walk_at "rd"
    refine rd_getS h1 (dk_rest _ _ _ _) ?_
    walk_at "rd"
    refine ite2 (fun _ => ?_) (fun _ => ?_)
    · walk_at "rd"
      refine rd_getS h1 (dk_wide _ _ _ _) ?_
      walk_at "rd"
      refine ⟨by decide, fun p hp => ?_⟩
      have hpw : p ≠ w := fun z => by rw [z, h2] at hp; cases hp
      have hpd : p ≠ d := fun z => by rw [z, h1] at hp; cases hp
      have hpc : p ≠ c := fun z => by rw [z, h3] at hp; cases hp
      have e2 : upd H p (.lst []) w = some (.lst (ws.map V.int)) := by rw [upd_ne hpw.symm]; exact h2
      have e1 : upd H p (.lst []) d = some (.dK (drawKv w c r t)) := by rw [upd_ne hpd.symm]; exact h1
      have e3 : upd H p (.lst []) c = some (.lst (cs.map V.int)) := by rw [upd_ne hpc.symm]; exact h3
      refine ⟨.list (ws.map PyData.int), .list [], .lst (SqL.of e2) (dp_map (fun i => .int i) ws), .lst (SqL.of upd_same) .nil, (Sh.lst (n := 0) fun d hd => ?_).ok (by decide), rfl, ?_⟩
      · obtain ⟨i, _, rfl⟩ := List.mem_map.mp hd
        exact Sh.int i
      walk_at "rd"
      rw [eqv_nil]
      have kp : Kx [d, w] H (upd H p (.lst [])) := Kx.refl.nw hp
      cases ws with
      | nil =>
        refine iteF ?_
        walk_at "rd"
        refine ⟨d, w, c, n, rfl, ⟨[], cs, r, t, e1, e2, e3, ht⟩, hn, fun H' r' kx D' => ?_⟩
        obtain ⟨ws', cs', r'', t', g1, g2, g3, g4⟩ := D'.ex
        walk_at "rd"
        refine rd_putS g1 (by show 4 < sizeLine; decide) ?_
        rw [dk_putR]
        exact ⟨rfl, ws', cs', r', t', (kp.trans (kx.mono (by simp))).in (by simp), upd_same, by rw [upd_ne nd.1.symm]; exact g2, by rw [upd_ne nd.2.symm]; exact g3, g4⟩
      | cons z ws =>
        refine iteT ?_
        walk_at "rd"
        refine rd_getS e1 (dk_wide _ _ _ _) ?_
        refine ⟨.inl ⟨rfl, _, SqL.of e2⟩, ?_⟩
        walk_at "rd"
        refine ⟨w, _, 0, 0, V.int z, rfl, rfl, e2, by decide, by decide, seqIndex_of (by decide) (by rw [List.length_map, List.length_cons]; omega), rfl, ?_⟩
        walk_at "rd"
        have g1 : upd (upd H p (.lst [])) w (.lst (((z :: ws).map V.int).eraseIdx 0)) d = some (.dK (drawKv w c r t)) := by rw [upd_ne nd.1]; exact e1
        refine rd_putS g1 (by show 4 < sizeLine; decide) ?_
        rw [dk_putR]
        refine ⟨rfl, ws, cs, z, t, (kp.in (by simp)).in (by simp), upd_same, ?_, ?_, by omega⟩
        · rw [upd_ne nd.1.symm, upd_same]
          rfl
        · rw [upd_ne nd.2.symm, upd_ne hwc.symm]
          exact e3
    · walk_at "rd"
      exact ⟨rfl, ws, cs, r, t, Kx.refl, h1, h2, h3, by omega⟩
  · rintro σ H1 ⟨rfl, ws, cs, r, t, kx, h1, h2, h3, ht⟩
    walk_at "rd"
    refine rd_getS h1 (dk_rest _ _ _ _) ?_
    walk_at "rd"
    refine ⟨_, _, rfl, rfl, hm, ?_⟩
    walk_at "rd"
    refine rd_getS h1 (dk_rest _ _ _ _) ?_
    walk_at "rd"
    refine ⟨_, _, rfl, rfl, ⟨hm, hm2⟩, ?_⟩
    walk_at "rd"
    refine rd_putS h1 (by show 4 < sizeLine; decide) ?_
    walk_at "rd"
    rw [dk_putR]
    refine k _ _ (kx.in (by simp)) ⟨ws, cs, r / m, t, upd_same, ?_, ?_, ht⟩ (Int.emod_nonneg _ (by omega)) (Int.emod_lt_of_pos _ hm)
    · rw [upd_ne nd.1.symm]; exact h2
    · rw [upd_ne nd.2.symm]; exact h3
theorem ok__law_pick (T : TxD K mg) : FnAt P w K mg base CX0 3 "_law_pick" ["_law_draw", "_law_some"] (sp_pick K) := by
  refine FnAt.mk T.d__law_pick (fun _ _ _ _ _ _ us hl => match us, hl with | [_, _], _ => rfl) fun f fd F => ?_
  refine F.ok sc__law_pick (fun vs H Q E h => by obtain ⟨d, w, c, l, n, xs, rfl, _⟩ := h; rfl) (fun cdv A outer s H vs Q E hr h => ?_)
  obtain ⟨d, w, c, l, n, xs, rfl, D, hwc, hn, hL, hld, hlw, h0, h1, k⟩ := h
  refine ⟨_, (pss_one (ps_ret (pe_ix ix_list (pv 1) (pe_f (ok__law_take T) (hr.mono (by decide)) rfl (pa_cons (pv 0) (pa_cons (pe_callB call_len_seq rfl T.b_len (by decide +kernel) (pa_cons (pv 1) pa_nil)) pa_nil))) (fun _ _ => rfl)))), ?_⟩
  walk_at "go"
  refine ⟨l, xs, rfl, .inl hL, ?_⟩
  refine ⟨d, w, c, n, (xs.length : Int), rfl, D, hwc, hn, by omega, by omega, fun H' r kx D' r0 r1 => ?_⟩
  obtain ⟨j, rfl⟩ := Int.eq_ofNat_of_zero_le r0
  have hj : j < xs.length := by omega
  have e := List.getElem?_eq_getElem hj
  exact ⟨l, xs, _, xs[j], rfl, rfl, kx.sql hL (by simp [hld, hlw]), atI_nat e, k H' j _ kx D' e⟩
end
end My

set_option Elab.async false
set_option linter.all false
set_option maxRecDepth 100000
set_option maxHeartbeats 4000000
/-! Errors of the program's own: made, raised, caught, kept, asked. -/
namespace My
open PySem L2

/-! ### super().__init__(text) at the head of an own error's __init__ -/
section
open PySem.W PySem.Calls PyProof.Rows
variable {prog : Program} {w : World} {A : Around} {E : Value → Shared → Prop} {h : Heap} {g : Array GenState} {d : Drawn} {t : Nat} {os : OsState}
variable {nm q : Str} {C N : Addr} {bs bm : List Value} {sn : List Str} {sub : List Value} {ab : Bool} {col : Option Bool} {dd : Option Addr} {k0 k1 k2 k3 k5 : Option Value}
/-- ValueError.__init__, bound to an error that is being made, called -/
theorem sup_bound {u e t0 : Addr} {rest : List Value} {Q : Value → Shared → Prop} (hC : h.get? C = some (excClassObj nm q C N bs bm true sn sub ab col dd k0 k1 k2 k3 k5 "ValueError.__new__"))
    (he : h.get? e = some (excObj C t0 none .none)) (hu : h.get? u = some (kxs_mw "ValueError.__init__" e)) (hz : rest.length ≤ sizeLine)
    (hq : ∀ h' t1, (∀ b o, b ≠ e → h.get? b = some o → h'.get? b = some o) → h'.get? e = some (excObj C t1 none .none) → Q .none ⟨h', g, d, t, os⟩) :
    wpAny (model prog w) A (call (.ref u) rest) Q E ⟨h, g, d, t, os⟩ := by
  refine wpAny_call (codeAny_of_tree ?_)
  show wpAny _ A.in1 (callAny (.ref u) ⟨rest, []⟩) _ _ _
  unfold callAny
  refine wpAny_bind (wpAny_load hu ?_)
  have e1 : (Value.type "method-wrapper" == Value.type "method" || Value.type "method-wrapper" == Value.type "builtin_function_or_method" || Value.type "method-wrapper" == Value.type "method-wrapper") = true := by decide
  simp only [kxs_mw, e1, if_true]
  refine KFB.if_so (by decide) (wpAny_bind (check_bound_init PySem.F.excBase_ValueError.toExcCallFacts hC he rfl (wpAny_bind (wpAny_pure (wpAny_pure ⟨plainId_quiet PySem.F.excBase_ValueError.init.plain _, codeAny_builtin PySem.F.excBase_ValueError.initEntry ?_⟩)))))
  exact exc_init_tree (cls := .ref C) (t0 := t0) (dv := none) (c2 := .none) (c3 := .none) (b4 := .bool false) he hz fun h' k q1 _ => hq h' _ k q1
end
/-- what the written part says of an error class C with an __init__ of its own (at f, its cell at cc) -/
structure SupC (P : Program) (K : PySem.W.Frag) (mg : Str → Option Value) (C : Addr) (F : NdefX.NF) (f cc : Addr) : Prop where
  ox : OexC K C
  fn : ∃ oc od osl doc pm ctv, K.lookup f = some ⟨oc, od, .func (F.fd doc pm ctv), osl⟩
  code : PySem.W.codeIn K (.ref F.c) F.qual = true
  cl : F.cl = ([("__class__", cc)] : List (Str × Addr))
  cell : ∃ c1 c2 c3, K.lookup cc = some ⟨c1, c2, .cell (some (.ref C)), c3⟩
  file : ∃ c1 c2 vs c3 fl tf, K.lookup F.c = some ⟨c1, c2, .fields vs, c3⟩ ∧ vs[2]? = some (.str fl tf) ∧ ((P.main.file : Str) == fl) = true
  self : PySem.W.mroIn K C (.ref C) = some true
  ve : PySem.W.subIn K (.ref C) (.type "ValueError") = some true
  up : PySem.W.ks_superIn K C C "__init__" = some (some (.builtin "ValueError.__init__"))
  tp : PySem.W.nsIn K cStatics "thirdparty.any" = some none
  sup : mg "super" = none
section
open NdefX
variable {P : Program} {w : World} {K : PySem.W.Frag} {mg : Str → Option Value} {base : Heap} {CX : CXT} {k : Nat} {f C cc : Addr} {F : NF} {N ps : List Str} {sp : Sp} {doc pm ctv : Value}
theorem excO_obj {C t1 : Addr} : (PySem.W.excObj C t1 none .none : Obj) = { cls := .ref C, dict := none, data := .fields #[.ref t1, .none, .none, .none, .bool false, .none] } := rfl
theorem fn_super (S : NScope N ps ["__class__"] F.scope) (T : SupC P K mg C F f cc) {ocf : Value} {odf : Option Addr} {oslf : Array (Option Value)} (lk : K.lookup f = some ⟨ocf, odf, .func (F.fd doc pm ctv), oslf⟩)
    (len : ∀ vs H Q E, sp vs H Q E → vs.length = ps.length) {p0 p1 p2 p3 p4 p5 : Pos} {m : Str} {j : Nat} {rest : List Stmt} {ar : Arg}
    (hb : F.body = .Expr (.Call (.Attribute (.Call (.Name "super" p0) [] [] p1) "__init__" p2) [.Constant (.str m) j p5] [] p3) p4 :: rest)
    (hp : (F.params.posonlyargs ++ F.params.args).head? = some ar) (hp0 : ps.head? = some ar.arg)
    (hks : F.scope.names.lookup ("super" : Str) = some .globalImplicit) (hkc : F.scope.names.lookup ("__class__" : Str) = some .free) (hka : F.scope.names.lookup ar.arg = some .local)
    (htop : (P.main.scope.names.lookup ("super" : Str)).isSome = false) (hcell : ∀ x ∈ F.scope.names, x.2 ≠ .cell)
    (hev : ∀ L : Addr, ∃ pl : Sem Bool, eval (.Call (.Attribute (.Call (.Name "super" p0) [] [] p1) "__init__" p2) [.Constant (.str m) j p5] [] p3) (envF F f L) = (do
      let ov ← attributeBase (.Call (.Name "super" p0) [] [] p1) "__init__" (envF F f L) (eval (.Call (.Name "super" p0) [] [] p1) (envF F f L))
      standAt p2.atName
      let (f', first) ← holding [ov] (getMethod ov "__init__" pl)
      callWith p3 f' first (backTo p3 (starEach [.Constant (.str m) j p5] (envF F f L))) []))
    (hbody : ∀ (A : Around) (outer : List Env) (s : Shared) (H : Hp) (vs : List V) (Q : VK) (E : XK), Room k (A.deeper (envF F f s.heap.objs.size)) → sp vs H Q E →
      (∃ a r, vs = .ref a :: r ∧ H a = some (exo a C none)) ∧
      ∃ t, PSs (ncx CX P w K mg base N F f A outer s H E) rest t ∧ t { nx := fun _ H' => Q .non H', rt := Q } (startF N vs [some (.ref C)]) H) :
    FnOk P w K mg base CX (k + 1) f (F.fd doc pm ctv) ps sp := by
  refine ⟨len, fun A outer s H args us vs Q E hr e0 hbd r hsp => ?_⟩
  have hl := len _ _ _ _ hsp
  have KX : K.In s.heap := e0.mod.kin.keeps fun b o e => (e0.bs b o e).1
  have lim : s.heap.NoLimit := e0.mod.nolimit.keeps fun b o e => (e0.bs b o e).1
  obtain ⟨⟨a, vr, rfl, ha⟩, tt, ht, hq⟩ := hbody A outer s H vs Q E (hr.deeper _) hsp
  cases r with
  | @cons _ u0 _ ur ra rr =>
  obtain rfl : u0 = Value.ref a := ra
  have r : Vals (V.ref a :: vr) (Value.ref a :: ur) := .cons rfl rr
  obtain ⟨c1, c2, c3, hcc⟩ := T.cell
  have CA : CellsAt F.cl ["__class__"] [some (.ref C)] s.heap H := by
    rw [T.cl]
    have hn : H cc = none := (e0.bs cc _ (e0.mod.kin cc _ hcc)).2
    refine ⟨rfl, fun y c e => ?_, fun x y c e1 e2 => ?_, fun i y e => ?_⟩
    · have z := PySem.mem_of_lookup e
      simp only [List.mem_singleton, Prod.mk.injEq] at z
      obtain ⟨rfl, rfl⟩ := z
      exact ⟨hn, _, _, KX _ _ hcc, rfl⟩
    · have z1 := PySem.mem_of_lookup e1
      have z2 := PySem.mem_of_lookup e2
      simp only [List.mem_singleton, Prod.mk.injEq] at z1 z2
      rw [z1.1, z2.1]
    · cases i with
      | succ i => simp at e
      | zero =>
        simp at e
        subst e
        exact ⟨cc, by first | rfl | simp [List.lookup], fun v hv => by
          simp at hv
          subst hv
          exact ⟨_, rfl, _, KX _ _ hcc, rfl⟩⟩
  have hkd : ∀ y ∈ ps.zip (Value.ref a :: ur), F.scope.names.lookup y.1 = some .local := fun ⟨n, v⟩ hy => S.par n (List.of_mem_zip hy).1
  refine PySem.ks_codeAny_call_defAt (fd := F.fd doc pm ctv) (body := F.body) (binds := ps.zip (Value.ref a :: ur)) hr.depth (KX _ _ lk) rfl lim (PySem.W.codeRec_of KX T.code) rfl hbd hcell hkd (fun h₀ hns kp => ?_) S.co S.gen S.kind
  have I : Inv (ncx CX P w K mg base N F f A outer s H E) [] (startF N (V.ref a :: vr) [some (.ref C)]) H { s with heap := h₀, toks := s.toks + (ps.zip (Value.ref a :: ur)).length } := inv_startN S hr.hd e0 hl r CA hns kp
  show _root_.PySem.wpAt _ _ (.func F.body (envF F f s.heap.objs.size)) (execs F.body (envF F f s.heap.objs.size)) _ _ _
  rw [hb]
  obtain ⟨cnm, cq, cN, cbs, cbm, csn, csub, cab, ccol, cdd, ck0, ck1, ck2, ck3, ck5, hC, hbm⟩ := T.ox.cls
  have hcd : PySem.W.clsIn K C = some { name := cnm, bases := cbs, mro := .ref C :: cbm, ns := cN, qualname := cq, hasDict := true, slotNames := csn, subclasses := csub, abstract := cab, collection := ccol, hasDel := false } := by
    unfold PySem.W.clsIn
    rw [hC] <;> rfl
  obtain ⟨g1, g2, vsC, g3, fl, tf, hfc, hvs, hfl⟩ := T.file
  obtain ⟨t0, hoa⟩ := exo_at I.hok ha
  have KI : K.In h₀ := I.kIn
  have hself : (fun y => List.lookup y (ps.zip (Value.ref a :: ur)).reverse) ar.arg = some (.ref a) := by
    have ndP : ps.Nodup := by
      have z := S.nd.sublist (List.take_sublist (ps.length + 1) N)
      have e : N.take (ps.length + 1) = ps ++ (["__class__"] : List Str) := S.pre
      rw [e] at z
      exact z.sublist (List.sublist_append_left _ _)
    cases ps with
    | nil => simp at hp0
    | cons p0 pr =>
      simp at hp0
      subst hp0
      show List.lookup _ (List.reverse ((_, Value.ref a) :: pr.zip ur)) = _
      rw [List.reverse_cons]
      have nm : ∀ v, (ar.arg, v) ∉ pr.zip ur := fun v hv => (List.nodup_cons.mp ndP).1 (List.of_mem_zip hv).1
      have nl : List.lookup ar.arg (pr.zip ur).reverse = none := by
        cases z : List.lookup ar.arg (pr.zip ur).reverse with
        | none => rfl
        | some v => exact absurd (List.mem_reverse.mp (PySem.mem_of_lookup z)) (nm v)
      rw [List.lookup_append, nl]
      simp [List.lookup]
  obtain ⟨pl, hev1⟩ := hev s.heap.objs.size
  refine PySem.ks_wpAt_execs_cons (PySem.ks_wpAt_Expr_any (PySem.ks_wpAt_MethodCall ?_ hev1) (show interactive (envF F f s.heap.objs.size) = false from I.quiet) rfl)
  refine PySem.ks_wpAt_super_base (env := envF F f s.heap.objs.size) hks hkc (by decide) rfl (KI _ _ lk) rfl hp rfl (KI _ _ hfc) rfl hvs hfl htop ?_
  obtain ⟨mb, hmb1, hmb2⟩ := I.mod.blt
  refine PySem.W.ks_loadName_global S.kind hks (Calls.loadGlobal_builtin (env := envF F f s.heap.objs.size) (I.mod.glob.keeps I.bk) T.sup (hmb1.keeps I.bk) ((hmb2 _ (by decide)).trans (by decide +kernel)) ⟨rfl, ?_⟩)
  refine wpAny_loadName_free S.kind hkc (by show List.lookup _ F.cl = _; rw [T.cl]; rfl) ⟨_, KI _ _ hcc, rfl⟩ ?_
  refine wpAny_loadName_local S.kind hka hns hself ?_
  refine PySem.ks_wpAny_isType_cls (KI _ _ hC) rfl ⟨rfl, ?_⟩
  refine PySem.ks_wpAny_call_super (KI _ _ hC) rfl hoa rfl (fun c e => by cases e) (PySem.W.looks_mroIn KI T.self) (fun h1 e1 k1 => ?_)
  have K1 : K.In h1 := fun b o e => k1 b o (KI b o e)
  have up := T.up
  unfold PySem.W.ks_superIn at up
  rw [hcd, Option.bind_some] at up
  have hoa1 := k1 _ _ hoa
  have IA : PySem.W.InstAt h1 a { cls := .ref C, dict := none, data := .fields #[.ref t0, .none, .none, .none, .bool false, .none] } C none := ⟨hoa1, rfl, rfl, True.intro⟩
  have naC : a ≠ C := fun z => by
    have q := K1 _ _ hC
    rw [← z, hoa1] at q
    cases q
  refine PySem.W.kxs_getMethod PySem.W.kxs_ValueError e1 (PySem.W.looks_opaque K1 T.tp) (l₀ := .ref C :: cbm) (fun A Q E s k q => wpAny_bind ((PySem.W.looks_clsIn K1 hcd) A _ E s k (wpAny_pure q))) rfl K1 up (IA.type.andThen (PySem.W.looks_subIn K1 T.ve)) naC (by decide) ?_
  have hu : (h1.push (PySem.W.kxs_mw "ValueError.__init__" a)).get? h1.objs.size = some (PySem.W.kxs_mw "ValueError.__init__" a) := Heap.get?_push_at rfl rfl
  have k2 : ∀ b o, h₀.get? b = some o → (h1.push (PySem.W.kxs_mw "ValueError.__init__" a)).get? b = some o := fun b o e => Heap.get?_push_of_some _ (k1 b o e)
  have he : starEach [.Constant (.str m) j p5] (envF F f s.heap.objs.size) = (false, eval (.Constant (.str m) j p5) (envF F f s.heap.objs.size)) :: starEach [] (envF F f s.heap.objs.size) := rfl
  rw [he]
  refine PySem.W.kxs_callWith (i := "ValueError.__init__") (x := a) rfl (PySem.Calls.evalArgs_plain ?_)
  refine Calls.spliced_cons (Calls.Constant_str (pos := p5) (k := j) ?_)
  refine Calls.spliced_nil ⟨hu, ?_⟩
  refine sup_bound (k2 _ _ (KI _ _ hC)) (k2 _ _ hoa) hu (by show 1 ≤ sizeLine; decide) (fun h2 t1 k3 hx => ?_)
  have I1 := (I.kept (h' := h1.push (PySem.W.kxs_mw "ValueError.__init__" a)) (t' := s.toks + (ps.zip (Value.ref a :: ur)).length + 1 + 1) k2)
  have J := I1.write (t' := s.toks + (ps.zip (Value.ref a :: ur)).length + 1 + 1) (x := a) (e := a) (o := exo a C none) (h' := h2) (by rw [ha]; exact True.intro) (.inl rfl) k3 ⟨_, hx⟩ (exo_ok hx)
  have eu : upd H a (exo a C none) = H := by
    funext b
    by_cases hb : b = a
    · rw [hb, upd_same, ha]
    · rw [upd_ne hb]
  rw [eu] at J
  refine wpAt_of_wpAny (wpAny_mono (ht.run [] _ _ H _ J hq) (fun fl s' hs => ?_) fun e s' hs => hs)
  have fin : ∀ {σ' : L2.St} {H' : Hp} {v : V} {u : Value}, L2.Inv (ncx CX P w K mg base N F f A outer s H E) [] σ' H' s' → L2.RelV v u → Q v H' → CE outer P w H s Q u s' :=
    fun {σ' H' v u} J rv q => ⟨v, H', J.os, J.bare, J.base, J.hok, rv, q⟩
  cases fl with
  | ret u =>
    obtain ⟨v, σ', H', J, rv, q⟩ := hs
    exact fin J rv q
  | next =>
    obtain ⟨σ', H', J, q⟩ := hs
    exact fin (v := V.non) (u := Value.none) J rfl q
  | brk =>
    obtain ⟨_, _, _, q⟩ := hs
    exact False.elim q
  | cont =>
    obtain ⟨_, _, _, q⟩ := hs
    exact False.elim q
end

/-! ### an error kept as a value -/
/-- at a: an error of the class cls, its own dict at d -/
def ExV (cls : Value) (d : Option Addr) (a : Addr) : HO := .ext fun h => ∃ (o : Obj) (vs : Array Value), h.get? a = some o ∧ Zc cls d o ∧ o.data = .fields vs
theorem exV_ok {P : Program} {w : World} {H : Hp} {h : Heap} {a : Addr} {cls : Value} {d : Option Addr} {o : Obj} {vs : Array Value} (e : h.get? a = some o) (z : Zc cls d o) (v : o.data = .fields vs) : ObjOk P w H h a (ExV cls d a) :=
  ⟨⟨o, vs, e, z, v⟩, ⟨o, e⟩, fun _ _ ⟨o', v', q, r⟩ k => ⟨o', v', k _ q, r⟩⟩
theorem exV_at {P : Program} {w : World} {H : Hp} {h : Heap} {a : Addr} {cls : Value} {d : Option Addr} (ok : HOk P w H h) (e : H a = some (ExV cls d a)) : ∃ (o : Obj) (vs : Array Value), h.get? a = some o ∧ Zc cls d o ∧ o.data = .fields vs := by
  have x : ObjOk P w H h a (.ext fun h => ∃ (o : Obj) (vs : Array Value), h.get? a = some o ∧ Zc cls d o ∧ o.data = .fields vs) := ok a _ e
  exact x.1
section
variable {X : Cx} {pins : List (Addr × Obj)} {σ : L2.St} {H : Hp} {s : Shared}
/-- an object that came behind the entry is tracked from now on -/
theorem inv_track {a : Addr} {o : HO} (I : L2.Inv X pins σ H s) (hn : H a = none) (h0 : X.s_0.heap.get? a = none) (hL : a ≠ X.env.locals) (hc : ∀ x c, X.env.cells.lookup x = some c → c ≠ a) (hp : ∀ p ∈ X.pn ++ pins, p.1 ≠ a)
    (new : ObjOk X.prog X.w (upd H a o) s.heap a o) : L2.Inv X pins σ (upd H a o) s := by
  have n0 : ∀ {b : Addr} {u : Obj}, X.s_0.heap.get? b = some u → b ≠ a := fun {b u} e z => by rw [z, h0] at e; cases e
  refine ⟨I.ok, I.os, I.bare, ⟨I.base.keep, I.base.slot, fun b u e n hx => ?_, I.base.there, fun b xs e => ?_, fun b u xs e => ?_, fun b ps e => ?_⟩, I.loc, I.cell, ?_, fun x c e => ?_, fun p hq => ?_, fun b u e => ?_, I.len⟩
  · rw [upd_ne (n0 e)]; exact I.base.free b u e n hx
  · have q := I.base.tups b xs e
    rw [upd_ne (ne_of_none q hn)]; exact q
  · have q := I.base.frzs b u xs e
    rw [upd_ne (ne_of_none q hn)]; exact q
  · obtain ⟨m, q⟩ := I.base.tbls b ps e
    exact ⟨m, by rw [upd_ne (ne_of_none q hn)]; exact q⟩
  · rw [upd_ne (Ne.symm hL)]; exact I.free
  · rw [upd_ne (hc x c e)]; exact I.freeC x c e
  · obtain ⟨q1, q2, q3, q4, q5⟩ := I.pin p hq
    exact ⟨q1, by rw [upd_ne (hp p hq)]; exact q2, q3, q4, q5⟩
  · by_cases hb : b = a
    · subst hb
      rw [upd_same] at e
      cases e
      exact new
    · rw [upd_ne hb] at e
      exact (I.hok b u e).stay (fun c v _ q => q) (fun c q => by rw [upd_ne (ne_of_none q hn)]; exact q) fun c xs q => by rw [upd_ne (ne_of_none q hn)]; exact q
/-- the context of an except suite; the error is tracked, not pinned -/
abbrev sk (X : Cx) (a : Addr) : Cx := { X with A := X.A.mark (some (.ref a)), calm := false, xe := fun _ _ => False }
theorem sk_ok {X : Cx} (ok : X.Ok) (a : Addr) : (sk X a).Ok :=
  ⟨ok.mod, ok.kind, ok.glob, ok.blt, ok.above, ok.inj, ok.has, ok.cab, (fun z => absurd (show false = true from z) Bool.false_ne_true), ok.frames, ok.stk, ok.exf, ok.bs, ok.bsz, ok.noex, ok.exfs, ok.funs, ok.frf⟩
theorem sk_in (I : L2.Inv X pins σ H s) (a : Addr) : L2.Inv (sk X a) pins σ H s := ⟨sk_ok I.ok a, I.os, I.bare, I.base, I.loc, I.cell, I.free, I.freeC, I.pin, I.hok, I.len⟩
theorem sk_out {a : Addr} (I : L2.Inv (sk X a) pins σ H s) (ok : X.Ok) : L2.Inv X pins σ H s := ⟨ok, I.os, I.bare, I.base, I.loc, I.cell, I.free, I.freeC, I.pin, I.hok, I.len⟩
end
/-- what the clause «except x as n» wishes: the error is tracked in the suite and behind it -/
def wTry (K : PySem.W.Frag) (c : Value) (i : Nat) (ts : TS) (Wout : WX) (D : Ends) : WX := fun cls d σ H =>
  ∃ b, PySem.W.exmOne K cls c = some b ∧
    (b = true → ∀ a, H a = none → ts { nx := fun σ' H' => D.nx (σ'.set i none) H', rt := D.rt, bk := fun σ' H' => D.bk (σ'.set i none) H', ct := fun σ' H' => D.ct (σ'.set i none) H' } (σ.set i (some (.ref a))) (upd H a (ExV cls d a))) ∧
    (b = false → Wout cls d σ H)
section
open HandSPX
variable {X : Cx} {x n : Str} {c : Value} {i : Nat} {body suite : List Stmt} {b₀ : Stmt} {np pos pos' : Pos} {tb : WX → TS} {ts : TS} {Wout : WX}
theorem ps_tryK (hs : X.stack = X.env :: X.outer) (hf : X.env.frame = some X.env.locals) (hex : X.ex = []) (hN : X.N.Nodup) (hi : X.N[i]? = some n) (hln : X.env.kindOf n = some .local) (hc : Names X x c) (tk : Takes X Wout)
    (hb : ∀ (W : WX) (pn : List (Addr × Obj)) (xe : Value → Shared → Prop), Takes (X.tr pn xe) W → PassesOwn (model X.prog X.w) X.A X.env xe → PSs (X.tr pn xe) body (tb W))
    (hsu : ∀ a : Addr, PSs (sk X a) (b₀ :: suite) ts) :
    PS X (.Try body [.ExceptHandler (some (.Name x np)) (some n) (b₀ :: suite) pos'] [] [] pos) (fun D σ H => tb (wTry X.K c i ts Wout D) D σ H) := by
  refine ⟨fun pins s σ H D I h => ?_⟩
  have xok := I.ok
  have fr : X.A.frames = some (X.env :: X.outer) := xok.frames.trans (congrArg some hs)
  refine wpAny_Try_except (wpAny_mono ((hb (wTry X.K c i ts Wout D) (X.pn ++ pins) (fun e s₁ => wpAny (model X.prog X.w) X.A (noteFrame e X.env) (fun _ s₂ =>
    wpAny (model X.prog X.w) X.A (setFlight e none) (fun _ s₃ => wpAny (model X.prog X.w) X.A (handleBy e X.env [.ExceptHandler (some (.Name x np)) (some n) (b₀ :: suite) pos']) (SP X pins D) X.xe s₃) X.xe s₂) X.xe s₁)
    (fun u s1 hx => ?_) PassesOwn.looking).run [] s σ H D (I.toTry _) h) (fun fl s1 hsp => ?_) fun e s1 he => he)
  · obtain ⟨a, B, sI, pinz, τ, G, cls, d, rfl, J0, inB, up, sky, nG, eos, eag, b, hb1, hyes, hno⟩ := hx
    have J := J0.ofTry xok
    rw [hs] at sky
    refine Sky.land Zc.steady fr hf sky fun g3 fl3 up3 => ?_
    obtain ⟨o3, v3, ho3, hz3, hd3⟩ := fl3.there
    have offFr : ∀ {g : Heap} {o : Obj} {vs : Array Value}, g.FunFrames B (X.env :: X.outer) → g.get? a = some o → o.data = .fields vs → a ∉ frs (X.env :: X.outer) := by
      intro g o vs ff e dd hm
      obtain ⟨_, o', q, nf⟩ := ff.mem hm
      rw [e] at q
      cases q
      exact nf _ dd
    have aFr := offFr fl3.2.2.1 ho3 hd3
    have aL : a ≠ X.env.locals := fun z => aFr (List.mem_filterMap.mpr ⟨X.env, List.mem_cons_self, by rw [hf, z]⟩)
    have aB : B.get? a = none := fl3.2.1
    have notI : ∀ {o : Obj}, sI.heap.get? a ≠ some o := fun {o} q => by
      have z := inB a o q (by rw [hs]; exact aFr)
      rw [aB] at z
      cases z
    have a0 : X.s_0.heap.get? a = none := by
      cases e : X.s_0.heap.get? a with
      | none => rfl
      | some o =>
        obtain ⟨o', q⟩ := J.base.there a o e (by rw [hex]; exact fun z => nomatch z)
        exact absurd q notI
    have aC : ∀ y cc, X.env.cells.lookup y = some cc → cc ≠ a := fun y cc e z => by
      obtain ⟨v, o, q, _⟩ := J.cell y cc e
      rw [z] at q
      exact notI q
    have aP : ∀ p ∈ X.pn ++ pins, p.1 ≠ a := fun p hp z => by
      obtain ⟨q, _⟩ := J.pin p hp
      rw [z] at q
      exact notI q
    have land : ∀ g4, FlyingZ B (X.env :: X.outer) a (Zc cls d) g4 → s1.heap.UpToSlots g4 → L2.Inv X pins τ (upd G a (ExV cls d a)) { s1 with heap := g4 } := fun g4 fl4 up4 => by
      obtain ⟨o4, v4, ho4, hz4, hd4⟩ := fl4.there
      exact inv_track (J.landed inB fl4.1 (up.trans up4) eos eag) nG a0 aL aC aP (exV_ok ho4 hz4 hd4)
    have J3 := land g3 fl3 up3
    refine wpAny_handleBy_cons (codeAny_handlers_test ?_) (by intro q; cases q)
    have LM := PySem.W.exm_one (M := model X.prog X.w) J3.kIn (show PySem.W.Looks (model X.prog X.w) g3 (typeOf (.ref a)) cls from fun A Q E s k q => wpAny_typeOf_ref (k _ _ ho3) (by rw [hz3.1]; exact q)) hb1
    have S3 := sk_in J3 a
    have asks : ∀ {Q : Value → Shared → Prop} {E : Value → Shared → Prop}, Q c { s1 with heap := g3 } → wpAny (model X.prog X.w) (X.A.mark (some (.ref a))) (eval (.Name x np) X.env) Q E { s1 with heap := g3 } := by
      intro Q E q
      obtain ⟨hg, hdbg, hm | ⟨hm, hv, hnn⟩⟩ := hc
      · exact ld_glob (X := sk X a) S3 hg hm q hdbg
      · exact ld_blt (X := sk X a) S3 hg hm hv q hnn hdbg
    refine asks (LM.here ?_)
    cases b with
    | true =>
      refine codeAny_handlers_suite_as (lands_againZ fl3 fun g4 fl4 up4 => ?_)
      have J4 := sk_in (land g4 fl4 (up3.trans up4)) a
      refine store_ok (X := sk X a) (v := .ref a) J4 hN hi (.inl hln) rfl (fun s5 J5 => ?_) (.inr hln)
      refine wpAny_mono ((hsu a).run pins s5 _ _ _ J5 (hyes rfl a nG)) (fun f6 s6 h6 => ?_) fun _ _ z => False.elim z
      cases f6 with
      | next =>
        obtain ⟨τ6, H6, J6, q6⟩ := h6
        exact gone_ok (sk_out J6 xok) hN hi hln fun s7 J7 => ⟨_, _, J7, q6⟩
      | brk =>
        obtain ⟨τ6, H6, J6, q6⟩ := h6
        exact gone_ok (sk_out J6 xok) hN hi hln fun s7 J7 => ⟨_, _, J7, q6⟩
      | cont =>
        obtain ⟨τ6, H6, J6, q6⟩ := h6
        exact gone_ok (sk_out J6 xok) hN hi hln fun s7 J7 => ⟨_, _, J7, q6⟩
      | ret u =>
        obtain ⟨v6, τ6, H6, J6, r6, q6⟩ := h6
        exact gone_ok (sk_out J6 xok) hN hi hln fun s7 J7 => ⟨_, _, _, J7, r6, q6⟩
    | false =>
      refine wpAny_handleBy_nil ?_
      obtain ⟨_, _, _, oe, vs, T, oT, tv, he, hz, hd, h1, hr⟩ := id fl3
      unfold PySem.passOn
      refine wpAny_bind (wpAny_field he hd h1 ?_)
      rw [if_neg (show ¬ ((Value.ref T == Value.none) = true) from by simp)]
      have fin : wpAny (model X.prog X.w) X.A (setFlight (.ref a) X.env.frame) (fun _ s4 => wpAny (model X.prog X.w) X.A (throw (.ref a) : Sem Flow) (SP X pins D) X.xe s4) X.xe { s1 with heap := g3 } := by
        rw [hf]
        exact setFlight_upZ fl3 fun g4 hh4 up4 => wpAny_throw (tk _ _ ⟨a, B, sI, pins, τ, G, cls, d, rfl, J, inB, (up.trans up3).trans up4, .inr (.inr (by rw [hs]; exact hh4)), nG, eos, eag, hno rfl⟩)
      first
        | exact wpAny_bind (wpAny_pure (wpAny_bind fin))
        | exact wpAny_bind fin
  · cases fl with
    | next =>
      obtain ⟨τ, G, J, q⟩ := hsp
      exact wpAny_execs_nil ⟨τ, G, J.ofTry xok, q⟩
    | brk =>
      obtain ⟨τ, G, J, q⟩ := hsp
      exact ⟨τ, G, J.ofTry xok, q⟩
    | cont =>
      obtain ⟨τ, G, J, q⟩ := hsp
      exact ⟨τ, G, J.ofTry xok, q⟩
    | ret u =>
      obtain ⟨v, τ, G, J, r, q⟩ := hsp
      exact ⟨v, τ, G, J.ofTry xok, r, q⟩
end

/-! ### asked: its fields, its class -/
/-- the own dict's object of an error -/
def DcV (H : Hp) (d : Option Addr) : Prop := d = none ∨ ∃ dd fs, d = some dd ∧ H dd = some (.xd fs)
/-- what an own error class must say -/
structure ErrC (K : PySem.W.Frag) (C : Addr) : Prop where
  ga : PySem.W.findIn K (.ref C) "__getattribute__" = some (some (.builtin "BaseException.__getattribute__"))
  gg : PySem.W.findIn K (.ref C) "__getattr__" = some none
  ex : PySem.W.subIn K (.ref C) (.type "BaseException") = some true
  hd : PySem.W.hasDictIn K C = true
  ca : PySem.W.findIn K (.ref C) "__class__" = some (some (.builtin "object.__class__"))
  hn : PySem.W.specialIn K (.builtin "object.__class__") "__get__" = some (some (.builtin "getset_descriptor.__get__"))
  tk : PySem.W.takesIn K (.builtin "object.__class__") = some true
  ob : PySem.W.mroIn K C (.type "object") = some true
  ty : PySem.W.typeIn K (.ref C) = some (.type "type")
theorem ErrC.cls {K : PySem.W.Frag} {C : Addr} (T : ErrC K C) : (PySem.W.clsIn K C).isSome = true := by
  obtain ⟨cd, hc, _⟩ := PySem.W.any_some T.hd
  rw [hc]
  rfl
/-- isinstance(e, D) of two classes of the program -/
theorem ErrC.one {K : PySem.W.Frag} {C D : Addr} {b : Bool} (T : ErrC K D) (h : PySem.W.subIn K (.ref C) (.ref D) = some b) (hb : C = D → b = true) : PySem.W.kitOne K (.ref C) (.ref D) = some b := by
  unfold PySem.W.kitOne
  by_cases e : C = D
  · subst e
    rw [if_pos (by simp), hb rfl]
  · rw [if_neg (by simp [e])]
    have q : ((PySem.W.clsIn K D).isSome && PySem.W.typeIn K (.ref D) == some (.type "type")) = true := by rw [T.cls, T.ty] <;> rfl
    show (if ((PySem.W.clsIn K D).isSome && PySem.W.typeIn K (.ref D) == some (.type "type")) = true then PySem.W.subIn K (.ref C) (.ref D) else none) = some b
    rw [if_pos q]
    exact h
section
variable {X : Cx} {pins : List (Addr × Obj)} {σ : L2.St} {H : Hp} {s : Shared}
theorem exv_inst {a C : Addr} {d : Option Addr} (I : L2.Inv X pins σ H s) (ha : H a = some (ExV (.ref C) d a)) (hd : DcV H d) : ∃ ox od, PySem.W.InstAt s.heap a ox C od := by
  obtain ⟨⟨oc, odd, oda, osl⟩, vs, e, ⟨z1, z2⟩, z3⟩ := exV_at I.hok ha
  dsimp only at z1 z2 z3
  subst z1 z2 z3
  rcases hd with rfl | ⟨dd, fs, rfl, hf⟩
  · exact ⟨_, none, e, rfl, rfl, True.intro⟩
  · obtain ⟨mA, ⟨oD, es, ep, hD, _⟩, _⟩ := (show ObjOk X.prog X.w H s.heap dd (.xd fs) from I.hok dd _ hf)
    exact ⟨_, some oD, e, rfl, rfl, hD⟩
/-- isinstance(e, c) of an error that is kept -/
def rIsV (K : PySem.W.Frag) : List V → Hp → VK → Prop := fun xs H Q => ∃ (a C : Addr) (d : Option Addr) (c : V) (u : Value) (b : Bool), xs = [.ref a, c] ∧ H a = some (ExV (.ref C) d a) ∧ DcV H d ∧ ErrC K C ∧ ClsV c u ∧ PySem.W.kitOne K (.ref C) u = some b ∧ Q (.bl b) H
theorem call_isV : CallR X (.builtin "isinstance") (rIsV X.K) := by
  intro pins s σ H xs us Q I r h
  obtain ⟨a, C, d, c, u, b, rfl, ha, hd, T, k, e, q⟩ := h
  obtain ⟨u1, u2, rfl, r1, r2⟩ := vals2 r
  have e2 := k.eq r2
  subst e2
  obtain rfl : u1 = Value.ref a := r1
  obtain ⟨ox, od, IA⟩ := exv_inst I ha hd
  exact PySem.W.kia_one (PySem.W.kitx_exc T.cls T.ga T.gg T.ex T.ca T.hn T.tk T.ob) I.kIn IA e (fun z => nomatch z) fun tk => ⟨.bl b, H, I.tok tk, rfl, q⟩
/-- e.f of an error that is kept -/
def tXa (K : PySem.W.Frag) (f : Str) (te : TE) : TE := fun σ H Q => te σ H fun x H1 => ∃ (a C dd : Addr) (fs : List (Str × V)) (v : V), x = .ref a ∧ H1 a = some (ExV (.ref C) (some dd) a) ∧ H1 dd = some (.xd fs) ∧ ErrC K C ∧ PySem.W.findIn K (.ref C) f = some none ∧ fs.lookup f = some v ∧ Q v H1
theorem pe_xa {e : Expr} {te : TE} {pos : Pos} {n : Str} (he : PE X e te) (hb : attributeBase e n X.env (eval e X.env) = eval e X.env := by rfl) : PE X (.Attribute e n pos) (tXa X.K n te) := by
  refine ⟨fun pins s σ H Q I h => ?_⟩
  refine attr_of hb (thn (he.run pins s σ H _ I h) fun u s1 hh => ?_)
  obtain ⟨x, H1, I1, rx, a, C, dd, fs, v, ex, ea, ed, T, hno, l, q⟩ := hh
  subst ex
  obtain rfl : u = Value.ref a := rx
  obtain ⟨o, vs, e1, ⟨z1, z2⟩, z3⟩ := exV_at I1.hok ea
  obtain ⟨mA, hns, hr⟩ := (show ObjOk X.prog X.w H1 s1.heap dd (.xd fs) from I1.hok dd _ ed)
  obtain ⟨od, ho, hl⟩ := lookIn_ns hns
  obtain ⟨u, hu, ru⟩ := RelO.some_of (v := v) (o := mA n) (by rw [← l]; exact hr n)
  have J : PySem.W.InstAt s1.heap a o C (some od) := ⟨e1, z1, by unfold PySem.W.notCls; rw [z3] <;> rfl, by rw [z2]; exact ho⟩
  exact HandSPX.exc_get I1.kIn J T.ga T.gg T.ex (PySem.W.findObj_own T.hd hno rfl (by rw [hl, hu])) (handed_of ru) ⟨v, H1, I1.tok _, ru, q⟩
end

/-! ### repr of data, where no repr is under way -/
section
variable {X : Cx}
def rRepr (K : PySem.W.Frag) : List V → Hp → VK → Prop := fun xs H Q => ∃ (x : V) (d : PyData), xs = [x] ∧ Dp K H x d ∧ (∃ a, x = .ref a) ∧ d.showable = true ∧ d.hasDict = false ∧ d.depth ≤ 64 ∧ d.shown.length ≤ sizeLine ∧ Q (.str d.shown) H
theorem call_repr (hg : X.A.guards = some []) (hu : X.A.units + 65 < cLine) : CallR X (.builtin "repr") (rRepr X.K) := by
  intro pins s σ H xs us Q I r h
  obtain ⟨x, d, rfl, hd, ⟨a, rfl⟩, h1, h2, h3, h4, q⟩ := h
  cases r with
  | @cons _ u0 _ ur ra rr =>
  cases rr
  obtain rfl : u0 = Value.ref a := ra
  obtain ⟨as, rds⟩ := Dp.reads I d (.ref a) (.ref a) hd rfl
  exact PySem.repr_of_reads' rds h1 (fun z => by rw [h2] at z; cases z) hg (by omega) (fun _ _ e => e) (fun h' u tk k => ⟨.str d.shown, H, I.kept (t' := tk) k, ⟨_, rfl⟩, q⟩) h4
end
section
variable {X : Cx} {CX : CXT} {k : Nat} {x : Str} {ps : List Str} {sp : Sp} {p pos : Pos} {e : Expr} {es : List Expr} {t : TA} {E : L2.St → XK}
theorem pe_fS (F : FnAt X.prog X.w X.K X.mg X.base CX k x ps sp) (hr : Room k X.A) (hg : Gl X x) (hx : ∀ σ, PassesAt CX X σ (E σ)) (ha : PA X (e :: es) t) (hdb : (x == ("__debug__" : Str)) = false := by decide)
    (he : starEach (e :: es) X.env = (false, eval e X.env) :: starEach es X.env := by rfl) (hpl : (backTo pos (starEach es X.env)).any (·.1) = false := by rfl) :
    PE X (.Call (.Name x p) (e :: es) [] pos) (tCallS sp E t) := by
  obtain ⟨f, fd, e1, e2, e3, e4, _⟩ := F
  exact pe_callS e4 hr hg e1 e2 e3 hx ha hdb he hpl
end
end My

set_option Elab.async false
set_option linter.all false
set_option maxRecDepth 100000
set_option maxHeartbeats 4000000
/-! Defs that are called where no repr is under way (repr asks that of the stack). -/
namespace My
open PySem L2 PyProof.Rows
/-- as FnOk, for calls where no repr is under way -/
structure FnG (P : Program) (w : World) (K : PySem.W.Frag) (mg : Str → Option Value) (base : Heap) (CX : CXT) (k : Nat) (f : Addr) (fd : FuncData) (ps : List Str) (sp : Sp) : Prop where
  len : ∀ vs H Q E, sp vs H Q E → vs.length = ps.length
  run : ∀ (A : Around) (outer : List Env) (s : Shared) (H : Hp) (args : Args) (us : List Value) (vs : List V) (Q : VK) (E : XK), A.guards = some [] → Room k A → Env0 P w K mg base A outer s H → BindsTo s fd args (ps.zip us) → Vals vs us → sp vs H Q E →
    codeAny (model P w) A (.call (.ref f) args) (CR CX outer P w H s Q E) s
section
variable {P : Program} {w : World} {K : PySem.W.Frag} {mg : Str → Option Value} {base : Heap} {CX : CXT}
theorem FnG.of {k : Nat} {f : Addr} {fd : FuncData} {ps : List Str} {sp : Sp} (F : FnOk P w K mg base CX k f fd ps sp) : FnG P w K mg base CX k f fd ps sp := ⟨F.len, fun A o s H a us vs Q E _ hr => F.run A o s H a us vs Q E hr⟩
theorem fn_g {x qual : Str} {st : Stmt} {f : Addr} {fd : FuncData} {N ps : List Str} {k : Nat} {sp : Sp} (F : Fun K x qual st f fd) (S : FnScope N ps (defScope st)) (len : ∀ vs H Q E, sp vs H Q E → vs.length = ps.length)
    (hbody : ∀ (cdv : Value) (A : Around) (outer : List Env) (s : Shared) (H : Hp) (vs : List V) (Q : VK) (E : XK), (A.deeper (envOfC qual (defScope st) s.heap.objs.size f cdv)).guards = some [] → Room k (A.deeper (envOfC qual (defScope st) s.heap.objs.size f cdv)) → sp vs H Q E →
      ∃ t, PSs (cxOf CX0 P w K mg base N qual (defScope st) f cdv A outer s H E).nox (defBody st) t ∧ t { nx := fun _ H' => Q .non H', rt := Q } (L2.start N vs) H) : FnG P w K mg base CX0 (k + 1) f fd ps sp := by
  obtain ⟨oc, od, kV, doc, pm, an, cdv, ct, osl, rfl, lk, hcd⟩ := F.ex
  refine ⟨len, fun A outer s H args us vs Q E hg hr e0 hb r hsp => ?_⟩
  have hl := len _ _ _ _ hsp
  have st0 : base.StaysIn s.heap := fun b o e => (e0.bs b o e).1
  have kin := e0.mod.kin.keeps st0
  refine codeAny_call_function hr.depth (kin _ _ lk) rfl S.co S.gen rfl (PySem.W.codeRec_of kin hcd) (hb _ _ _ _ (wpAny_newFunctionEnv_cells S.kind (fun ⟨n, v⟩ hy => ?_) fun env he s1 x => ?_))
  · rcases S.par n (List.of_mem_zip hy).1 with q | q
    · exact .inl q
    · exact .inr ⟨q, PySem.W.cellsFrom_some _ _ _ (.inl q)⟩
  subst he
  refine ⟨(e0.mod.nolimit.keeps st0).keeps x.toInCall.keep, codeAny_func ?_⟩
  obtain ⟨t, ht, hq⟩ := hbody cdv A outer s H vs Q E hg (hr.deeper _) hsp
  have I0 := inv_start (CX := CX0) (E := E) (cd := cdv) (f := f) (qual := qual) S hr.hd e0 hl r x
  refine wpAny_mono (ht.nox.run [] s1 _ H _ I0 hq) (fun fl s' hs => ?_) fun e s' hs => hs
  have out : ∀ {τ : L2.St} {G : Hp} {v : V} {u : Value}, L2.Inv (cxOf CX0 P w K mg base N qual (defScope st) f cdv A outer s H E) [] τ G s' → RelV v u → Q v G → CE outer P w H s Q u s' := by
    intro τ G v u J rv q
    exact ⟨v, G, J.os, J.bare, J.base, J.hok, rv, q⟩
  cases fl with
  | next =>
    obtain ⟨τ, G, J, q⟩ := hs
    exact out (v := V.non) (u := Value.none) J rfl q
  | ret u =>
    obtain ⟨v, τ, G, J, rv, q⟩ := hs
    exact out J rv q
  | brk =>
    obtain ⟨_, _, _, q⟩ := hs
    exact q.elim
  | cont =>
    obtain ⟨_, _, _, q⟩ := hs
    exact q.elim
def FnAtG (P : Program) (w : World) (K : PySem.W.Frag) (mg : Str → Option Value) (base : Heap) (CX : CXT) (k : Nat) (x : Str) (ps : List Str) (sp : Sp) : Prop :=
  ∃ (f : Addr) (fd : FuncData), mg x = some (.ref f) ∧ PySem.W.keepIn K (.ref f) = true ∧ Binds K fd ps [] ∧ FnG P w K mg base CX k f fd ps sp ∧ ∃ oc od osl, K.lookup f = some ⟨oc, od, .func fd, osl⟩
theorem FnAtG.mk {k : Nat} {x : Str} {ps : List Str} {sp : Sp} {st : Stmt} (D : DefAt K mg x st) (hb : ∀ (kV doc pm : Value) (an : Option Addr) (cdv ct : Value) (us : List Value), us.length = ps.length → bindArgs (PySem.W.fnOf x x (defArgs st) (defBody st) (defScope st) .none kV doc pm an cdv ct) ⟨us, []⟩ = pure (ps.zip us))
    (h : ∀ f fd, Fun K x x st f fd → FnG P w K mg base CX k f fd ps sp) : FnAtG P w K mg base CX k x ps sp := by
  obtain ⟨f, fd, e, F⟩ := D
  refine ⟨f, fd, e, F.kp, F.binds hb, h f fd F, ?_⟩
  obtain ⟨oc, od, kV, doc, pm, an, cdv, ct, osl, rfl, lk, hcd⟩ := F.ex
  exact ⟨oc, od, osl, lk⟩
end
section
variable {X : Cx} {CX : CXT} {k : Nat} {x : Str} {ps : List Str} {sp : Sp} {p pos : Pos} {e : Expr} {es : List Expr} {t : TA}
theorem pe_fG (hg : X.A.guards = some []) (F : FnAtG X.prog X.w X.K X.mg X.base CX0 k x ps sp) (hr : Room k X.A) (hgl : Gl X x) (ha : PA X (e :: es) t) (hdb : (x == ("__debug__" : Str)) = false := by decide)
    (he : starEach (e :: es) X.env = (false, eval e X.env) :: starEach es X.env := by rfl) (hpl : (backTo pos (starEach es X.env)).any (·.1) = false := by rfl) :
    PE X (.Call (.Name x p) (e :: es) [] pos) (tCall sp [] E0 t) := by
  obtain ⟨f, fd, hm, hk, hb, F, _⟩ := F
  refine ⟨fun pins s σ H Q I h => wpAny_Call_Name_kw (ld_glob I hgl hm ?_ hdb)⟩
  refine PySem.W.callWith_K (h₀ := X.base) I.ok.mod.kin hk (thn (ha.run pos pins s σ H _ I h) fun us s1 ⟨vs, H1, I1, r, q⟩ => ⟨I1.kIn, ?_⟩) he hpl
  have q : sp vs H1 Q E0 := by
    have z : sp (vs ++ []) H1 Q E0 := q
    rw [List.append_nil] at z
    exact z
  have hl : us.length = ps.length := by
    rw [← r.length]
    exact F.len _ _ _ _ q
  have hb2 := hb s1 us I1.kIn (by rw [List.append_nil]; exact hl)
  rw [List.append_nil] at hb2
  refine wpAny_call (codeAny_mono (F.run X.A X.stack s1 H1 ⟨us, []⟩ us vs Q E0 hg hr I1.env0 hb2 r q) fun rr s' hq => ?_)
  cases rr with
  | error e => exact hq.elim
  | ok fl =>
    cases fl with
    | ret u => exact I1.after hq
    | next => exact hq.elim
    | brk => exact hq.elim
    | cont => exact hq.elim
end

/-! ### the law's own call -/
section
variable {P : Program} {w : World} {K : PySem.W.Frag} {mg mb : Str → Option Value} {k : Nat} {fa a : Addr} {fd : FuncData} {x : Str} {sp : Sp} {s1 : Shared} {vs : List Value} {ns : List Int}
theorem law_callG (kin : K.In s1.heap) (hns : s1.heap.Ns mainGlobals mg) (hb : s1.heap.Ns builtinsNs mb) (hbb : ∀ x : Str, x ≠ "__name__" → mb x = bootBuiltins x) (lim : s1.heap.NoLimit) (hg : s1.gens = #[])
    (ha : s1.heap.get? a = some { cls := .type "list", data := .seq vs.toArray }) (hi : IntsAre vs ns) (hl : ns.length ≤ sizeLine) (hr : Room k callerA)
    (F : ∀ base : Heap, K.In base → base.Ns mainGlobals mg → FnG P w K mg base CX0 k fa fd [x] sp) (hbd : ∀ (s : Shared) (u : Value), BindsTo s fd ⟨[u], []⟩ [(x, u)])
    (hsp : ∀ H : Hp, Only H → SqL K H a (ns.map V.int) → sp [.ref a] H (fun v _ => v = .bl true) fun _ _ _ => False) :
    codeAny (model P w) callerA (.call (.ref fa) ⟨[.ref a], []⟩) (fun r s' => r = .ok (.ret (.bool true)) ∧ OldK s1.heap s'.heap ∧ s'.os = s1.os ∧ AllBare s'.gens) s1 := by
  have rv := vals_ints hi
  have core : ∀ H : Hp, Only H → SqL K H a (ns.map V.int) → HOk P w H s1.heap → (∀ b, H b ≠ none → b = a) → (H a ≠ none → K.lookup a = none) →
      codeAny (model P w) callerA (.call (.ref fa) ⟨[.ref a], []⟩) (fun r s' => r = .ok (.ret (.bool true)) ∧ OldK s1.heap s'.heap ∧ s'.os = s1.os ∧ AllBare s'.gens) s1 := by
    intro H hO hS ok only knone
    have free : ∀ {b : Addr} {o : Obj}, s1.heap.get? b = some o → (b = a → False) → H b = none := fun {b o} _ n => by
      cases q : H b with
      | none => rfl
      | some u => exact (n (only b (by rw [q]; simp))).elim
    have dictFree : ∀ {b : Addr} {o : Obj} {es : Array DictEntry} {ep : Nat}, s1.heap.get? b = some o → o.data = .dict es ep → H b = none := fun {b o es ep} e d => free e fun z => by
      rw [z, ha] at e
      cases e
      cases (d : Data.seq vs.toArray _ = Data.dict es ep)
    have nsB : ∀ {b : Addr} {m : Str → Option Value}, s1.heap.Ns b m → (hidT s1.heap H).Ns b m := fun {b m} ⟨o, es, ep, e, d, r⟩ => ⟨o, es, ep, hidT_get e (dictFree e d), d, r⟩
    have kinB : K.In (hidT s1.heap H) := fun b o e => hidT_get (kin b o e) (by
      cases q : H b with
      | none => rfl
      | some u =>
        have z := only b (by rw [q]; simp)
        subst z
        rw [knone (by rw [q]; simp)] at e
        cases e)
    have md : Mod K mg (hidT s1.heap H) := ⟨kinB, nsB hns, ⟨mb, nsB hb, hbb⟩, let ⟨mc, h1, h2⟩ := lim; ⟨mc, nsB h1, h2⟩⟩
    have nofr : ∀ b : Addr, b ∉ frs ([] : List Env) := fun b z => nomatch (show b ∈ ([] : List Addr) from z)
    have e0 : Env0 P w K mg (hidT s1.heap H) callerA [] s1 H := ⟨rfl, md, fun b o e => of_hidT e, Nat.le_of_eq (hidT_size _ _), trivial, fun b z => (nofr b z).elim, ok, .of_eq hg⟩
    refine codeAny_mono ((F _ kinB (nsB hns)).run callerA [] s1 H ⟨[.ref a], []⟩ [.ref a] [.ref a] _ _ rfl hr e0 (hbd s1 (.ref a)) (.cons rfl .nil) (hsp H hO hS)) fun r s' h => ?_
    cases r with
    | error e => exact False.elim (show False from h)
    | ok fl =>
      cases fl with
      | next => exact h.elim
      | brk => exact h.elim
      | cont => exact h.elim
      | ret u =>
        obtain ⟨v, H2, os2, bare2, un2, ok2, r2, q2⟩ := h
        obtain rfl : v = V.bl true := q2
        obtain rfl : u = Value.bool true := r2
        refine ⟨rfl, OldK.of_keep fun b o e => ?_, os2, bare2⟩
        rcases hO b with z | ⟨ob, xs, z⟩
        · exact un2.keep b o e z (nofr b) (fun z => nomatch z)
        · obtain ⟨q1, _⟩ := ok b _ z
          obtain ⟨q2, _⟩ := ok2 b _ (un2.frzs b ob _ z)
          rw [e] at q1
          cases q1
          exact q2
  cases hk : K.lookup a with
  | some o =>
    have e := kin a o hk
    rw [ha] at e
    cases e
    refine core (fun _ => none) (fun _ => .inl rfl) (.inr ⟨_, vs.toArray, _, hk, rfl, rfl, rfl, by rw [List.size_toArray, hi.length]; exact hl, by simpa using rv⟩) (fun b u z => nomatch (show (none : Option HO) = some u from z)) (fun b z => absurd rfl z) fun z => absurd rfl z
  | none =>
    obtain ⟨G, hG⟩ : ∃ G : Hp, G = fun b => if b = a then some (.frz { cls := .type "list", data := .seq vs.toArray } (.lst (ns.map V.int))) else none := ⟨_, rfl⟩
    have ga : G a = some (.frz { cls := .type "list", data := .seq vs.toArray } (.lst (ns.map V.int))) := by rw [hG]; exact if_pos rfl
    have gn : ∀ b, b ≠ a → G b = none := fun b n => by rw [hG]; exact if_neg n
    refine core G (fun b => ?_) (.inl (.inr ⟨_, ga⟩)) (fun b u z => ?_) (fun b z => ?_) fun _ => hk
    · by_cases hb : b = a
      · exact .inr ⟨_, _, hb ▸ ga⟩
      · exact .inl (gn b hb)
    · by_cases hb : b = a
      · subst hb
        rw [ga] at z
        cases z
        exact ⟨ha, by rw [List.length_map]; exact hl, vs, _, rv, ha⟩
      · rw [gn b hb] at z
        cases z
    · by_cases hb : b = a
      · exact hb
      · exact absurd (gn b hb) z
end
theorem walk_g {l : PySem.W.OpenLaw} {n k : Nat} {q : Program} {loose : List Str} {XP : (Str → Option Value) → Heap → Prop} {YP : World → Heap → Prop} {d : DefRec} {K : Params → PySem.W.Frag} {sp : PySem.W.Frag → Sp} {x : Str}
    (hn : l.most = some n) (hn2 : n ≤ sizeLine) (hdf : d.params.defaults = []) (hr : Room k callerA) (hY : ∀ (w : World) (h : Heap), YP w h → (K w.params).In h)
    (F : ∀ (w : World) (mg : Str → Option Value) (fa : Addr) (h : Heap), (K w.params).In h → h.Ns mainGlobals mg → mg d.name = some (.ref fa) →
      ∃ fd : FuncData, (∀ (s : Shared) (u : Value), BindsTo s fd ⟨[u], []⟩ [(x, u)]) ∧ ∀ base : Heap, (K w.params).In base → base.Ns mainGlobals mg → FnG l.prog w (K w.params) mg base CX0 k fa fd [x] (sp (K w.params)))
    (hsp : ∀ (K : PySem.W.Frag) (H : Hp) (a : Addr) (ns : List Int), ns.length ≤ n → Only H → SqL K H a (ns.map V.int) → sp K [.ref a] H (fun v _ => v = .bl true) fun _ _ _ => False) :
    PySem.W.WalkO q loose XP YP l.row.toRowW d [] (fun f vs => PySem.call f vs) := by
  refine Att.attach_call hn hdf fun w s0 s1 mg mb fa o pm cd doc a vs ns G Y ho hd hcd hmg hobj hints hlen hg => ?_
  obtain ⟨fd, hb, hF⟩ := F w mg fa _ (hY w _ Y) G.T.g hmg
  exact law_callG (hY w _ Y) G.T.g G.T.b G.T.builtins G.T.nolimit hg hobj hints (Nat.le_trans hlen hn2) hr hF hb fun H hO hS => hsp _ H a ns hlen hO hS
end My

set_option Elab.async false
set_option linter.all false
set_option maxRecDepth 100000
set_option maxHeartbeats 4000000
/-! The head by one kernel run: what the top has written, told by a Bool of one's own over the written part. -/
namespace My
open PySem L2 PyProof.Rows
/-- the function of an __init__ that says super() -/
def nfI (st : Stmt) (q : Str) (cc c : Addr) : NdefX.NF := ⟨"__init__", q, defArgs st, defBody st, defScope st, [("__class__", cc)], c⟩
abbrev FnC : Type := Option (Str × Str × Arguments × FuncBody × Scope × Addr × List Str × Addr)
def fnC (K : PySem.W.Frag) (a : Addr) : FnC := match K.lookup a with
  | some ⟨_, _, .func fd, _⟩ => some (fd.name, fd.qualname, fd.params, fd.body, fd.scope, fd.globals, fd.closure.map (·.1), fd.builtins)
  | _ => none
/-- the __init__ of the class cls -/
structure IniD where
  cls : Str
  qual : Str
  st : Stmt
def IniD.val (d : IniD) : FnC := some ("__init__", d.qual, defArgs d.st, .stmts (defBody d.st), defScope d.st, mainGlobals, ["__class__"], builtinsNs)
def IniD.f (K : PySem.W.Frag) (d : IniD) : Addr := He.ma K (He.ga K d.cls) "__init__"
def ccOf (K : PySem.W.Frag) (f : Addr) : Addr := match K.lookup f with
  | some ⟨_, _, .func fd, _⟩ => (match fd.closure with
    | (_, c) :: _ => c
    | _ => 0)
  | _ => 0
def cdOf (K : PySem.W.Frag) (f : Addr) : Addr := match K.lookup f with
  | some ⟨_, _, .func fd, _⟩ => (match fd.code with
    | .ref c => c
    | _ => 0)
  | _ => 0
def eqV (a b : Option Value) : Bool := decide (a = b)
def eqB (a b : Option Bool) : Bool := decide (a = b)
def plainB (K : PySem.W.Frag) (f : Addr) : Bool := match K.lookup f with
  | some ⟨_, _, .func fd, _⟩ => decide (fd.defaults = .none) && (decide (fd.kwdefaults = .none) && (decide (fd.annotations = none) && decide (fd.code = .ref (cdOf K f))))
  | _ => false
def cellB (K : PySem.W.Frag) (cc C : Addr) : Bool := match K.lookup cc with
  | some ⟨_, _, .cell (some (.ref D)), _⟩ => decide (D = C)
  | _ => false
def fileB (K : PySem.W.Frag) (file : Str) (c : Addr) : Bool := match K.lookup c with
  | some ⟨_, _, .fields vs, _⟩ => (match vs[2]? with
    | some (Value.str fl _) => file == fl
    | _ => false)
  | _ => false
def oexB (K : PySem.W.Frag) (C : Addr) : Bool := match K.lookup C with
  | some ⟨.type "type", _, .cls cd, sl⟩ => (match cd.mro, sl.toList with
    | .ref C' :: bm, [_, _, _, _, some (.builtin n), _] => decide (C' = C) && (decide (n = "ValueError.__new__") && (!cd.hasDel && (cd.hasDict && PySem.HandSPX.refsVE bm)))
    | _, _ => false)
  | _ => false
/-- what an own error class must say, as a Bool -/
def errB (K : PySem.W.Frag) (C : Addr) : Bool :=
  He.eqO (PySem.W.findIn K (.ref C) "__getattribute__") (some (some (.builtin "BaseException.__getattribute__"))) && (He.eqO (PySem.W.findIn K (.ref C) "__getattr__") (some none) &&
  (eqB (PySem.W.subIn K (.ref C) (.type "BaseException")) (some true) && (PySem.W.hasDictIn K C && (He.eqO (PySem.W.findIn K (.ref C) "__class__") (some (some (.builtin "object.__class__"))) &&
  (He.eqO (PySem.W.specialIn K (.builtin "object.__class__") "__get__") (some (some (.builtin "getset_descriptor.__get__"))) && (eqB (PySem.W.takesIn K (.builtin "object.__class__")) (some true) &&
  (eqB (PySem.W.mroIn K C (.type "object")) (some true) && eqV (PySem.W.typeIn K (.ref C)) (some (.type "type")))))))))
def supB (file : Str) (K : PySem.W.Frag) (d : IniD) : Bool :=
  oexB K (He.ga K d.cls) && (He.eqO (PySem.W.findIn K (.ref (He.ga K d.cls)) "__setattr__") (some (some (.builtin "object.__setattr__"))) && (eqB (PySem.W.subIn K (.ref (He.ga K d.cls)) (.type "BaseException")) (some true) &&
  (eqV (PySem.W.typeIn K (.ref (He.ga K d.cls))) (some (.type "type")) && (PySem.W.keepIn K (.ref (He.ga K d.cls)) &&
  (plainB K (d.f K) && (PySem.W.codeIn K (.ref (cdOf K (d.f K))) d.qual && (cellB K (ccOf K (d.f K)) (He.ga K d.cls) && (fileB K file (cdOf K (d.f K)) &&
  (eqB (PySem.W.mroIn K (He.ga K d.cls) (.ref (He.ga K d.cls))) (some true) && (eqB (PySem.W.subIn K (.ref (He.ga K d.cls)) (.type "ValueError")) (some true) &&
  (decide (PySem.W.ks_superIn K (He.ga K d.cls) (He.ga K d.cls) "__init__" = some (some (.builtin "ValueError.__init__"))) && (He.eqO (PySem.W.nsIn K cStatics "thirdparty.any") (some none) &&
  (He.eqO (PySem.W.findIn K (.ref (He.ga K d.cls)) "__init__") (some (some (.ref (d.f K)))) && eqV (PySem.W.typeIn K (.ref (d.f K))) (some (.type "function")))))))))))))))
theorem ba {a b : Bool} (h : (a && b) = true) : a = true ∧ b = true := Bool.and_eq_true_iff.mp h
theorem oexB_ok {K : PySem.W.Frag} {C : Addr} (h : oexB K C = true) : ∃ nm q N bs bm sn sub ab col dd k0 k1 k2 k3 k5, K.lookup C = some (excClassObj nm q C N bs bm true sn sub ab col dd k0 k1 k2 k3 k5 "ValueError.__new__") ∧ PySem.HandSPX.refsVE bm = true := by
  unfold oexB at h
  split at h
  · rename_i dd cd sl ho
    split at h
    · rename_i C' bm k0 k1 k2 k3 n k5 hm hs
      simp only [Bool.and_eq_true, decide_eq_true_eq, Bool.not_eq_true'] at h
      obtain ⟨rfl, rfl, hdel, hdi, ht⟩ := h
      obtain ⟨nm, bs, mro, ns, qn, hd, sn, sub, ab, col, del⟩ := cd
      dsimp only at hm hdel hdi
      subst hm hdel hdi
      have hsl : sl = #[k0, k1, k2, k3, some (.builtin "ValueError.__new__"), k5] := by
        obtain ⟨l⟩ := sl
        simp only at hs
        rw [hs]
      subst hsl
      exact ⟨nm, qn, ns, bs, bm, sn, sub, ab, col, dd, k0, k1, k2, k3, k5, ho, ht⟩
    · cases h
  · cases h
theorem errB_ok {K : PySem.W.Frag} {C : Addr} (h : errB K C = true) : ErrC K C := by
  obtain ⟨h1, h⟩ := ba h
  obtain ⟨h2, h⟩ := ba h
  obtain ⟨h3, h⟩ := ba h
  obtain ⟨h4, h⟩ := ba h
  obtain ⟨h5, h⟩ := ba h
  obtain ⟨h6, h⟩ := ba h
  obtain ⟨h7, h⟩ := ba h
  obtain ⟨h8, h9⟩ := ba h
  exact ⟨of_decide_eq_true h1, of_decide_eq_true h2, of_decide_eq_true h3, h4, of_decide_eq_true h5, of_decide_eq_true h6, of_decide_eq_true h7, of_decide_eq_true h8, of_decide_eq_true h9⟩
theorem supB_ok {P : Program} {K : PySem.W.Frag} {mg : Str → Option Value} {d : IniD} (e : fnC K (d.f K) = d.val) (h : supB P.main.file K d = true) (hs : mg "super" = none) :
    SupC P K mg (He.ga K d.cls) (nfI d.st d.qual (ccOf K (d.f K)) (cdOf K (d.f K))) (d.f K) (ccOf K (d.f K)) ∧ PySem.W.findIn K (.ref (He.ga K d.cls)) "__init__" = some (some (.ref (d.f K))) ∧ PySem.W.typeIn K (.ref (d.f K)) = some (.type "function") := by
  obtain ⟨h1, h⟩ := ba h
  obtain ⟨h2, h⟩ := ba h
  obtain ⟨h3, h⟩ := ba h
  obtain ⟨h4, h⟩ := ba h
  obtain ⟨h5, h⟩ := ba h
  obtain ⟨h6, h⟩ := ba h
  obtain ⟨h7, h⟩ := ba h
  obtain ⟨h8, h⟩ := ba h
  obtain ⟨h9, h⟩ := ba h
  obtain ⟨h10, h⟩ := ba h
  obtain ⟨h11, h⟩ := ba h
  obtain ⟨h12, h⟩ := ba h
  obtain ⟨h13, h⟩ := ba h
  obtain ⟨h14, h15⟩ := ba h
  refine ⟨⟨⟨oexB_ok h1, of_decide_eq_true h2, of_decide_eq_true h3, of_decide_eq_true h4, h5⟩, ?_, h7, rfl, ?_, ?_, of_decide_eq_true h10, of_decide_eq_true h11, of_decide_eq_true h12, of_decide_eq_true h13, hs⟩, of_decide_eq_true h14, of_decide_eq_true h15⟩
  · unfold fnC at e
    unfold plainB at h6
    cases q : K.lookup (d.f K) with
    | none =>
      rw [q] at e
      cases e
    | some o =>
      obtain ⟨oc, od, dt, osl⟩ := o
      rw [q] at e h6
      cases dt with
      | func fd =>
        obtain ⟨n1, n2, n3, n4, n5, n6, n7, n8, n9, n10, n11, n12, n13, n14, n15⟩ := fd
        have e2 : (some (n1, n2, n3, n4, n5, n6, n7.map (·.1), n15) : FnC) = IniD.val d := e
        simp only [IniD.val, Option.some.injEq, Prod.mk.injEq] at e2
        obtain ⟨g1, g2, g3, g4, g5, g6, g7, g8⟩ := e2
        obtain ⟨p1, p⟩ := ba h6
        obtain ⟨p2, p⟩ := ba p
        obtain ⟨p3, p4⟩ := ba p
        replace p1 := of_decide_eq_true p1
        replace p2 := of_decide_eq_true p2
        replace p3 := of_decide_eq_true p3
        replace p4 := of_decide_eq_true p4
        have hcc : n7 = [(("__class__" : Str), ccOf K (d.f K))] := by
          cases n7 with
          | nil => cases g7
          | cons y r =>
            obtain ⟨y1, y2⟩ := y
            cases r with
            | cons z r' => cases g7
            | nil =>
              have : y1 = ("__class__" : Str) := by
                have g7' : [y1] = [("__class__" : Str)] := g7
                exact (List.cons.inj g7').1
              subst this
              unfold ccOf
              rw [q]
        dsimp only at p1 p2 p3 p4
        exact ⟨oc, od, osl, n10, n11, n14, by subst g1 g2 g3 g4 g5 g6 g8 p1 p2 p3; rw [hcc, p4]; rfl⟩
      | _ => cases e
  · unfold cellB at h8
    split at h8
    · rename_i c1 c2 D c3 ho
      exact ⟨c1, c2, c3, by rw [ho, of_decide_eq_true h8]⟩
    · cases h8
  · unfold fileB at h9
    split at h9
    · rename_i c1 c2 vs c3 ho
      split at h9
      · rename_i fl tf hv
        exact ⟨c1, c2, vs, c3, fl, tf, ho, hv, h9⟩
      · cases h9
    · cases h9
/-! the Hook -/
abbrev AlM : Type := He.AlD × (Bool × List FnC)
def obsM (fa : List He.Fa) (fn : List He.DefD) (fi : List IniD) (ex : PySem.W.Frag → Bool) (K : PySem.W.Frag) : AlM := (He.obsD fa fn K, (ex K, fi.map fun d => fnC K (d.f K)))
def valM (fn : List He.DefD) (fi : List IniD) : AlM := (He.valD fn, (true, fi.map IniD.val))
/-- what is told of the written part -/
structure Says (fa : List He.Fa) (fn : List He.DefD) (fi : List IniD) (ex : PySem.W.Frag → Bool) (K : PySem.W.Frag) : Prop where
  d : He.SaysD fa fn K
  ex : ex K = true
  i : fi.map (fun d => fnC K (d.f K)) = fi.map IniD.val
/-- what is read: what the module's names reach, and the runtime's own names -/
def asM (g : Addr → Option Obj) (n : Nat) : List Addr := cStatics :: sysModules :: He.asD g n
def obsMG (n : Nat) (fa : List He.Fa) (fn : List He.DefD) (fi : List IniD) (ex : PySem.W.Frag → Bool) (g : Addr → Option Obj) : AlM := obsM fa fn fi ex (He.frG g (asM g n))
def hookM (n : Nat) (fa : List He.Fa) (fn : List He.DefD) (fi : List IniD) (ex : PySem.W.Frag → Bool) : PySem.W.Hook where
  α := AlM
  obs := fun s => obsMG n fa fn fi ex s.heap.get?
  val := fun _ => valM fn fi
  says := fun _ h => ∃ K : PySem.W.Frag, K.In h ∧ Says fa fn fi ex K
  of := fun _ _ e => ⟨_, He.frG_in, ⟨congrArg (fun z : AlM => z.1) e, congrArg (fun z : AlM => z.2.1) e, congrArg (fun z : AlM => z.2.2) e⟩⟩
  keeps := fun _ _ _ ⟨K, hK, c⟩ k => ⟨K, PySem.W.Frag.In.keeps hK k, c⟩
theorem obsMG_eq {n : Nat} {fa : List He.Fa} {fn : List He.DefD} {fi : List IniD} {ex : PySem.W.Frag → Bool} {g : Addr → Option Obj} {s : Shared} (h : ∀ a, g a = s.heap.get? a) : obsMG n fa fn fi ex g = (hookM n fa fn fi ex).obs s := by
  have e : g = s.heap.get? := funext h
  rw [e] <;> rfl
section
variable {fa : List He.Fa} {fn : List He.DefD} {fi : List IniD} {ex : PySem.W.Frag → Bool} {K : PySem.W.Frag} {h : Heap} {mg : Str → Option Value}
theorem factsM (c : Says fa fn fi ex K) {f : He.Fa} (h : f ∈ fa) : f.ok K = true := by
  obtain ⟨i, hi, e⟩ := List.mem_iff_getElem.mp h
  exact c.d.fact i (f := f) (by rw [List.getElem?_eq_getElem hi, e])
theorem Says.ini (c : Says fa fn fi ex K) (i : Nat) {d : IniD} (e : fi[i]? = some d := by rfl) : fnC K (d.f K) = d.val := by
  have e2 : (fi.map fun d => fnC K (d.f K))[i]? = (fi.map IniD.val)[i]? := by rw [c.i]
  rw [List.getElem?_map, List.getElem?_map, e] at e2
  exact Option.some.inj e2
/-- a def of the top, as the promises want it -/
def dfD (x : Str) (st : Stmt) : He.DefD := ⟨(x, none), x, x, defArgs st, defBody st, defScope st, [], []⟩
theorem fun_of {x : Str} {st : Stmt} {f : Addr} {fd : FuncData} (F : FunD K x x (defArgs st) (defBody st) (defScope st) [] [] f fd) : Fun K x x st f fd := by
  obtain ⟨oc, od, dV, kV, doc, pm, an, cdv, ct, osl, rfl, lk, hcd, hD, hK⟩ := F.ex
  rcases hD with ⟨_, rfl⟩ | ⟨e, _⟩
  · exact ⟨⟨oc, od, kV, doc, pm, an, cdv, ct, osl, rfl, lk, hcd⟩, F.kp⟩
  · exact absurd rfl e
theorem Says.def_ (c : Says fa fn fi ex K) (X : K.In h) (G : h.Ns mainGlobals mg) (i j : Nat) {x : Str} {st : Stmt} (e : fn[i]? = some (dfD x st) := by rfl) (e2 : fa[j]? = some (.glo x) := by rfl) : DefAt K mg x st := by
  obtain ⟨fd, F⟩ := c.d.def_ i e
  exact ⟨_, fd, He.glo_ok X G (c.d.fact j e2), fun_of F⟩
theorem Says.free (c : Says fa fn fi ex K) (X : K.In h) (G : h.Ns mainGlobals mg) (j : Nat) {x : Str} (e2 : fa[j]? = some (.free x) := by rfl) : mg x = none := He.free_ok X G (c.d.fact j e2)
theorem Says.glo (c : Says fa fn fi ex K) (X : K.In h) (G : h.Ns mainGlobals mg) (j : Nat) {x : Str} (e2 : fa[j]? = some (.glo x) := by rfl) : mg x = some (.ref (He.ga K x)) := He.glo_ok X G (c.d.fact j e2)
theorem Says.str (c : Says fa fn fi ex K) (X : K.In h) (G : h.Ns mainGlobals mg) (j : Nat) {x z : Str} (e2 : fa[j]? = some (.str x z) := by rfl) : ∃ t, mg x = some (.str z t) := He.str_ok X G (c.d.fact j e2)
end
/-! the law's end -/
theorem law_end {P : Program} {w : World} {K : PySem.W.Frag} {mg : Str → Option Value} {st : Stmt} {sp : Sp} {k : Nat} {fa : Addr} {x y : Str} (D : DefAt K mg y st)
    (hb : ∀ (kV doc pm : Value) (an : Option Addr) (cdv ct : Value) (us : List Value), us.length = 1 → bindArgs (PySem.W.fnOf y y (defArgs st) (defBody st) (defScope st) .none kV doc pm an cdv ct) ⟨us, []⟩ = pure ([x].zip us))
    (G : ∀ base : Heap, FnAtG P w K mg base CX0 k y [x] sp) (hm : mg y = some (.ref fa)) : ∃ fd : FuncData, (∀ (s : Shared) (u : Value), BindsTo s fd ⟨[u], []⟩ [(x, u)]) ∧ ∀ base : Heap, FnG P w K mg base CX0 k fa fd [x] sp := by
  obtain ⟨f, fd, e, F⟩ := D
  rw [hm] at e
  cases e
  obtain ⟨oc, od, kV, doc, pm, an, cdv, ct, osl, rfl, lk, hcd⟩ := F.ex
  refine ⟨_, fun s u => .of_eq (hb kV doc pm an cdv ct [u] rfl), fun base => ?_⟩
  obtain ⟨f', fd', e1, e2, e3, e4, oc', od', osl', lk'⟩ := G base
  rw [hm] at e1
  cases e1
  rw [lk] at lk'
  cases lk'
  exact e4
theorem walk_gE {l : PySem.W.OpenLaw} {n k : Nat} {q : Program} {loose : List Str} {XP : (Str → Option Value) → Heap → Prop} {YP : World → Heap → Prop} {d : DefRec} {x : Str}
    (hn : l.most = some n) (hn2 : n ≤ sizeLine) (hdf : d.params.defaults = []) (hr : Room k callerA)
    (F : ∀ (w : World) (mg : Str → Option Value) (fa : Addr) (h : Heap), YP w h → h.Ns mainGlobals mg → mg d.name = some (.ref fa) →
      ∃ (K : PySem.W.Frag) (fd : FuncData) (sp : Sp), K.In h ∧ (∀ (s : Shared) (u : Value), BindsTo s fd ⟨[u], []⟩ [(x, u)]) ∧
        (∀ (H : Hp) (a : Addr) (ns : List Int), ns.length ≤ n → Only H → SqL K H a (ns.map V.int) → sp [.ref a] H (fun v _ => v = .bl true) fun _ _ _ => False) ∧
        ∀ base : Heap, K.In base → base.Ns mainGlobals mg → FnG l.prog w K mg base CX0 k fa fd [x] sp) :
    PySem.W.WalkO q loose XP YP l.row.toRowW d [] (fun f vs => PySem.call f vs) := by
  refine Att.attach_call hn hdf fun w s₀ s₁ mg mb fa o pm cd doc a vs ns G Y ho hd hcd hmg hobj hints hlen hg => ?_
  obtain ⟨K, fd, sp, KX, hb, hsp, hF⟩ := F w mg fa _ Y G.T.g hmg
  exact law_callG KX G.T.g G.T.b G.T.builtins G.T.nolimit hg hobj hints (Nat.le_trans hlen hn2) hr hF hb fun H hO hS => hsp H a ns hlen hO hS
end My

set_option Elab.async false
set_option linter.all false
set_option maxRecDepth 100000
set_option maxHeartbeats 4000000
/-! Errors made and kept as values; repr of data with dicts in it. -/
namespace My
open PySem L2 PyProof.Rows
section
variable {X : Cx}
/-- a new error of the class at C -/
def tExc (C : Addr) : TE := fun _ H Q => ∀ a, H a = none → Q (.ref a) (upd H a (ExV (.ref C) none a))
/-- C('..'), an own error class without an __init__, as a value -/
theorem pe_excV {C : Addr} {bmB : List Value} {B newId initId : String} {x m : Str} {j : Nat} {p p2 pos : Pos} (F : ExcBaseFacts B newId initId bmB) (q : PySem.W.excIn X.K C bmB newId = true) (gC : X.mg x = some (.ref C)) (kC : PySem.W.keepIn X.K (.ref C) = true) (hg : Gl X x)
    (hs : starEach [.Constant (.str m) j p2] X.env = (false, eval (.Constant (.str m) j p2) X.env) :: starEach [] X.env := by rfl) (hdb : (x == ("__debug__" : Str)) = false := by decide) :
    PE X (.Call (.Name x p) [.Constant (.str m) j p2] [] pos) (tExc C) := by
  refine ⟨fun pins s σ H Q I h => ?_⟩
  have he : PE X (.Constant (.str m) j p2) (tC (.str m)) := pe_str
  refine wpAny_Call_Name_kw (ld_glob I hg gC ?_ hdb)
  refine PySem.W.callWith_K (h₀ := X.base) I.ok.mod.kin kC ?_ hs (by rfl)
  rw [hs]
  show wpAny _ _ (spliced ((false, eval (.Constant (.str m) j p2) X.env) :: backTo pos (starEach [] X.env))) _ _ s
  refine Calls.spliced_cons (thn (he.run pins s σ H (fun _ H1 => ∀ a, H1 a = none → Q (.ref a) (upd H1 a (ExV (.ref C) none a))) I h) fun u s1 ⟨v, H1, I1, r1, q1⟩ => ?_)
  refine Calls.spliced_nil ⟨I1.kIn, ?_⟩
  show wpAny _ _ (call (.ref C) [u]) _ _ _
  obtain ⟨bm, N, nm, qn, bs, hdct, sn, sub, ab, col, dd, k0, k1, k2, k3, k5, mN, hC, hN, hni, T⟩ := exc_obj I1.kIn q
  refine wpAny_call_exc_subT F T hC hN hni (fun h' a hm => ?_) (by show 1 ≤ sizeLine; rw [sizeLine_eq]; omega)
  have hn : H1 a = none := I1.hok.gone hm.new
  obtain ⟨t, ht, _, _⟩ := hm.there
  exact ⟨.ref a, upd H1 a (ExV (.ref C) none a), I1.laidN hm.keeps hm.new hn (exV_ok ht ⟨rfl, rfl⟩ rfl), rfl, q1 a hn⟩
/-- C(e, ..) of an own error class whose own __init__ keeps sp, as a value -/
def tMkV (C : Addr) (sp : Sp) (ta : TA) : TE := fun σ H Q => ta σ H fun vs H1 => vs.length ≤ 1000 ∧ ∀ a, H1 a = none → sp (.ref a :: vs) (upd H1 a (exo a C none))
  (fun v H2 => v = .non ∧ ∃ (d : Addr) (fs : List (Str × V)), H2 a = some (exo a C (some d)) ∧ H2 d = some (exd d fs) ∧ d ≠ a ∧ Q (.ref a) (upd (upd H2 d (.xd fs)) a (ExV (.ref C) (some d) a))) (fun _ _ _ => False)
theorem rd_mkV {C : Addr} {sp : Sp} {ta : TA} {σ : L2.St} {H : Hp} {Q : VK} (q : ta σ H fun vs H1 => vs.length ≤ 1000 ∧ ∀ a, H1 a = none → sp (.ref a :: vs) (upd H1 a (exo a C none))
  (fun v H2 => v = .non ∧ ∃ (d : Addr) (fs : List (Str × V)), H2 a = some (exo a C (some d)) ∧ H2 d = some (exd d fs) ∧ d ≠ a ∧ Q (.ref a) (upd (upd H2 d (.xd fs)) a (ExV (.ref C) (some d) a))) (fun _ _ _ => False)) : tMkV C sp ta σ H Q := q
theorem pe_oexV {CX : CXT} {x : Str} {C fI : Addr} {k : Nat} {fd : FuncData} {ps : List Str} {sp : Sp} {e : Expr} {es : List Expr} {ta : TA} {p pos : Pos} (T : OexC X.K C) (iC : PySem.W.findIn X.K (.ref C) "__init__" = some (some (.ref fI))) (tI : PySem.W.typeIn X.K (.ref fI) = some (.type "function"))
    (F1 : FnOk X.prog X.w X.K X.mg X.base CX k fI fd ps sp) (hr : Room (k + 1) X.A) (hb : Binds X.K fd ps []) (hx : Passes CX X (fun _ _ _ => False)) (hg : Gl X x) (hm : X.mg x = some (.ref C)) (ha : PA X (e :: es) ta)
    (hdb : (x == ("__debug__" : Str)) = false := by decide) (he : starEach (e :: es) X.env = (false, eval e X.env) :: starEach es X.env := by rfl) (hpl : (backTo pos (starEach es X.env)).any (·.1) = false := by rfl) :
    PE X (.Call (.Name x p) (e :: es) [] pos) (tMkV C sp ta) := by
  refine ⟨fun pins s σ H Q I h => ?_⟩
  obtain ⟨nm, q, N, bs, bm, sn, sub, ab, col, dd, k0, k1, k2, k3, k5, hC, hbm⟩ := T.cls
  refine wpAny_Call_Name_kw (ld_glob I hg hm ?_ hdb)
  refine PySem.W.callWith_K (h₀ := X.base) I.ok.mod.kin T.kC (thn (ha.run pos pins s σ H _ I h) fun us s1 ⟨vs, H1, I1, r1, hz, q1⟩ => ⟨I1.kIn, ?_⟩) he hpl
  show wpAny _ _ (call (.ref C) us) _ _ _
  obtain ⟨hp, g, dr, tk, os⟩ := s1
  have hsz : hp.objs.size ≤ hp.objs.size + 1 := Nat.le_succ _
  have hn : H1 (hp.objs.size + 1) = none := I1.hok.fresh hsz
  have hq := q1 (hp.objs.size + 1) hn
  have kk : ∀ b o, hp.get? b = some o → ((hp.push (PySem.W.kdv_tup us)).push (PySem.HandSPX.excO C hp.objs.size)).get? b = some o := fun b o e => Heap.get?_push_of_some _ (Heap.get?_push_of_some _ e)
  have hget : ((hp.push (PySem.W.kdv_tup us)).push (PySem.HandSPX.excO C hp.objs.size)).get? (hp.objs.size + 1) = some (PySem.HandSPX.excO C hp.objs.size) := by heap_get
  have I2 : L2.Inv X pins σ (upd H1 (hp.objs.size + 1) (exo (hp.objs.size + 1) C none)) ⟨(hp.push (PySem.W.kdv_tup us)).push (PySem.HandSPX.excO C hp.objs.size), g, dr, tk, os⟩ :=
    I1.laid (t' := tk) (a := hp.objs.size + 1) (o := exo (hp.objs.size + 1) C none) (h' := (hp.push (PySem.W.kdv_tup us)).push (PySem.HandSPX.excO C hp.objs.size)) kk hsz (exo_ok hget)
  have r2 : Vals (V.ref (hp.objs.size + 1) :: vs) (Value.ref (hp.objs.size + 1) :: us) := .cons rfl r1
  have hl : (Value.ref (hp.objs.size + 1) :: us).length = ps.length := by
    have e := r2.length
    rw [F1.len _ _ _ _ hq] at e
    exact e.symm
  have hus : us.length ≤ sizeLine := by
    rw [← Paired.length r1, sizeLine_eq]
    omega
  have b0 := hb ⟨(hp.push (PySem.W.kdv_tup us)).push (PySem.HandSPX.excO C hp.objs.size), g, dr, tk, os⟩ (Value.ref (hp.objs.size + 1) :: us) I2.kIn (by rw [List.append_nil]; exact hl)
  rw [List.append_nil] at b0
  refine wpAny_call (PySem.HandSPX.call_own F.excBase_ValueError (fun Y => PySem.HandSPX.refsVE_contains Y bm hbm) (I1.kIn _ _ hC) (PySem.W.looks_findIn I1.kIn iC) (fun self => PySem.W.bind_fn I1.kIn self tI) hus
    (codeAny_mono (F1.run _ X.stack _ _ ⟨Value.ref (hp.objs.size + 1) :: us, []⟩ (Value.ref (hp.objs.size + 1) :: us) _ _ (fun _ _ _ => False) (hr.make C us []) (I2.env0.make C us []) b0 r2 hq) fun r s' hq' => ?_))
  cases r with
  | error er => exact hx pins σ _ _ er s' I2 hq'
  | ok fl =>
    cases fl with
    | ret u =>
      obtain ⟨v, H2, J2, rv, ev, d, fs, ea, ed, hda, q2⟩ := I2.after hq'
      subst ev
      refine ⟨rv, ?_⟩
      obtain ⟨t1, ho⟩ := exo_at J2.hok ea
      obtain ⟨mA, hn2, rr⟩ := exd_at J2.hok ed
      obtain ⟨h2, g2, d2, t2, os'⟩ := s'
      have e0 : ∃ u, h2.get? d = some u := by
        obtain ⟨o, es, ep, hd, _⟩ := hn2
        exact ⟨o, hd⟩
      have J3 := J2.write (t' := t2) (x := d) (e := d) (o := .xd fs) (h' := h2) (by rw [ed]; exact True.intro) (.inl rfl) (fun b o _ e => e) e0 ⟨mA, hn2, rr⟩
      have ea3 : upd H2 d (.xd fs) (hp.objs.size + 1) = some (exo (hp.objs.size + 1) C (some d)) := by
        rw [upd_ne (Ne.symm hda)]
        exact ea
      have J4 := J3.write (t' := t2) (x := hp.objs.size + 1) (e := hp.objs.size + 1) (o := ExV (.ref C) (some d) (hp.objs.size + 1)) (h' := h2) (by rw [ea3]; exact True.intro) (.inl rfl) (fun b o _ e => e) ⟨_, ho⟩ (exV_ok ho ⟨rfl, rfl⟩ rfl)
      exact ⟨.ref (hp.objs.size + 1), _, J4, rfl, q2⟩
    | next => exact False.elim hq'
    | brk => exact False.elim hq'
    | cont => exact False.elim hq'
end
/-! data with dicts whose keys are texts and ints -/
def kD : Key → PyData
  | .inl i => .int i
  | .inr x => .str x
/-- data without an object -/
inductive Ds : V → PyData → Prop
  | non : Ds .non .none
  | bl (b : Bool) : Ds (.bl b) (.bool b)
  | int (i : Int) : Ds (.int i) (.int i)
  | str (x : Str) : Ds (.str x) (.str x)
inductive DsAll : List V → List PyData → Prop
  | nil : DsAll [] []
  | cons {v : V} {vs : List V} {d : PyData} {ds : List PyData} : Ds v d → DsAll vs ds → DsAll (v :: vs) (d :: ds)
theorem DsAll.len : ∀ {vs : List V} {ds : List PyData}, DsAll vs ds → vs.length = ds.length
  | [], _, h => by cases h; rfl
  | _ :: vs, _, h => by
    cases h with
    | cons _ h2 => simp [DsAll.len h2]
theorem Ds.reads {h : Heap} {d : PyData} {v : V} {u : Value} (x : Ds v d) (r : RelV v u) : Reads h u d [] := by
  cases x with
  | non => cases r; exact .none
  | bl b => cases r; exact .bool b
  | int i => obtain ⟨t, rfl⟩ := r; exact .int i t
  | str z => obtain ⟨t, rfl⟩ := r; exact .str z t
theorem DsAll.reads {h : Heap} : ∀ {ds : List PyData} {vs : List V} {us : List Value}, DsAll vs ds → Vals vs us → ReadsAll h us ds []
  | [], _, _, x, r => by
    cases x
    cases r
    exact .nil
  | d :: ds, _, _, x, r => by
    cases x with
    | cons h1 h2 =>
      cases r with
      | cons r1 r2 => exact ReadsAll.cons (as := []) (bs := []) (h1.reads r1) (h2.reads r2)
mutual
inductive Dq (K : PySem.W.Frag) (H : Hp) : V → PyData → Prop
  | non : Dq K H .non .none
  | bl (b : Bool) : Dq K H (.bl b) (.bool b)
  | int (i : Int) : Dq K H (.int i) (.int i)
  | str (x : Str) : Dq K H (.str x) (.str x)
  | lst {a : Addr} {xs : List V} {ds : List PyData} : SqL K H a xs → DqAll K H xs ds → Dq K H (.ref a) (.list ds)
  | tup {a : Addr} {xs : List V} {ds : List PyData} : SqT K H a xs → DqAll K H xs ds → Dq K H (.ref a) (.tuple ds)
  | dct {a : Addr} {kvs : List (Key × V)} {ds : List PyData} : H a = some (.dK kvs) → DsAll (kvs.map (·.2)) ds → Dq K H (.ref a) (.dict ((kvs.map fun q => kD q.1).zip ds))
inductive DqAll (K : PySem.W.Frag) (H : Hp) : List V → List PyData → Prop
  | nil : DqAll K H [] []
  | cons {v : V} {vs : List V} {d : PyData} {ds : List PyData} : Dq K H v d → DqAll K H vs ds → DqAll K H (v :: vs) (d :: ds)
end
section
variable {X : Cx} {pins : List (Addr × Obj)} {σ : L2.St} {H : Hp} {s : Shared}
theorem sys_free (I : L2.Inv X pins σ H s) (hs : (X.K.lookup sysModules).isSome = true) : H sysModules = none := by
  obtain ⟨o, e⟩ := Option.isSome_iff_exists.mp hs
  obtain ⟨e1, e2⟩ := I.ok.bs _ _ (I.ok.mod.kin _ _ e)
  exact I.base.free _ _ e1 e2 (I.ok.noex _ _ (I.ok.mod.kin _ _ e))
theorem reads_keys : ∀ {es : List DictEntry} {kvs : List (Key × V)} {vs : List (Key × Value)}, KV kvs vs → Pairs (mixKind X.prog X.w) es vs → ReadsAll s.heap (es.map (·.key)) (kvs.map fun q => kD q.1) [] ∧ Vals (kvs.map (·.2)) (es.map (·.val))
  | [], _, _, h, hp => by
    cases hp
    cases h
    exact ⟨.nil, .nil⟩
  | e :: es, _, _, h, hp => by
    cases hp with
    | cons h1 h2 h3 =>
      cases h with
      | cons r1 r2 =>
        rename_i kv kvs q qs
        obtain ⟨g1, g2⟩ := reads_keys r2 h3
        obtain ⟨k, v⟩ := q
        obtain ⟨k', u⟩ := kv
        obtain ⟨rfl, rv⟩ := r1
        refine ⟨?_, ?_⟩
        · rcases keyIs_shape (show keyIs k e.key = true from h1) with ⟨i, t, rfl, ek⟩ | ⟨x, t, rfl, ek⟩
          · rw [List.map_cons, ek]
            exact ReadsAll.cons (as := []) (bs := []) (Reads.int i t) g1
          · rw [List.map_cons, ek]
            exact ReadsAll.cons (as := []) (bs := []) (Reads.str x t) g1
        · rw [List.map_cons, List.map_cons]
          exact .cons (by rw [h2]; exact rv) g2
mutual
theorem Dq.reads (I : L2.Inv X pins σ H s) (n0 : H sysModules = none) (hk : ∀ ob, X.K.lookup sysModules = some ob → ob.cls = .type "dict") : ∀ (d : PyData) (v : V) (u : Value), Dq X.K H v d → RelV v u → ∃ as, Reads s.heap u d as ∧ sysModules ∉ as
  | .none, _, _, h, r => by
    cases h
    cases r
    exact ⟨_, Reads.none, by simp⟩
  | .bool b, _, _, h, r => by
    cases h
    cases r
    exact ⟨_, Reads.bool b, by simp⟩
  | .int i, _, _, h, r => by
    cases h
    obtain ⟨t, rfl⟩ := r
    exact ⟨_, Reads.int i t, by simp⟩
  | .str x, _, _, h, r => by
    cases h
    obtain ⟨t, rfl⟩ := r
    exact ⟨_, Reads.str x t, by simp⟩
  | .list ds, _, _, h, r => by
    cases h with
    | lst hs ha =>
      rename_i a xs
      cases r
      obtain ⟨its, rv, ⟨o, n, ho, hc, _, hd⟩, _⟩ := I.list hs
      obtain ⟨as, hr, hn⟩ := Dq.readsAll I n0 hk ds _ its ha rv
      refine ⟨_, Reads.list ho hc hd hr, ?_⟩
      rw [List.mem_cons]
      rintro (z | z)
      · subst z
        rcases hs with (z | ⟨ob, z⟩) | ⟨ob, its', n', z, hcl, _⟩
        · rw [n0] at z
          cases z
        · rw [n0] at z
          cases z
        · rw [hk _ z] at hcl
          exact absurd hcl (by decide)
      · exact hn z
  | .tuple ds, _, _, h, r => by
    cases h with
    | tup hs ha =>
      cases r
      obtain ⟨its, rv, ⟨o, ho, hc, n, hd⟩, _⟩ := I.tuple hs
      obtain ⟨as, hr, hn⟩ := Dq.readsAll I n0 hk ds _ its ha rv
      exact ⟨_, Reads.tuple ho hc hd hr, hn⟩
  | .dict kds, v, u, h, r => by
    cases h with
    | dct hs ha =>
      rename_i a kvs ds
      cases r
      have ok : ObjOk X.prog X.w H s.heap a (.dK kvs) := I.hok a _ hs
      obtain ⟨hl, hsys, vs, kv, o, es, ep, ho, hx, hdt, hko, hp, hnd⟩ := ok
      obtain ⟨g1, g2⟩ := reads_keys (s := s) kv hp
      have hlen := ha.len
      rw [List.length_map] at hlen
      have e1 : ((kvs.map fun q => kD q.1).zip ds).map (·.1) = kvs.map fun q => kD q.1 := List.map_fst_zip (by rw [List.length_map]; omega)
      have e2 : ((kvs.map fun q => kD q.1).zip ds).map (·.2) = ds := List.map_snd_zip (by rw [List.length_map]; omega)
      refine ⟨_, Reads.dict (as := []) (bs := []) ho hx.1 hdt (by rw [e1]; exact g1) (by rw [e2]; exact ha.reads g2), ?_⟩
      simp only [List.append_nil, List.mem_cons, List.not_mem_nil, or_false]
      intro z
      subst z
      simp at hsys
theorem Dq.readsAll (I : L2.Inv X pins σ H s) (n0 : H sysModules = none) (hk : ∀ ob, X.K.lookup sysModules = some ob → ob.cls = .type "dict") : ∀ (ds : List PyData) (vs : List V) (us : List Value), DqAll X.K H vs ds → Vals vs us → ∃ as, ReadsAll s.heap us ds as ∧ sysModules ∉ as
  | [], _, _, h, r => by
    cases h
    cases r
    exact ⟨_, ReadsAll.nil, by simp⟩
  | d :: ds, _, _, h, r => by
    cases h with
    | cons h1 h2 =>
      cases r with
      | cons r1 r2 =>
        obtain ⟨as, q1, z1⟩ := Dq.reads I n0 hk d _ _ h1 r1
        obtain ⟨bs, q2, z2⟩ := Dq.readsAll I n0 hk ds _ _ h2 r2
        exact ⟨_, ReadsAll.cons q1 q2, by simp [z1, z2]⟩
end
section
/-- repr(x) of data with dicts -/
def rReprQ (K : PySem.W.Frag) : List V → Hp → VK → Prop := fun xs H Q => ∃ (x : V) (d : PyData), xs = [x] ∧ Dq K H x d ∧ (∃ a, x = .ref a) ∧ d.showable = true ∧ d.depth ≤ 64 ∧ d.shown.length ≤ sizeLine ∧ Q (.str d.shown) H
theorem call_reprQ {X : Cx} (hg : X.A.guards = some []) (hu : X.A.units + 65 < cLine) (hs : (X.K.lookup sysModules).isSome = true) (hk : ∀ ob, X.K.lookup sysModules = some ob → ob.cls = .type "dict") : CallR X (.builtin "repr") (rReprQ X.K) := by
  intro pins s σ H xs us Q I r h
  obtain ⟨x, d, rfl, hd, ⟨a, rfl⟩, h1, h3, h4, q⟩ := h
  cases r with
  | @cons _ u0 _ ur ra rr =>
  cases rr
  obtain rfl : u0 = Value.ref a := ra
  obtain ⟨as, rds, hn⟩ := Dq.reads I (sys_free I hs) hk d (.ref a) (.ref a) hd rfl
  exact PySem.repr_of_reads' rds h1 (fun _ => hn) hg (by omega) (fun _ _ e => e) (fun h' u tk k => ⟨.str d.shown, H, I.kept (t' := tk) k, ⟨_, rfl⟩, q⟩) h4
end
end
section
def sp_ini (C : Addr) (fs : List Str) : Sp := fun vs H Q _ => ∃ (a : Addr) (xs : List V), vs = .ref a :: xs ∧ xs.length = fs.length ∧ H a = some (exo a C none) ∧
  ∀ (H' : Hp) (d : Addr), Kx [a] H H' → H d = none → d ≠ a → H' a = some (exo a C (some d)) → H' d = some (exd d (fs.zip xs).reverse) → Q .non H'
/-- the class x of errors, its own __init__ st storing fs -/
def IniOk (P : Program) (K : PySem.W.Frag) (mg : Str → Option Value) (x : Str) (st : Stmt) (q : Str) (fs : List Str) : Prop :=
  ∃ (f cc c : Addr), mg x = some (.ref (He.ga K x)) ∧ SupC P K mg (He.ga K x) (nfI st q cc c) f cc ∧ PySem.W.findIn K (.ref (He.ga K x)) "__init__" = some (some (.ref f)) ∧ PySem.W.typeIn K (.ref f) = some (.type "function") ∧
    ∀ y ∈ fs, PySem.W.findIn K (.ref (He.ga K x)) y = some none
variable {X : Cx} {x q : Str} {st : Stmt} {fs : List Str} {p pos : Pos} {e : Expr} {es : List Expr} {ta : TA}
theorem pe_ini (I : IniOk X.prog X.K X.mg x st q fs)
    (F : ∀ (f cc c : Addr) (oc : Value) (od : Option Addr) (osl : Array (Option Value)) (doc pm ctv : Value), SupC X.prog X.K X.mg (He.ga X.K x) (nfI st q cc c) f cc → (∀ y ∈ fs, PySem.W.findIn X.K (.ref (He.ga X.K x)) y = some none) →
      X.K.lookup f = some ⟨oc, od, .func ((nfI st q cc c).fd doc pm ctv), osl⟩ → FnOk X.prog X.w X.K X.mg X.base CX0 1 f ((nfI st q cc c).fd doc pm ctv) ("self" :: fs) (sp_ini (He.ga X.K x) fs))
    (hb : ∀ (cc c : Addr) (doc pm ctv : Value) (us : List Value), us.length = fs.length + 1 → bindArgs ((nfI st q cc c).fd doc pm ctv) ⟨us, []⟩ = pure (("self" :: fs : List Str).zip us))
    (hr : Room 2 X.A) (hg : Gl X x) (ha : PA X (e :: es) ta)
    (hdb : (x == ("__debug__" : Str)) = false := by decide) (he : starEach (e :: es) X.env = (false, eval e X.env) :: starEach es X.env := by rfl) (hpl : (backTo pos (starEach es X.env)).any (·.1) = false := by rfl) :
    PE X (.Call (.Name x p) (e :: es) [] pos) (tMkV (He.ga X.K x) (sp_ini (He.ga X.K x) fs) ta) := by
  obtain ⟨f, cc, c, hm, S, iC, tI, no⟩ := I
  obtain ⟨oc, od, osl, doc, pm, ctv, lk⟩ := S.fn
  refine pe_oexV S.ox iC tI (F f cc c oc od osl doc pm ctv S no lk) hr (fun s us _ hl => ?_) pass0 hg hm ha hdb he hpl
  rw [List.append_nil] at hl ⊢
  exact .of_eq (hb cc c doc pm ctv us hl)
end
/-! lists of new errors, of questions about one -/
def ErL (H : Hp) : List V → List Addr → Prop
  | [], [] => True
  | x :: xs, C :: Cs => (∃ a, x = .ref a ∧ H a = some (ExV (.ref C) none a)) ∧ ErL H xs Cs
  | _, _ => False
theorem ErL.keep {H H' : Hp} (k : Kx [] H H') : ∀ {xs : List V} {Cs : List Addr}, ErL H xs Cs → ErL H' xs Cs
  | [], [], _ => trivial
  | _ :: _, _ :: _, ⟨⟨a, e, h⟩, r⟩ => ⟨⟨a, e, k _ _ h (by simp)⟩, ErL.keep k r⟩
  | [], _ :: _, h => h.elim
  | _ :: _, [], h => h.elim
theorem ErL.app {H : Hp} : ∀ {xs : List V} {Cs : List Addr} {ys : List V} {Ds : List Addr}, ErL H xs Cs → ErL H ys Ds → ErL H (xs ++ ys) (Cs ++ Ds)
  | [], [], _, _, _, h => h
  | _ :: _, _ :: _, _, _, ⟨h1, r⟩, h => ⟨h1, ErL.app r h⟩
  | [], _ :: _, _, _, h, _ => h.elim
  | _ :: _, [], _, _, h, _ => h.elim
theorem ErL.len {H : Hp} : ∀ {xs : List V} {Cs : List Addr}, ErL H xs Cs → xs.length = Cs.length
  | [], [], _ => rfl
  | _ :: _, _ :: _, ⟨_, r⟩ => by simp [ErL.len r]
  | [], _ :: _, h => h.elim
  | _ :: _, [], h => h.elim
def tExcs : List Addr → TA
  | [] => tNil
  | C :: r => tCons (tExc C) (tExcs r)
theorem rd_excs {σ : L2.St} : ∀ {Cs : List Addr} {H : Hp} {QA : List V → Hp → Prop}, (∀ xs H', Kx [] H H' → ErL H' xs Cs → QA xs H') → tExcs Cs σ H QA
  | [], H, QA, q => q [] H Kx.refl trivial
  | C :: r, H, QA, q => fun a ha => rd_excs (Cs := r) fun xs H' k h => q _ _ ((Kx.refl.nw ha).trans k) ⟨⟨a, rfl, k _ _ upd_same (by simp)⟩, h⟩
def tIss (K : PySem.W.Frag) : List Addr → TA
  | [] => tNil
  | C :: r => tCons (tCB (rIsV K) (tCons (tVar 0) (tCons (tC (.ref C)) tNil))) (tIss K r)
theorem rd_iss {K : PySem.W.Frag} {a C : Addr} {d : Option Addr} {σ : L2.St} {H : Hp} (h0 : σ[0]? = some (some (.ref a))) (ha : H a = some (ExV (.ref C) d a)) (hd : DcV H d) (hE : ErrC K C) (A : Str → Addr) (f : Str → Bool) :
    ∀ {ys : List Str} {QA : List V → Hp → Prop}, (∀ y ∈ ys, PySem.W.kitOne K (.ref C) (.ref (A y)) = some (f y)) → QA (ys.map fun y => .bl (f y)) H → tIss K (ys.map A) σ H QA
  | [], QA, _, q => q
  | y :: r, QA, hk, q => ⟨_, h0, a, C, d, .ref (A y), .ref (A y), f y, rfl, ha, hd, hE, .own _, hk y (by simp), rd_iss h0 ha hd hE A f (fun D hD => hk D (by simp [hD])) q⟩
/-! displays of errors, of questions: by one lemma each -/
def nmE : Expr → Str
  | .Call (.Name x _) _ _ _ => x
  | _ => ""
def okE : Expr → Bool
  | .Call (.Name x _) [.Constant (.str _) _ _] [] _ => !(x == ("__debug__" : Str))
  | _ => false
theorem pa_excs {X : Cx} {bmB : List Value} {B newId initId : String} (F : ExcBaseFacts B newId initId bmB) : ∀ {es : List Expr}, es.all okE = true →
    (∀ x ∈ es.map nmE, PySem.W.excIn X.K (He.ga X.K x) bmB newId = true ∧ X.mg x = some (.ref (He.ga X.K x)) ∧ PySem.W.keepIn X.K (.ref (He.ga X.K x)) = true ∧ Gl X x) → PA X es (tExcs ((es.map nmE).map (He.ga X.K)))
  | [], _, _ => pa_nil
  | e :: es, h, g => by
    rw [List.all_cons, Bool.and_eq_true] at h
    obtain ⟨h1, h2⟩ := h
    have ih := pa_excs (X := X) F h2 fun x hx => g x (by simp at hx ⊢; exact .inr hx)
    unfold okE at h1
    split at h1
    · rename_i x p m j p2 pos
      obtain ⟨g1, g2, g3, g4⟩ := g x (by simp [nmE])
      exact pa_cons (pe_excV F g1 g2 g3 g4 rfl (by simpa using h1)) ih
    · cases h1
def nmI : Expr → Str
  | .Call _ [_, .Name x _] _ _ => x
  | _ => ""
def okI (y : Str) : Expr → Bool
  | .Call (.Name z _) [.Name w _, .Name x _] [] _ => (z == ("isinstance" : Str)) && (w == y && !(x == ("__debug__" : Str)))
  | _ => false
theorem pa_iss {X : Cx} {y : Str} (hi : X.mg "isinstance" = none) (hgi : Gl X "isinstance") (h0 : X.N[0]? = some y) (hv : Vis X.env.scope y) (hy : (y == ("__debug__" : Str)) = false) (hy2 : (y == ("__classdict__" : Str)) = false) : ∀ {es : List Expr}, es.all (okI y) = true →
    (∀ x ∈ es.map nmI, X.mg x = some (.ref (He.ga X.K x)) ∧ Gl X x) → PA X es (tIss X.K ((es.map nmI).map (He.ga X.K)))
  | [], _, _ => pa_nil
  | e :: es, h, g => by
    rw [List.all_cons, Bool.and_eq_true] at h
    obtain ⟨h1, h2⟩ := h
    have ih := pa_iss hi hgi h0 hv hy hy2 h2 fun x hx => g x (by simp at hx ⊢; exact .inr hx)
    unfold okI at h1
    split at h1
    · rename_i z p1 w p2 x p3 pos
      simp only [Bool.and_eq_true, beq_iff_eq, Bool.not_eq_true'] at h1
      obtain ⟨rfl, rfl, h1⟩ := h1
      obtain ⟨g2, g4⟩ := g x (by simp [nmI])
      exact pa_cons (pe_callB call_isV hgi hi (by decide +kernel) (pa_cons (pe_var h0 hv hy hy2) (pa_cons (pe_glob g4 g2 (show RelV (.ref _) _ from rfl) h1) pa_nil))) ih
    · cases h1
/-- every name of the list is global in the scope -/
def glB (sc : Scope) (xs : List Str) : Bool := xs.all fun x => decide (sc.names.lookup x = some .globalImplicit)
def exprsOf : Stmt → List Expr
  | .Assign _ (.List es _) _ => es
  | .Assign _ (.BinOp _ _ (.List es _) _) _ => es
  | _ => []
def stN (s : Stmt) (i : Nat) : Stmt := (defBody s).getD i (.Pass ⟨0, 0, 0, 0⟩)
theorem mkV_step {H1 H2 : Hp} {ea dd C : Addr} {fs : List (Str × V)} (hea : H1 ea = none) (k2 : Kx [ea] (upd H1 ea (exo ea C none)) H2) (hdd : upd H1 ea (exo ea C none) dd = none) (hne : dd ≠ ea) :
    Kx [] H1 (upd (upd H2 dd (.xd fs)) ea (ExV (.ref C) (some dd) ea)) ∧ upd (upd H2 dd (.xd fs)) ea (ExV (.ref C) (some dd) ea) ea = some (ExV (.ref C) (some dd) ea) ∧ upd (upd H2 dd (.xd fs)) ea (ExV (.ref C) (some dd) ea) dd = some (.xd fs) := by
  have hdd1 : H1 dd = none := by rw [upd_ne hne] at hdd; exact hdd
  refine ⟨fun b o e _ => ?_, upd_same, by rw [upd_ne hne, upd_same]⟩
  have nb : b ≠ dd := ne_of_none e hdd1
  have na : b ≠ ea := ne_of_none e hea
  rw [upd_ne na, upd_ne nb]
  exact k2 b o (by rw [upd_ne na]; exact e) (by simp [na])
mutual
theorem Dq.keep {K : PySem.W.Frag} {H H' : Hp} (k : Kx [] H H') : ∀ (d : PyData) (v : V), Dq K H v d → Dq K H' v d
  | .none, _, h => by cases h; exact .non
  | .bool b, _, h => by cases h; exact .bl b
  | .int i, _, h => by cases h; exact .int i
  | .str x, _, h => by cases h; exact .str x
  | .list ds, _, h => by
    cases h with
    | lst hs ha => exact .lst (k.sql hs (by simp)) (Dq.keepAll k ds _ ha)
  | .tuple ds, _, h => by
    cases h with
    | tup hs ha => exact .tup (k.sqt hs (by simp)) (Dq.keepAll k ds _ ha)
  | .dict kds, _, h => by
    cases h with
    | dct hs ha => exact .dct (k _ _ hs (by simp)) ha
theorem Dq.keepAll {K : PySem.W.Frag} {H H' : Hp} (k : Kx [] H H') : ∀ (ds : List PyData) (vs : List V), DqAll K H vs ds → DqAll K H' vs ds
  | [], _, h => by cases h; exact .nil
  | d :: ds, _, h => by
    cases h with
    | cons h1 h2 => exact .cons (Dq.keep k d _ h1) (Dq.keepAll k ds _ h2)
end
end My

set_option Elab.async false
set_option linter.all false
set_option maxRecDepth 100000
set_option maxHeartbeats 4000000
namespace My
open PySem L2 TL
def pl0 : List Str := ["BadBarred", "BadBase", "BadChoice", "BadContext", "BadContract", "BadDocument", "BadEnds", "BadEvents", "BadGoal"]
def pl1 : List Str := ["BadGrouping", "BadHeld", "BadInputs", "BadKept", "BadKind", "BadLevel", "BadLot", "BadMachine", "BadMaker", "BadMany"]
def pl2 : List Str := ["BadMemory", "BadModes", "BadMost", "BadNames", "BadNumber", "BadOptions", "BadPairs", "BadPart", "BadPath", "BadPiece"]
def pl3 : List Str := ["BadPins", "BadProgram", "BadPrograms", "BadRecords", "BadRow", "BadRuin", "BadSecond", "BadShowing", "BadStanding"]
def pl4 : List Str := ["BadTerms", "BadThing", "BadTrace", "BadWidth", "FixedFill", "NotAhead", "NotTold", "NothingDone", "NothingUndone"]
def pl5 : List Str := ["OtherChoice", "Ruined", "Tight"]
def cl0 : List Str := ["BadBarred", "BadBase", "BadChoice", "BadContext", "BadContract"]
def cl1 : List Str := ["BadDocument", "BadEnds", "BadEvents", "BadGoal", "BadGrouping"]
def cl2 : List Str := ["BadHeld", "BadInputs", "BadKept", "BadKind", "BadLevel"]
def cl3 : List Str := ["BadLot", "BadMachine", "BadMaker", "BadMany", "BadMemory"]
def cl4 : List Str := ["BadModes", "BadMost", "BadNames", "BadNumber", "BadOptions"]
def cl5 : List Str := ["BadPairs", "BadPart", "BadPath", "BadPiece", "BadPins"]
def cl6 : List Str := ["BadProgram", "BadPrograms", "BadRecords", "BadRow", "BadRuin"]
def cl7 : List Str := ["BadScope", "BadSecond", "BadShowing", "BadStanding", "BadTerms"]
def cl8 : List Str := ["BadText", "BadThing", "BadTrace", "BadWidth", "FixedFill"]
def cl9 : List Str := ["NotAhead", "NotTold", "NothingDone", "NothingUndone"]
def cl10 : List Str := ["OtherChoice", "Ruined", "Tight", "TooMany", "Unnamed"]
def plainN : List Str := pl0 ++ pl1 ++ pl2 ++ pl3 ++ pl4 ++ pl5
def clsN : List Str := cl0 ++ cl1 ++ cl2 ++ cl3 ++ cl4 ++ cl5 ++ cl6 ++ cl7 ++ cl8 ++ cl9 ++ cl10
/-- what k16's text asks of the top -/
structure TxE (P : Program) (K : PySem.W.Frag) (mg : Str → Option Value) : Prop where
  D : TxD K mg
  b_isinstance : mg "isinstance" = none
  b_enumerate : mg "enumerate" = none
  b_len : mg "len" = none
  b_set : mg "set" = none
  b_repr : mg "repr" = none
  b_ValueError : mg "ValueError" = none
  g : ∀ x ∈ clsN, mg x = some (.ref (He.ga K x))
  g_MakerError : mg "MakerError" = some (.ref (He.ga K "MakerError"))
  x : ∀ x ∈ plainN, PySem.W.excIn K (He.ga K x) He.veBase "ValueError.__new__" = true
  k : ∀ x ∈ clsN, PySem.W.keepIn K (.ref (He.ga K x)) = true
  e : ∀ x ∈ clsN, ErrC K (He.ga K x)
  one : ∀ x ∈ clsN, ∀ y ∈ clsN, PySem.W.kitOne K (.ref (He.ga K x)) (.ref (He.ga K y)) = some (decide (x = y))
  m : ∀ x ∈ clsN, PySem.W.kitOne K (.ref (He.ga K x)) (.ref (He.ga K "MakerError")) = some true
  v : ∀ x ∈ clsN, PySem.W.kitOne K (.ref (He.ga K x)) (.type "ValueError") = some true
  sys : (K.lookup sysModules).isSome = true
  sysD : ∀ ob, K.lookup sysModules = some ob → ob.cls = .type "dict"
  d__law_plain_errors : DefAt K mg "_law_plain_errors" s__law_plain_errors
  d__law_told_errors : DefAt K mg "_law_told_errors" s__law_told_errors
  d__law_classes : DefAt K mg "_law_classes" s__law_classes
  d_law : DefAt K mg "law" s_law
  top : (P.main.scope.names.lookup ("super" : Str)).isSome = false
  iBadScope : IniOk P K mg "BadScope" s_BadScope___init__ "BadScope.__init__" ["kind"]
  iBadText : IniOk P K mg "BadText" s_BadText___init__ "BadText.__init__" ["line", "column", "wanted"]
  iTooMany : IniOk P K mg "TooMany" s_TooMany___init__ "TooMany.__init__" ["most"]
  iUnnamed : IniOk P K mg "Unnamed" s_Unnamed___init__ "Unnamed.__init__" ["name"]
theorem sc__law_plain_errors : FnScope ["_law_found"] [] (defScope s__law_plain_errors) := ⟨rfl, rfl, rfl, by decide +kernel, rfl, by decide +kernel, by decide +kernel⟩
theorem sc__law_told_errors : FnScope ["_law_one", "_law_other", "_law_found", "_law_error"] ["_law_one", "_law_other"] (defScope s__law_told_errors) := ⟨rfl, rfl, rfl, by decide +kernel, rfl, by decide +kernel, by decide +kernel⟩
theorem sc__law_classes : FnScope ["_law_error", "_law_found", "_law_k", "_law_is_one"] ["_law_error"] (defScope s__law_classes) := ⟨rfl, rfl, rfl, by decide +kernel, rfl, by decide +kernel, by decide +kernel⟩
theorem sc_law : FnScope ["_law_script", "_law_draw", "_law_some", "_law_one", "_law_other", "_law_told", "_law_errors_here", "_law_classes_here", "_law_error", "_law_mine", "_law_due", "_law_entry", "_law_found"] ["_law_script"] (defScope s_law) := ⟨rfl, rfl, rfl, by decide +kernel, rfl, by decide +kernel, by decide +kernel⟩
theorem clsN_nd : clsN.Nodup := by decide +kernel
theorem plain_cls : ∀ x ∈ plainN, x ∈ clsN := by decide +kernel
theorem gE {X : Cx} (T : TxE X.prog X.K X.mg) {xs : List Str} (h1 : xs.all (fun x => plainN.contains x) = true) (h2 : glB X.env.scope xs = true) :
    ∀ x ∈ xs, PySem.W.excIn X.K (He.ga X.K x) He.veBase "ValueError.__new__" = true ∧ X.mg x = some (.ref (He.ga X.K x)) ∧ PySem.W.keepIn X.K (.ref (He.ga X.K x)) = true ∧ Gl X x := fun x hx => by
  have m : x ∈ plainN := by simpa using List.all_eq_true.mp h1 x hx
  have g : X.env.scope.names.lookup x = some .globalImplicit := of_decide_eq_true (List.all_eq_true.mp h2 x hx)
  exact ⟨T.x x m, T.g x (plain_cls x m), T.k x (plain_cls x m), g⟩
theorem gI {X : Cx} (T : TxE X.prog X.K X.mg) {xs : List Str} (h1 : xs.all (fun x => clsN.contains x) = true) (h2 : glB X.env.scope xs = true) :
    ∀ x ∈ xs, X.mg x = some (.ref (He.ga X.K x)) ∧ Gl X x := fun x hx => by
  have m : x ∈ clsN := by simpa using List.all_eq_true.mp h1 x hx
  have g : X.env.scope.names.lookup x = some .globalImplicit := of_decide_eq_true (List.all_eq_true.mp h2 x hx)
  exact ⟨T.g x m, g⟩
theorem pg0 : pl0.all (fun x => plainN.contains x) = true ∧ glB (defScope s__law_plain_errors) pl0 = true := by decide +kernel
theorem pg1 : pl1.all (fun x => plainN.contains x) = true ∧ glB (defScope s__law_plain_errors) pl1 = true := by decide +kernel
theorem pg2 : pl2.all (fun x => plainN.contains x) = true ∧ glB (defScope s__law_plain_errors) pl2 = true := by decide +kernel
theorem pg3 : pl3.all (fun x => plainN.contains x) = true ∧ glB (defScope s__law_plain_errors) pl3 = true := by decide +kernel
theorem pg4 : pl4.all (fun x => plainN.contains x) = true ∧ glB (defScope s__law_plain_errors) pl4 = true := by decide +kernel
theorem pg5 : pl5.all (fun x => plainN.contains x) = true ∧ glB (defScope s__law_plain_errors) pl5 = true := by decide +kernel
theorem cg0 : cl0.all (fun x => clsN.contains x) = true ∧ glB (defScope s__law_classes) cl0 = true := by decide +kernel
theorem cg1 : cl1.all (fun x => clsN.contains x) = true ∧ glB (defScope s__law_classes) cl1 = true := by decide +kernel
theorem cg2 : cl2.all (fun x => clsN.contains x) = true ∧ glB (defScope s__law_classes) cl2 = true := by decide +kernel
theorem cg3 : cl3.all (fun x => clsN.contains x) = true ∧ glB (defScope s__law_classes) cl3 = true := by decide +kernel
theorem cg4 : cl4.all (fun x => clsN.contains x) = true ∧ glB (defScope s__law_classes) cl4 = true := by decide +kernel
theorem cg5 : cl5.all (fun x => clsN.contains x) = true ∧ glB (defScope s__law_classes) cl5 = true := by decide +kernel
theorem cg6 : cl6.all (fun x => clsN.contains x) = true ∧ glB (defScope s__law_classes) cl6 = true := by decide +kernel
theorem cg7 : cl7.all (fun x => clsN.contains x) = true ∧ glB (defScope s__law_classes) cl7 = true := by decide +kernel
theorem cg8 : cl8.all (fun x => clsN.contains x) = true ∧ glB (defScope s__law_classes) cl8 = true := by decide +kernel
theorem cg9 : cl9.all (fun x => clsN.contains x) = true ∧ glB (defScope s__law_classes) cl9 = true := by decide +kernel
theorem cg10 : cl10.all (fun x => clsN.contains x) = true ∧ glB (defScope s__law_classes) cl10 = true := by decide +kernel
theorem pA0 {X : Cx} (T : TxE X.prog X.K X.mg) (hs : X.env.scope = defScope s__law_plain_errors) : PA X (exprsOf (stN s__law_plain_errors 0)) (tExcs (pl0.map (He.ga X.K))) := by
  have h : (exprsOf (stN s__law_plain_errors 0)).all okE = true := by decide +kernel
  have hm : (exprsOf (stN s__law_plain_errors 0)).map nmE = pl0 := by decide +kernel
  have g := gE T pg0.1 (by rw [hs]; exact pg0.2)
  rw [← hm] at g ⊢
  exact pa_excs PySem.F.excBase_ValueError h g
theorem pA1 {X : Cx} (T : TxE X.prog X.K X.mg) (hs : X.env.scope = defScope s__law_plain_errors) : PA X (exprsOf (stN s__law_plain_errors 1)) (tExcs (pl1.map (He.ga X.K))) := by
  have h : (exprsOf (stN s__law_plain_errors 1)).all okE = true := by decide +kernel
  have hm : (exprsOf (stN s__law_plain_errors 1)).map nmE = pl1 := by decide +kernel
  have g := gE T pg1.1 (by rw [hs]; exact pg1.2)
  rw [← hm] at g ⊢
  exact pa_excs PySem.F.excBase_ValueError h g
theorem pA2 {X : Cx} (T : TxE X.prog X.K X.mg) (hs : X.env.scope = defScope s__law_plain_errors) : PA X (exprsOf (stN s__law_plain_errors 2)) (tExcs (pl2.map (He.ga X.K))) := by
  have h : (exprsOf (stN s__law_plain_errors 2)).all okE = true := by decide +kernel
  have hm : (exprsOf (stN s__law_plain_errors 2)).map nmE = pl2 := by decide +kernel
  have g := gE T pg2.1 (by rw [hs]; exact pg2.2)
  rw [← hm] at g ⊢
  exact pa_excs PySem.F.excBase_ValueError h g
theorem pA3 {X : Cx} (T : TxE X.prog X.K X.mg) (hs : X.env.scope = defScope s__law_plain_errors) : PA X (exprsOf (stN s__law_plain_errors 3)) (tExcs (pl3.map (He.ga X.K))) := by
  have h : (exprsOf (stN s__law_plain_errors 3)).all okE = true := by decide +kernel
  have hm : (exprsOf (stN s__law_plain_errors 3)).map nmE = pl3 := by decide +kernel
  have g := gE T pg3.1 (by rw [hs]; exact pg3.2)
  rw [← hm] at g ⊢
  exact pa_excs PySem.F.excBase_ValueError h g
theorem pA4 {X : Cx} (T : TxE X.prog X.K X.mg) (hs : X.env.scope = defScope s__law_plain_errors) : PA X (exprsOf (stN s__law_plain_errors 4)) (tExcs (pl4.map (He.ga X.K))) := by
  have h : (exprsOf (stN s__law_plain_errors 4)).all okE = true := by decide +kernel
  have hm : (exprsOf (stN s__law_plain_errors 4)).map nmE = pl4 := by decide +kernel
  have g := gE T pg4.1 (by rw [hs]; exact pg4.2)
  rw [← hm] at g ⊢
  exact pa_excs PySem.F.excBase_ValueError h g
theorem pA5 {X : Cx} (T : TxE X.prog X.K X.mg) (hs : X.env.scope = defScope s__law_plain_errors) : PA X (exprsOf (stN s__law_plain_errors 5)) (tExcs (pl5.map (He.ga X.K))) := by
  have h : (exprsOf (stN s__law_plain_errors 5)).all okE = true := by decide +kernel
  have hm : (exprsOf (stN s__law_plain_errors 5)).map nmE = pl5 := by decide +kernel
  have g := gE T pg5.1 (by rw [hs]; exact pg5.2)
  rw [← hm] at g ⊢
  exact pa_excs PySem.F.excBase_ValueError h g
theorem cA0 {X : Cx} (T : TxE X.prog X.K X.mg) (hs : X.env.scope = defScope s__law_classes) (h0 : X.N[0]? = some ("_law_error" : Str)) (hv : Vis X.env.scope "_law_error") (hg : Gl X "isinstance") : PA X (exprsOf (stN s__law_classes 0)) (tIss X.K (cl0.map (He.ga X.K))) := by
  have h : (exprsOf (stN s__law_classes 0)).all (okI "_law_error") = true := by decide +kernel
  have hm : (exprsOf (stN s__law_classes 0)).map nmI = cl0 := by decide +kernel
  have g := gI T cg0.1 (by rw [hs]; exact cg0.2)
  rw [← hm] at g ⊢
  exact pa_iss T.b_isinstance hg h0 hv (by decide) (by decide) h g
theorem cA1 {X : Cx} (T : TxE X.prog X.K X.mg) (hs : X.env.scope = defScope s__law_classes) (h0 : X.N[0]? = some ("_law_error" : Str)) (hv : Vis X.env.scope "_law_error") (hg : Gl X "isinstance") : PA X (exprsOf (stN s__law_classes 1)) (tIss X.K (cl1.map (He.ga X.K))) := by
  have h : (exprsOf (stN s__law_classes 1)).all (okI "_law_error") = true := by decide +kernel
  have hm : (exprsOf (stN s__law_classes 1)).map nmI = cl1 := by decide +kernel
  have g := gI T cg1.1 (by rw [hs]; exact cg1.2)
  rw [← hm] at g ⊢
  exact pa_iss T.b_isinstance hg h0 hv (by decide) (by decide) h g
theorem cA2 {X : Cx} (T : TxE X.prog X.K X.mg) (hs : X.env.scope = defScope s__law_classes) (h0 : X.N[0]? = some ("_law_error" : Str)) (hv : Vis X.env.scope "_law_error") (hg : Gl X "isinstance") : PA X (exprsOf (stN s__law_classes 2)) (tIss X.K (cl2.map (He.ga X.K))) := by
  have h : (exprsOf (stN s__law_classes 2)).all (okI "_law_error") = true := by decide +kernel
  have hm : (exprsOf (stN s__law_classes 2)).map nmI = cl2 := by decide +kernel
  have g := gI T cg2.1 (by rw [hs]; exact cg2.2)
  rw [← hm] at g ⊢
  exact pa_iss T.b_isinstance hg h0 hv (by decide) (by decide) h g
theorem cA3 {X : Cx} (T : TxE X.prog X.K X.mg) (hs : X.env.scope = defScope s__law_classes) (h0 : X.N[0]? = some ("_law_error" : Str)) (hv : Vis X.env.scope "_law_error") (hg : Gl X "isinstance") : PA X (exprsOf (stN s__law_classes 3)) (tIss X.K (cl3.map (He.ga X.K))) := by
  have h : (exprsOf (stN s__law_classes 3)).all (okI "_law_error") = true := by decide +kernel
  have hm : (exprsOf (stN s__law_classes 3)).map nmI = cl3 := by decide +kernel
  have g := gI T cg3.1 (by rw [hs]; exact cg3.2)
  rw [← hm] at g ⊢
  exact pa_iss T.b_isinstance hg h0 hv (by decide) (by decide) h g
theorem cA4 {X : Cx} (T : TxE X.prog X.K X.mg) (hs : X.env.scope = defScope s__law_classes) (h0 : X.N[0]? = some ("_law_error" : Str)) (hv : Vis X.env.scope "_law_error") (hg : Gl X "isinstance") : PA X (exprsOf (stN s__law_classes 4)) (tIss X.K (cl4.map (He.ga X.K))) := by
  have h : (exprsOf (stN s__law_classes 4)).all (okI "_law_error") = true := by decide +kernel
  have hm : (exprsOf (stN s__law_classes 4)).map nmI = cl4 := by decide +kernel
  have g := gI T cg4.1 (by rw [hs]; exact cg4.2)
  rw [← hm] at g ⊢
  exact pa_iss T.b_isinstance hg h0 hv (by decide) (by decide) h g
theorem cA5 {X : Cx} (T : TxE X.prog X.K X.mg) (hs : X.env.scope = defScope s__law_classes) (h0 : X.N[0]? = some ("_law_error" : Str)) (hv : Vis X.env.scope "_law_error") (hg : Gl X "isinstance") : PA X (exprsOf (stN s__law_classes 5)) (tIss X.K (cl5.map (He.ga X.K))) := by
  have h : (exprsOf (stN s__law_classes 5)).all (okI "_law_error") = true := by decide +kernel
  have hm : (exprsOf (stN s__law_classes 5)).map nmI = cl5 := by decide +kernel
  have g := gI T cg5.1 (by rw [hs]; exact cg5.2)
  rw [← hm] at g ⊢
  exact pa_iss T.b_isinstance hg h0 hv (by decide) (by decide) h g
theorem cA6 {X : Cx} (T : TxE X.prog X.K X.mg) (hs : X.env.scope = defScope s__law_classes) (h0 : X.N[0]? = some ("_law_error" : Str)) (hv : Vis X.env.scope "_law_error") (hg : Gl X "isinstance") : PA X (exprsOf (stN s__law_classes 6)) (tIss X.K (cl6.map (He.ga X.K))) := by
  have h : (exprsOf (stN s__law_classes 6)).all (okI "_law_error") = true := by decide +kernel
  have hm : (exprsOf (stN s__law_classes 6)).map nmI = cl6 := by decide +kernel
  have g := gI T cg6.1 (by rw [hs]; exact cg6.2)
  rw [← hm] at g ⊢
  exact pa_iss T.b_isinstance hg h0 hv (by decide) (by decide) h g
theorem cA7 {X : Cx} (T : TxE X.prog X.K X.mg) (hs : X.env.scope = defScope s__law_classes) (h0 : X.N[0]? = some ("_law_error" : Str)) (hv : Vis X.env.scope "_law_error") (hg : Gl X "isinstance") : PA X (exprsOf (stN s__law_classes 7)) (tIss X.K (cl7.map (He.ga X.K))) := by
  have h : (exprsOf (stN s__law_classes 7)).all (okI "_law_error") = true := by decide +kernel
  have hm : (exprsOf (stN s__law_classes 7)).map nmI = cl7 := by decide +kernel
  have g := gI T cg7.1 (by rw [hs]; exact cg7.2)
  rw [← hm] at g ⊢
  exact pa_iss T.b_isinstance hg h0 hv (by decide) (by decide) h g
theorem cA8 {X : Cx} (T : TxE X.prog X.K X.mg) (hs : X.env.scope = defScope s__law_classes) (h0 : X.N[0]? = some ("_law_error" : Str)) (hv : Vis X.env.scope "_law_error") (hg : Gl X "isinstance") : PA X (exprsOf (stN s__law_classes 8)) (tIss X.K (cl8.map (He.ga X.K))) := by
  have h : (exprsOf (stN s__law_classes 8)).all (okI "_law_error") = true := by decide +kernel
  have hm : (exprsOf (stN s__law_classes 8)).map nmI = cl8 := by decide +kernel
  have g := gI T cg8.1 (by rw [hs]; exact cg8.2)
  rw [← hm] at g ⊢
  exact pa_iss T.b_isinstance hg h0 hv (by decide) (by decide) h g
theorem cA9 {X : Cx} (T : TxE X.prog X.K X.mg) (hs : X.env.scope = defScope s__law_classes) (h0 : X.N[0]? = some ("_law_error" : Str)) (hv : Vis X.env.scope "_law_error") (hg : Gl X "isinstance") : PA X (exprsOf (stN s__law_classes 9)) (tIss X.K (cl9.map (He.ga X.K))) := by
  have h : (exprsOf (stN s__law_classes 9)).all (okI "_law_error") = true := by decide +kernel
  have hm : (exprsOf (stN s__law_classes 9)).map nmI = cl9 := by decide +kernel
  have g := gI T cg9.1 (by rw [hs]; exact cg9.2)
  rw [← hm] at g ⊢
  exact pa_iss T.b_isinstance hg h0 hv (by decide) (by decide) h g
theorem cA10 {X : Cx} (T : TxE X.prog X.K X.mg) (hs : X.env.scope = defScope s__law_classes) (h0 : X.N[0]? = some ("_law_error" : Str)) (hv : Vis X.env.scope "_law_error") (hg : Gl X "isinstance") : PA X (exprsOf (stN s__law_classes 10)) (tIss X.K (cl10.map (He.ga X.K))) := by
  have h : (exprsOf (stN s__law_classes 10)).all (okI "_law_error") = true := by decide +kernel
  have hm : (exprsOf (stN s__law_classes 10)).map nmI = cl10 := by decide +kernel
  have g := gI T cg10.1 (by rw [hs]; exact cg10.2)
  rw [← hm] at g ⊢
  exact pa_iss T.b_isinstance hg h0 hv (by decide) (by decide) h g
theorem DcV.keep {H H' : Hp} {d : Option Addr} (k : Kx [] H H') (h : DcV H d) : DcV H' d := by
  rcases h with h | ⟨dd, fs, e, h⟩
  · exact .inl h
  · exact .inr ⟨dd, fs, e, k _ _ h (by simp)⟩
def sp_plain (K : PySem.W.Frag) : Sp := fun vs H Q _ => vs = [] ∧ ∀ (H' : Hp) (p : Addr) (xs : List V), Kx [] H H' → H p = none → H' p = some (.lst xs) → ErL H' xs (plainN.map (He.ga K)) → Q (.ref p) H'
def sp_classes (K : PySem.W.Frag) : Sp := fun vs H Q _ => ∃ (a : Addr) (x : Str) (d : Option Addr) (i : Nat), vs = [.ref a] ∧ H a = some (ExV (.ref (He.ga K x)) d a) ∧ DcV H d ∧ clsN[i]? = some x ∧
  ∀ (H' : Hp) (p : Addr), Kx [] H H' → H p = none → H' p = some (.lst [.int (i : Nat)]) → Q (.ref p) H'
section
variable {P : Program} {w : World} {K : PySem.W.Frag} {mg : Str → Option Value} {base : Heap}
theorem ok__law_plain_errors (T : TxE P K mg) : FnAt P w K mg base CX0 3 "_law_plain_errors" [] (sp_plain K) := by
  refine FnAt.mk T.d__law_plain_errors (fun _ _ _ _ _ _ us hl => match us, hl with | [], _ => rfl) fun f fd F => ?_
  refine F.ok sc__law_plain_errors (fun vs H Q E h => by obtain ⟨rfl, _⟩ := h; rfl) (fun cdv A outer s H vs Q E hr h => ?_)
  obtain ⟨rfl, k⟩ := h
  refine ⟨_, (pss_cons (ps_set (i := 0) sc__law_plain_errors.nd rfl (by first | exact Or.inl rfl | exact Or.inr rfl) (pe_lst (pA0 T rfl)))
    (pss_cons (ps_set (i := 0) sc__law_plain_errors.nd rfl (by first | exact Or.inl rfl | exact Or.inr rfl) (pe_op op_cat (pv 0) (pe_lst (pA1 T rfl))))
    (pss_cons (ps_set (i := 0) sc__law_plain_errors.nd rfl (by first | exact Or.inl rfl | exact Or.inr rfl) (pe_op op_cat (pv 0) (pe_lst (pA2 T rfl))))
    (pss_cons (ps_set (i := 0) sc__law_plain_errors.nd rfl (by first | exact Or.inl rfl | exact Or.inr rfl) (pe_op op_cat (pv 0) (pe_lst (pA3 T rfl))))
    (pss_cons (ps_set (i := 0) sc__law_plain_errors.nd rfl (by first | exact Or.inl rfl | exact Or.inr rfl) (pe_op op_cat (pv 0) (pe_lst (pA4 T rfl))))
    (pss_cons (ps_set (i := 0) sc__law_plain_errors.nd rfl (by first | exact Or.inl rfl | exact Or.inr rfl) (pe_op op_cat (pv 0) (pe_lst (pA5 T rfl))))
    (pss_one (ps_ret (pv 0))))))))), ?_⟩
  walk_at "go"
  refine rd_excs (Cs := pl0.map (He.ga K)) fun xs0 H0 k0 e0 => ?_
  have l0 := e0.len
  rw [List.length_map] at l0
  refine ⟨by rw [l0]; decide, fun p0 n0 => ?_⟩
  have x0 : Kx [] H (upd H0 p0 (.lst xs0)) := k0.nw n0
  have f0 := e0.keep (Kx.refl.nw (o := .lst xs0) n0)
  have h0 : upd H0 p0 (.lst xs0) p0 = some (.lst xs0) := upd_same
  generalize upd H0 p0 (.lst xs0) = G0 at x0 f0 h0 ⊢
  walk_at "rd"
  refine rd_excs (Cs := pl1.map (He.ga K)) fun ys1 J1 j1 e1 => ?_
  have l1 := e1.len
  rw [List.length_map] at l1
  refine ⟨by rw [l1]; decide, fun q1 m1 => ?_⟩
  have g1 := j1 _ _ h0 (by simp)
  have a1 : p0 ≠ q1 := ne_of_none g1 m1
  have lt1 := f0.len
  rw [List.length_map] at lt1
  refine ⟨p0, q1, xs0, ys1, rfl, rfl, (upd_ne a1).trans g1, upd_same, by rw [lt1, l1]; decide, fun p1 n1 => ?_⟩
  have k1 : Kx [] J1 (upd (upd J1 q1 (.lst ys1)) p1 (.lst (xs0 ++ ys1))) := (Kx.refl.nw m1).nw n1
  have x1 := (x0.trans j1).trans k1
  have f1 := (f0.keep (j1.trans k1)).app (e1.keep k1)
  rw [← List.map_append] at f1
  have h1 : upd (upd J1 q1 (.lst ys1)) p1 (.lst (xs0 ++ ys1)) p1 = some (.lst (xs0 ++ ys1)) := upd_same
  have z1 : G0 p1 = none := (j1.trans (Kx.refl.nw m1)).back n1 (by simp)
  generalize upd (upd J1 q1 (.lst ys1)) p1 (.lst (xs0 ++ ys1)) = G1 at k1 x1 f1 h1 ⊢
  generalize xs0 ++ ys1 = xs1 at f1 h1 ⊢
  walk_at "rd"
  refine rd_excs (Cs := pl2.map (He.ga K)) fun ys2 J2 j2 e2 => ?_
  have l2 := e2.len
  rw [List.length_map] at l2
  refine ⟨by rw [l2]; decide, fun q2 m2 => ?_⟩
  have g2 := j2 _ _ h1 (by simp)
  have a2 : p1 ≠ q2 := ne_of_none g2 m2
  have lt2 := f1.len
  rw [List.length_map] at lt2
  refine ⟨p1, q2, xs1, ys2, rfl, rfl, (upd_ne a2).trans g2, upd_same, by rw [lt2, l2]; decide, fun p2 n2 => ?_⟩
  have k2 : Kx [] J2 (upd (upd J2 q2 (.lst ys2)) p2 (.lst (xs1 ++ ys2))) := (Kx.refl.nw m2).nw n2
  have x2 := (x1.trans j2).trans k2
  have f2 := (f1.keep (j2.trans k2)).app (e2.keep k2)
  rw [← List.map_append] at f2
  have h2 : upd (upd J2 q2 (.lst ys2)) p2 (.lst (xs1 ++ ys2)) p2 = some (.lst (xs1 ++ ys2)) := upd_same
  have z2 : G1 p2 = none := (j2.trans (Kx.refl.nw m2)).back n2 (by simp)
  generalize upd (upd J2 q2 (.lst ys2)) p2 (.lst (xs1 ++ ys2)) = G2 at k2 x2 f2 h2 ⊢
  generalize xs1 ++ ys2 = xs2 at f2 h2 ⊢
  walk_at "rd"
  refine rd_excs (Cs := pl3.map (He.ga K)) fun ys3 J3 j3 e3 => ?_
  have l3 := e3.len
  rw [List.length_map] at l3
  refine ⟨by rw [l3]; decide, fun q3 m3 => ?_⟩
  have g3 := j3 _ _ h2 (by simp)
  have a3 : p2 ≠ q3 := ne_of_none g3 m3
  have lt3 := f2.len
  rw [List.length_map] at lt3
  refine ⟨p2, q3, xs2, ys3, rfl, rfl, (upd_ne a3).trans g3, upd_same, by rw [lt3, l3]; decide, fun p3 n3 => ?_⟩
  have k3 : Kx [] J3 (upd (upd J3 q3 (.lst ys3)) p3 (.lst (xs2 ++ ys3))) := (Kx.refl.nw m3).nw n3
  have x3 := (x2.trans j3).trans k3
  have f3 := (f2.keep (j3.trans k3)).app (e3.keep k3)
  rw [← List.map_append] at f3
  have h3 : upd (upd J3 q3 (.lst ys3)) p3 (.lst (xs2 ++ ys3)) p3 = some (.lst (xs2 ++ ys3)) := upd_same
  have z3 : G2 p3 = none := (j3.trans (Kx.refl.nw m3)).back n3 (by simp)
  generalize upd (upd J3 q3 (.lst ys3)) p3 (.lst (xs2 ++ ys3)) = G3 at k3 x3 f3 h3 ⊢
  generalize xs2 ++ ys3 = xs3 at f3 h3 ⊢
  walk_at "rd"
  refine rd_excs (Cs := pl4.map (He.ga K)) fun ys4 J4 j4 e4 => ?_
  have l4 := e4.len
  rw [List.length_map] at l4
  refine ⟨by rw [l4]; decide, fun q4 m4 => ?_⟩
  have g4 := j4 _ _ h3 (by simp)
  have a4 : p3 ≠ q4 := ne_of_none g4 m4
  have lt4 := f3.len
  rw [List.length_map] at lt4
  refine ⟨p3, q4, xs3, ys4, rfl, rfl, (upd_ne a4).trans g4, upd_same, by rw [lt4, l4]; decide, fun p4 n4 => ?_⟩
  have k4 : Kx [] J4 (upd (upd J4 q4 (.lst ys4)) p4 (.lst (xs3 ++ ys4))) := (Kx.refl.nw m4).nw n4
  have x4 := (x3.trans j4).trans k4
  have f4 := (f3.keep (j4.trans k4)).app (e4.keep k4)
  rw [← List.map_append] at f4
  have h4 : upd (upd J4 q4 (.lst ys4)) p4 (.lst (xs3 ++ ys4)) p4 = some (.lst (xs3 ++ ys4)) := upd_same
  have z4 : G3 p4 = none := (j4.trans (Kx.refl.nw m4)).back n4 (by simp)
  generalize upd (upd J4 q4 (.lst ys4)) p4 (.lst (xs3 ++ ys4)) = G4 at k4 x4 f4 h4 ⊢
  generalize xs3 ++ ys4 = xs4 at f4 h4 ⊢
  walk_at "rd"
  refine rd_excs (Cs := pl5.map (He.ga K)) fun ys5 J5 j5 e5 => ?_
  have l5 := e5.len
  rw [List.length_map] at l5
  refine ⟨by rw [l5]; decide, fun q5 m5 => ?_⟩
  have g5 := j5 _ _ h4 (by simp)
  have a5 : p4 ≠ q5 := ne_of_none g5 m5
  have lt5 := f4.len
  rw [List.length_map] at lt5
  refine ⟨p4, q5, xs4, ys5, rfl, rfl, (upd_ne a5).trans g5, upd_same, by rw [lt5, l5]; decide, fun p5 n5 => ?_⟩
  have k5 : Kx [] J5 (upd (upd J5 q5 (.lst ys5)) p5 (.lst (xs4 ++ ys5))) := (Kx.refl.nw m5).nw n5
  have x5 := (x4.trans j5).trans k5
  have f5 := (f4.keep (j5.trans k5)).app (e5.keep k5)
  rw [← List.map_append] at f5
  have h5 : upd (upd J5 q5 (.lst ys5)) p5 (.lst (xs4 ++ ys5)) p5 = some (.lst (xs4 ++ ys5)) := upd_same
  have z5 : G4 p5 = none := (j5.trans (Kx.refl.nw m5)).back n5 (by simp)
  generalize upd (upd J5 q5 (.lst ys5)) p5 (.lst (xs4 ++ ys5)) = G5 at k5 x5 f5 h5 ⊢
  generalize xs4 ++ ys5 = xs5 at f5 h5 ⊢
  walk_at "rd"
  exact k G5 p5 xs5 x5 (x4.back z5 (by simp)) h5 f5
theorem ok__law_classes (T : TxE P K mg) : FnAt P w K mg base CX0 1 "_law_classes" ["_law_error"] (sp_classes K) := by
  refine FnAt.mk T.d__law_classes (fun _ _ _ _ _ _ us hl => match us, hl with | [_], _ => rfl) fun f fd F => ?_
  refine F.ok sc__law_classes (fun vs H Q E h => by obtain ⟨a, x, d, i, rfl, _⟩ := h; rfl) (fun cdv A outer s H vs Q E hr h => ?_)
  obtain ⟨a, x, d, i, rfl, ha, hd, hx, k⟩ := h
  have hxm := List.mem_of_getElem? hx
  have hE := T.e x hxm
  refine ⟨_, (pss_cons (ps_set (i := 1) sc__law_classes.nd rfl (by first | exact Or.inl rfl | exact Or.inr rfl) (pe_lst (cA0 T rfl rfl (.inl rfl) rfl)))
    (pss_cons (ps_set (i := 1) sc__law_classes.nd rfl (by first | exact Or.inl rfl | exact Or.inr rfl) (pe_op op_cat (pv 1) (pe_lst (cA1 T rfl rfl (.inl rfl) rfl))))
    (pss_cons (ps_set (i := 1) sc__law_classes.nd rfl (by first | exact Or.inl rfl | exact Or.inr rfl) (pe_op op_cat (pv 1) (pe_lst (cA2 T rfl rfl (.inl rfl) rfl))))
    (pss_cons (ps_set (i := 1) sc__law_classes.nd rfl (by first | exact Or.inl rfl | exact Or.inr rfl) (pe_op op_cat (pv 1) (pe_lst (cA3 T rfl rfl (.inl rfl) rfl))))
    (pss_cons (ps_set (i := 1) sc__law_classes.nd rfl (by first | exact Or.inl rfl | exact Or.inr rfl) (pe_op op_cat (pv 1) (pe_lst (cA4 T rfl rfl (.inl rfl) rfl))))
    (pss_cons (ps_set (i := 1) sc__law_classes.nd rfl (by first | exact Or.inl rfl | exact Or.inr rfl) (pe_op op_cat (pv 1) (pe_lst (cA5 T rfl rfl (.inl rfl) rfl))))
    (pss_cons (ps_set (i := 1) sc__law_classes.nd rfl (by first | exact Or.inl rfl | exact Or.inr rfl) (pe_op op_cat (pv 1) (pe_lst (cA6 T rfl rfl (.inl rfl) rfl))))
    (pss_cons (ps_set (i := 1) sc__law_classes.nd rfl (by first | exact Or.inl rfl | exact Or.inr rfl) (pe_op op_cat (pv 1) (pe_lst (cA7 T rfl rfl (.inl rfl) rfl))))
    (pss_cons (ps_set (i := 1) sc__law_classes.nd rfl (by first | exact Or.inl rfl | exact Or.inr rfl) (pe_op op_cat (pv 1) (pe_lst (cA8 T rfl rfl (.inl rfl) rfl))))
    (pss_cons (ps_set (i := 1) sc__law_classes.nd rfl (by first | exact Or.inl rfl | exact Or.inr rfl) (pe_op op_cat (pv 1) (pe_lst (cA9 T rfl rfl (.inl rfl) rfl))))
    (pss_cons (ps_set (i := 1) sc__law_classes.nd rfl (by first | exact Or.inl rfl | exact Or.inr rfl) (pe_op op_cat (pv 1) (pe_lst (cA10 T rfl rfl (.inl rfl) rfl))))
    (pss_one (ps_ret (pe_lc (own := [("_law_k", 2), ("_law_is_one", 3)]) (g := (gTup K 2 (gCons (gName 2) (gCons (gName 3) gNil)))) (by rfl) sc__law_classes.nd (pi_enum rfl T.b_enumerate (pa_cons (pv 1) pa_nil)) (blkOk_by (own := [("_law_k", 2), ("_law_is_one", 3)]) (N := ["_law_error", "_law_found", "_law_k", "_law_is_one"]) (sc := defScope s__law_classes) (by decide +kernel)) (fun _ _ _ _ _ => by exact (pg_tup (by rfl) (pgs_cons (pg_name (i := 2) sc__law_classes.nd rfl (by first | exact Or.inl rfl | exact Or.inr rfl)) (pgs_cons (pg_name (i := 3) sc__law_classes.nd rfl (by first | exact Or.inl rfl | exact Or.inr rfl)) pgs_nil)))) (fun _ _ _ _ _ => (pts_one (pt_val (pv 3)))) (fun _ _ _ _ _ => (pv 2)))))))))))))))), ?_⟩
  walk_at "go"
  have mem : ∀ y ∈ clsN, PySem.W.kitOne K (.ref (He.ga K x)) (.ref (He.ga K y)) = some (decide (x = y)) := fun y hy => T.one x hxm y hy
  have m0 : ∀ y ∈ cl0, y ∈ clsN := by decide +kernel
  refine rd_iss (ys := cl0) rfl ha hd hE (He.ga K) (fun y => decide (x = y)) (fun y hy => mem y (m0 y hy)) ?_
  refine ⟨by rw [List.length_map]; decide, fun p0 n0 => ?_⟩
  have x0 : Kx [] H (upd H p0 (.lst (cl0.map fun y => .bl (decide (x = y))))) := Kx.refl.nw n0
  have h0 : upd H p0 (.lst (cl0.map fun y => .bl (decide (x = y)))) p0 = some (.lst (cl0.map fun y => .bl (decide (x = y)))) := upd_same
  generalize upd H p0 (.lst (cl0.map fun y => .bl (decide (x = y)))) = G0 at x0 h0 ⊢
  walk_at "rd"
  have ha1 := x0 _ _ ha (by simp)
  have hd1 := hd.keep x0
  have m1 : ∀ y ∈ cl1, y ∈ clsN := by decide +kernel
  refine rd_iss (ys := cl1) rfl ha1 hd1 hE (He.ga K) (fun y => decide (x = y)) (fun y hy => mem y (m1 y hy)) ?_
  refine ⟨by rw [List.length_map]; decide, fun q1 w1 => ?_⟩
  have a1 : p0 ≠ q1 := ne_of_none h0 w1
  refine ⟨p0, q1, _, _, rfl, rfl, (upd_ne a1).trans h0, upd_same, by rw [List.length_map, List.length_map]; decide, fun p1 n1 => ?_⟩
  rw [← List.map_append]
  have x1 : Kx [] H (upd (upd G0 q1 (.lst (cl1.map fun y => .bl (decide (x = y))))) p1 (.lst ((cl0 ++ cl1).map fun y => .bl (decide (x = y))))) := (x0.nw w1).nw n1
  have h1 : upd (upd G0 q1 (.lst (cl1.map fun y => .bl (decide (x = y))))) p1 (.lst ((cl0 ++ cl1).map fun y => .bl (decide (x = y)))) p1 = some (.lst ((cl0 ++ cl1).map fun y => .bl (decide (x = y)))) := upd_same
  generalize upd (upd G0 q1 (.lst (cl1.map fun y => .bl (decide (x = y))))) p1 (.lst ((cl0 ++ cl1).map fun y => .bl (decide (x = y)))) = G1 at x1 h1 ⊢
  walk_at "rd"
  have ha2 := x1 _ _ ha (by simp)
  have hd2 := hd.keep x1
  have m2 : ∀ y ∈ cl2, y ∈ clsN := by decide +kernel
  refine rd_iss (ys := cl2) rfl ha2 hd2 hE (He.ga K) (fun y => decide (x = y)) (fun y hy => mem y (m2 y hy)) ?_
  refine ⟨by rw [List.length_map]; decide, fun q2 w2 => ?_⟩
  have a2 : p1 ≠ q2 := ne_of_none h1 w2
  refine ⟨p1, q2, _, _, rfl, rfl, (upd_ne a2).trans h1, upd_same, by rw [List.length_map, List.length_map]; decide, fun p2 n2 => ?_⟩
  rw [← List.map_append]
  have x2 : Kx [] H (upd (upd G1 q2 (.lst (cl2.map fun y => .bl (decide (x = y))))) p2 (.lst (((cl0 ++ cl1) ++ cl2).map fun y => .bl (decide (x = y))))) := (x1.nw w2).nw n2
  have h2 : upd (upd G1 q2 (.lst (cl2.map fun y => .bl (decide (x = y))))) p2 (.lst (((cl0 ++ cl1) ++ cl2).map fun y => .bl (decide (x = y)))) p2 = some (.lst (((cl0 ++ cl1) ++ cl2).map fun y => .bl (decide (x = y)))) := upd_same
  generalize upd (upd G1 q2 (.lst (cl2.map fun y => .bl (decide (x = y))))) p2 (.lst (((cl0 ++ cl1) ++ cl2).map fun y => .bl (decide (x = y)))) = G2 at x2 h2 ⊢
  walk_at "rd"
  have ha3 := x2 _ _ ha (by simp)
  have hd3 := hd.keep x2
  have m3 : ∀ y ∈ cl3, y ∈ clsN := by decide +kernel
  refine rd_iss (ys := cl3) rfl ha3 hd3 hE (He.ga K) (fun y => decide (x = y)) (fun y hy => mem y (m3 y hy)) ?_
  refine ⟨by rw [List.length_map]; decide, fun q3 w3 => ?_⟩
  have a3 : p2 ≠ q3 := ne_of_none h2 w3
  refine ⟨p2, q3, _, _, rfl, rfl, (upd_ne a3).trans h2, upd_same, by rw [List.length_map, List.length_map]; decide, fun p3 n3 => ?_⟩
  rw [← List.map_append]
  have x3 : Kx [] H (upd (upd G2 q3 (.lst (cl3.map fun y => .bl (decide (x = y))))) p3 (.lst ((((cl0 ++ cl1) ++ cl2) ++ cl3).map fun y => .bl (decide (x = y))))) := (x2.nw w3).nw n3
  have h3 : upd (upd G2 q3 (.lst (cl3.map fun y => .bl (decide (x = y))))) p3 (.lst ((((cl0 ++ cl1) ++ cl2) ++ cl3).map fun y => .bl (decide (x = y)))) p3 = some (.lst ((((cl0 ++ cl1) ++ cl2) ++ cl3).map fun y => .bl (decide (x = y)))) := upd_same
  generalize upd (upd G2 q3 (.lst (cl3.map fun y => .bl (decide (x = y))))) p3 (.lst ((((cl0 ++ cl1) ++ cl2) ++ cl3).map fun y => .bl (decide (x = y)))) = G3 at x3 h3 ⊢
  walk_at "rd"
  have ha4 := x3 _ _ ha (by simp)
  have hd4 := hd.keep x3
  have m4 : ∀ y ∈ cl4, y ∈ clsN := by decide +kernel
  refine rd_iss (ys := cl4) rfl ha4 hd4 hE (He.ga K) (fun y => decide (x = y)) (fun y hy => mem y (m4 y hy)) ?_
  refine ⟨by rw [List.length_map]; decide, fun q4 w4 => ?_⟩
  have a4 : p3 ≠ q4 := ne_of_none h3 w4
  refine ⟨p3, q4, _, _, rfl, rfl, (upd_ne a4).trans h3, upd_same, by rw [List.length_map, List.length_map]; decide, fun p4 n4 => ?_⟩
  rw [← List.map_append]
  have x4 : Kx [] H (upd (upd G3 q4 (.lst (cl4.map fun y => .bl (decide (x = y))))) p4 (.lst (((((cl0 ++ cl1) ++ cl2) ++ cl3) ++ cl4).map fun y => .bl (decide (x = y))))) := (x3.nw w4).nw n4
  have h4 : upd (upd G3 q4 (.lst (cl4.map fun y => .bl (decide (x = y))))) p4 (.lst (((((cl0 ++ cl1) ++ cl2) ++ cl3) ++ cl4).map fun y => .bl (decide (x = y)))) p4 = some (.lst (((((cl0 ++ cl1) ++ cl2) ++ cl3) ++ cl4).map fun y => .bl (decide (x = y)))) := upd_same
  generalize upd (upd G3 q4 (.lst (cl4.map fun y => .bl (decide (x = y))))) p4 (.lst (((((cl0 ++ cl1) ++ cl2) ++ cl3) ++ cl4).map fun y => .bl (decide (x = y)))) = G4 at x4 h4 ⊢
  walk_at "rd"
  have ha5 := x4 _ _ ha (by simp)
  have hd5 := hd.keep x4
  have m5 : ∀ y ∈ cl5, y ∈ clsN := by decide +kernel
  refine rd_iss (ys := cl5) rfl ha5 hd5 hE (He.ga K) (fun y => decide (x = y)) (fun y hy => mem y (m5 y hy)) ?_
  refine ⟨by rw [List.length_map]; decide, fun q5 w5 => ?_⟩
  have a5 : p4 ≠ q5 := ne_of_none h4 w5
  refine ⟨p4, q5, _, _, rfl, rfl, (upd_ne a5).trans h4, upd_same, by rw [List.length_map, List.length_map]; decide, fun p5 n5 => ?_⟩
  rw [← List.map_append]
  have x5 : Kx [] H (upd (upd G4 q5 (.lst (cl5.map fun y => .bl (decide (x = y))))) p5 (.lst ((((((cl0 ++ cl1) ++ cl2) ++ cl3) ++ cl4) ++ cl5).map fun y => .bl (decide (x = y))))) := (x4.nw w5).nw n5
  have h5 : upd (upd G4 q5 (.lst (cl5.map fun y => .bl (decide (x = y))))) p5 (.lst ((((((cl0 ++ cl1) ++ cl2) ++ cl3) ++ cl4) ++ cl5).map fun y => .bl (decide (x = y)))) p5 = some (.lst ((((((cl0 ++ cl1) ++ cl2) ++ cl3) ++ cl4) ++ cl5).map fun y => .bl (decide (x = y)))) := upd_same
  generalize upd (upd G4 q5 (.lst (cl5.map fun y => .bl (decide (x = y))))) p5 (.lst ((((((cl0 ++ cl1) ++ cl2) ++ cl3) ++ cl4) ++ cl5).map fun y => .bl (decide (x = y)))) = G5 at x5 h5 ⊢
  walk_at "rd"
  have ha6 := x5 _ _ ha (by simp)
  have hd6 := hd.keep x5
  have m6 : ∀ y ∈ cl6, y ∈ clsN := by decide +kernel
  refine rd_iss (ys := cl6) rfl ha6 hd6 hE (He.ga K) (fun y => decide (x = y)) (fun y hy => mem y (m6 y hy)) ?_
  refine ⟨by rw [List.length_map]; decide, fun q6 w6 => ?_⟩
  have a6 : p5 ≠ q6 := ne_of_none h5 w6
  refine ⟨p5, q6, _, _, rfl, rfl, (upd_ne a6).trans h5, upd_same, by rw [List.length_map, List.length_map]; decide, fun p6 n6 => ?_⟩
  rw [← List.map_append]
  have x6 : Kx [] H (upd (upd G5 q6 (.lst (cl6.map fun y => .bl (decide (x = y))))) p6 (.lst (((((((cl0 ++ cl1) ++ cl2) ++ cl3) ++ cl4) ++ cl5) ++ cl6).map fun y => .bl (decide (x = y))))) := (x5.nw w6).nw n6
  have h6 : upd (upd G5 q6 (.lst (cl6.map fun y => .bl (decide (x = y))))) p6 (.lst (((((((cl0 ++ cl1) ++ cl2) ++ cl3) ++ cl4) ++ cl5) ++ cl6).map fun y => .bl (decide (x = y)))) p6 = some (.lst (((((((cl0 ++ cl1) ++ cl2) ++ cl3) ++ cl4) ++ cl5) ++ cl6).map fun y => .bl (decide (x = y)))) := upd_same
  generalize upd (upd G5 q6 (.lst (cl6.map fun y => .bl (decide (x = y))))) p6 (.lst (((((((cl0 ++ cl1) ++ cl2) ++ cl3) ++ cl4) ++ cl5) ++ cl6).map fun y => .bl (decide (x = y)))) = G6 at x6 h6 ⊢
  walk_at "rd"
  have ha7 := x6 _ _ ha (by simp)
  have hd7 := hd.keep x6
  have m7 : ∀ y ∈ cl7, y ∈ clsN := by decide +kernel
  refine rd_iss (ys := cl7) rfl ha7 hd7 hE (He.ga K) (fun y => decide (x = y)) (fun y hy => mem y (m7 y hy)) ?_
  refine ⟨by rw [List.length_map]; decide, fun q7 w7 => ?_⟩
  have a7 : p6 ≠ q7 := ne_of_none h6 w7
  refine ⟨p6, q7, _, _, rfl, rfl, (upd_ne a7).trans h6, upd_same, by rw [List.length_map, List.length_map]; decide, fun p7 n7 => ?_⟩
  rw [← List.map_append]
  have x7 : Kx [] H (upd (upd G6 q7 (.lst (cl7.map fun y => .bl (decide (x = y))))) p7 (.lst ((((((((cl0 ++ cl1) ++ cl2) ++ cl3) ++ cl4) ++ cl5) ++ cl6) ++ cl7).map fun y => .bl (decide (x = y))))) := (x6.nw w7).nw n7
  have h7 : upd (upd G6 q7 (.lst (cl7.map fun y => .bl (decide (x = y))))) p7 (.lst ((((((((cl0 ++ cl1) ++ cl2) ++ cl3) ++ cl4) ++ cl5) ++ cl6) ++ cl7).map fun y => .bl (decide (x = y)))) p7 = some (.lst ((((((((cl0 ++ cl1) ++ cl2) ++ cl3) ++ cl4) ++ cl5) ++ cl6) ++ cl7).map fun y => .bl (decide (x = y)))) := upd_same
  generalize upd (upd G6 q7 (.lst (cl7.map fun y => .bl (decide (x = y))))) p7 (.lst ((((((((cl0 ++ cl1) ++ cl2) ++ cl3) ++ cl4) ++ cl5) ++ cl6) ++ cl7).map fun y => .bl (decide (x = y)))) = G7 at x7 h7 ⊢
  walk_at "rd"
  have ha8 := x7 _ _ ha (by simp)
  have hd8 := hd.keep x7
  have m8 : ∀ y ∈ cl8, y ∈ clsN := by decide +kernel
  refine rd_iss (ys := cl8) rfl ha8 hd8 hE (He.ga K) (fun y => decide (x = y)) (fun y hy => mem y (m8 y hy)) ?_
  refine ⟨by rw [List.length_map]; decide, fun q8 w8 => ?_⟩
  have a8 : p7 ≠ q8 := ne_of_none h7 w8
  refine ⟨p7, q8, _, _, rfl, rfl, (upd_ne a8).trans h7, upd_same, by rw [List.length_map, List.length_map]; decide, fun p8 n8 => ?_⟩
  rw [← List.map_append]
  have x8 : Kx [] H (upd (upd G7 q8 (.lst (cl8.map fun y => .bl (decide (x = y))))) p8 (.lst (((((((((cl0 ++ cl1) ++ cl2) ++ cl3) ++ cl4) ++ cl5) ++ cl6) ++ cl7) ++ cl8).map fun y => .bl (decide (x = y))))) := (x7.nw w8).nw n8
  have h8 : upd (upd G7 q8 (.lst (cl8.map fun y => .bl (decide (x = y))))) p8 (.lst (((((((((cl0 ++ cl1) ++ cl2) ++ cl3) ++ cl4) ++ cl5) ++ cl6) ++ cl7) ++ cl8).map fun y => .bl (decide (x = y)))) p8 = some (.lst (((((((((cl0 ++ cl1) ++ cl2) ++ cl3) ++ cl4) ++ cl5) ++ cl6) ++ cl7) ++ cl8).map fun y => .bl (decide (x = y)))) := upd_same
  generalize upd (upd G7 q8 (.lst (cl8.map fun y => .bl (decide (x = y))))) p8 (.lst (((((((((cl0 ++ cl1) ++ cl2) ++ cl3) ++ cl4) ++ cl5) ++ cl6) ++ cl7) ++ cl8).map fun y => .bl (decide (x = y)))) = G8 at x8 h8 ⊢
  walk_at "rd"
  have ha9 := x8 _ _ ha (by simp)
  have hd9 := hd.keep x8
  have m9 : ∀ y ∈ cl9, y ∈ clsN := by decide +kernel
  refine rd_iss (ys := cl9) rfl ha9 hd9 hE (He.ga K) (fun y => decide (x = y)) (fun y hy => mem y (m9 y hy)) ?_
  refine ⟨by rw [List.length_map]; decide, fun q9 w9 => ?_⟩
  have a9 : p8 ≠ q9 := ne_of_none h8 w9
  refine ⟨p8, q9, _, _, rfl, rfl, (upd_ne a9).trans h8, upd_same, by rw [List.length_map, List.length_map]; decide, fun p9 n9 => ?_⟩
  rw [← List.map_append]
  have x9 : Kx [] H (upd (upd G8 q9 (.lst (cl9.map fun y => .bl (decide (x = y))))) p9 (.lst ((((((((((cl0 ++ cl1) ++ cl2) ++ cl3) ++ cl4) ++ cl5) ++ cl6) ++ cl7) ++ cl8) ++ cl9).map fun y => .bl (decide (x = y))))) := (x8.nw w9).nw n9
  have h9 : upd (upd G8 q9 (.lst (cl9.map fun y => .bl (decide (x = y))))) p9 (.lst ((((((((((cl0 ++ cl1) ++ cl2) ++ cl3) ++ cl4) ++ cl5) ++ cl6) ++ cl7) ++ cl8) ++ cl9).map fun y => .bl (decide (x = y)))) p9 = some (.lst ((((((((((cl0 ++ cl1) ++ cl2) ++ cl3) ++ cl4) ++ cl5) ++ cl6) ++ cl7) ++ cl8) ++ cl9).map fun y => .bl (decide (x = y)))) := upd_same
  generalize upd (upd G8 q9 (.lst (cl9.map fun y => .bl (decide (x = y))))) p9 (.lst ((((((((((cl0 ++ cl1) ++ cl2) ++ cl3) ++ cl4) ++ cl5) ++ cl6) ++ cl7) ++ cl8) ++ cl9).map fun y => .bl (decide (x = y)))) = G9 at x9 h9 ⊢
  walk_at "rd"
  have ha10 := x9 _ _ ha (by simp)
  have hd10 := hd.keep x9
  have m10 : ∀ y ∈ cl10, y ∈ clsN := by decide +kernel
  refine rd_iss (ys := cl10) rfl ha10 hd10 hE (He.ga K) (fun y => decide (x = y)) (fun y hy => mem y (m10 y hy)) ?_
  refine ⟨by rw [List.length_map]; decide, fun q10 w10 => ?_⟩
  have a10 : p9 ≠ q10 := ne_of_none h9 w10
  refine ⟨p9, q10, _, _, rfl, rfl, (upd_ne a10).trans h9, upd_same, by rw [List.length_map, List.length_map]; decide, fun p10 n10 => ?_⟩
  rw [← List.map_append]
  have x10 : Kx [] H (upd (upd G9 q10 (.lst (cl10.map fun y => .bl (decide (x = y))))) p10 (.lst (((((((((((cl0 ++ cl1) ++ cl2) ++ cl3) ++ cl4) ++ cl5) ++ cl6) ++ cl7) ++ cl8) ++ cl9) ++ cl10).map fun y => .bl (decide (x = y))))) := (x9.nw w10).nw n10
  have h10 : upd (upd G9 q10 (.lst (cl10.map fun y => .bl (decide (x = y))))) p10 (.lst (((((((((((cl0 ++ cl1) ++ cl2) ++ cl3) ++ cl4) ++ cl5) ++ cl6) ++ cl7) ++ cl8) ++ cl9) ++ cl10).map fun y => .bl (decide (x = y)))) p10 = some (.lst (((((((((((cl0 ++ cl1) ++ cl2) ++ cl3) ++ cl4) ++ cl5) ++ cl6) ++ cl7) ++ cl8) ++ cl9) ++ cl10).map fun y => .bl (decide (x = y)))) := upd_same
  generalize upd (upd G9 q10 (.lst (cl10.map fun y => .bl (decide (x = y))))) p10 (.lst (((((((((((cl0 ++ cl1) ++ cl2) ++ cl3) ++ cl4) ++ cl5) ++ cl6) ++ cl7) ++ cl8) ++ cl9) ++ cl10).map fun y => .bl (decide (x = y)))) = G10 at x10 h10 ⊢
  walk_at "rd"
  refine ⟨p10, _, rfl, SqL.of h10, ?_⟩
  have eA : ((((((((((cl0 ++ cl1) ++ cl2) ++ cl3) ++ cl4) ++ cl5) ++ cl6) ++ cl7) ++ cl8) ++ cl9) ++ cl10) = clsN := rfl
  rw [eA] at h10
  have hi : i < clsN.length := (List.getElem?_eq_some_iff.mp hx).1
  intro L nL
  refine lc_src (src_enum (xs := clsN.map fun y => V.bl (decide (x = y)))) (fun j H' => PvF G10 L [] (if i < j then [V.int (i : Nat)] else []) H') (by rw [if_neg (Nat.not_lt_zero _)]; exact PvF.zero nL (by simp)) (fun j H' _ pv => SqL.of (pv.kx _ _ h10 (by simp))) ?_ ?_
  · rintro j v H1 H2 hj ⟨T0, z, rfl, hT, rfl, hz⟩ pv
    rw [List.getElem?_map] at hz
    cases ey : clsN[j]? with
    | none => rw [ey] at hz; cases hz
    | some y =>
    rw [ey] at hz
    obtain rfl : V.bl (decide (x = y)) = z := Option.some.inj hz
    have kT : Kx [] H1 (upd H1 T0 (.tup [.int (j : Nat), .bl (decide (x = y))])) := Kx.refl.nw hT
    dsimp only [L2.wipe, List.map, List.set_cons_zero, List.set_cons_succ]
    refine ⟨T0, _, rfl, SqT.of upd_same, rfl, ?_⟩
    walk_at "rd"
    refine ⟨rfl, ?_⟩
    walk_at "rd"
    refine ite2 (fun h1 => ?_) (fun h1 => ?_)
    · have e1 : x = y := of_decide_eq_true h1
      subst e1
      have e2 : j = i := by
        have hj' := (List.getElem?_eq_some_iff.mp ey)
        have hi' := (List.getElem?_eq_some_iff.mp hx)
        obtain ⟨a1, a2⟩ := hj'
        obtain ⟨b1, b2⟩ := hi'
        rcases Nat.lt_trichotomy j i with c | c | c
        · exact absurd (a2.trans b2.symm) (List.pairwise_iff_getElem.mp clsN_nd j i a1 b1 c)
        · exact c
        · exact absurd (b2.trans a2.symm) (List.pairwise_iff_getElem.mp clsN_nd i j b1 a1 c)
      subst e2
      walk_at "rd"
      refine pv.yes nL kT ?_ ?_
      · rw [if_neg (Nat.lt_irrefl _)]
        decide
      · rw [if_neg (Nat.lt_irrefl _), if_pos (Nat.lt_succ_self _)]
        rfl
    · have e1 : ¬ x = y := fun e => h1 (decide_eq_true e)
      have e2 : j ≠ i := fun e => by
        subst e
        rw [hx] at ey
        exact e1 (Option.some.inj ey)
      refine pv.no kT ?_
      by_cases c : i < j
      · rw [if_pos c, if_pos (by omega)]
      · rw [if_neg c, if_neg (by omega)]
  · intro H1 pv
    rw [List.length_map, if_pos hi] at pv
    exact k _ L (x10.trans pv.kx) (x10.back nL (by simp)) pv.at_
end
end My

set_option Elab.async false
set_option linter.all false
set_option maxRecDepth 100000
set_option maxHeartbeats 4000000
namespace My
open PySem L2 TL
theorem in_BadScope {P : Program} {w : World} {K : PySem.W.Frag} {mg : Str → Option Value} {base : Heap} (htop : (P.main.scope.names.lookup ("super" : Str)).isSome = false) (f cc c : Addr) (oc : Value) (od : Option Addr) (osl : Array (Option Value)) (doc pm ctv : Value)
    (S : SupC P K mg (He.ga K "BadScope") (nfI s_BadScope___init__ "BadScope.__init__" cc c) f cc) (no : ∀ y ∈ (["kind"] : List Str), PySem.W.findIn K (.ref (He.ga K "BadScope")) y = some none) (lk : K.lookup f = some ⟨oc, od, .func ((nfI s_BadScope___init__ "BadScope.__init__" cc c).fd doc pm ctv), osl⟩) :
    FnOk P w K mg base CX0 1 f ((nfI s_BadScope___init__ "BadScope.__init__" cc c).fd doc pm ctv) ("self" :: ["kind"]) (sp_ini (He.ga K "BadScope") ["kind"]) := by
  have hs : NdefX.NScope ["self", "kind", "__class__"] ["self", "kind"] ["__class__"] (defScope s_BadScope___init__) := NdefX.nscope_by (by decide +kernel)
  have q1 : (defScope s_BadScope___init__).names.lookup ("super" : Str) = some .globalImplicit := by decide +kernel
  have q2 : (defScope s_BadScope___init__).names.lookup ("__class__" : Str) = some .free := by decide +kernel
  have q3 : (defScope s_BadScope___init__).names.lookup ("self" : Str) = some .local := by decide +kernel
  have q4 : ∀ x ∈ (defScope s_BadScope___init__).names, x.2 ≠ .cell := by decide +kernel
  refine fn_super (F := nfI s_BadScope___init__ "BadScope.__init__" cc c) hs S lk (fun vs H Q E h => by obtain ⟨a, xs, rfl, hl, _⟩ := h; rw [List.length_cons, hl]; rfl) rfl rfl rfl q1 q2 q3 htop q4 (fun L => ⟨_, rfl⟩) (fun A outer s H vs Q E hr h => ?_)
  obtain ⟨a, xs, rfl, hl, ha, k⟩ := h
  match xs, hl with
  | [x], _ =>
  refine ⟨⟨a, _, rfl, ha⟩, _, pss_one (ps_ost (pv 0) (pv 1)), ?_⟩
  refine ⟨x, rfl, _, rfl, a, _, rfl, S.ox, no _ (by simp), .inl ⟨ha, fun dx n1 n2 => ?_⟩⟩
  exact k _ dx (((Kx.refl (S := [a])).nw n1).in (by simp)) n1 n2 upd_same (by rw [upd_ne n2, upd_same]; rfl)
theorem pe_BadScope {X : Cx} (T : TxE X.prog X.K X.mg) {p pos : Pos} {e : Expr} {es : List Expr} {ta : TA} (hr : Room 2 X.A) (hg : Gl X "BadScope") (ha : PA X (e :: es) ta)
    (he : starEach (e :: es) X.env = (false, eval e X.env) :: starEach es X.env := by rfl) (hpl : (backTo pos (starEach es X.env)).any (·.1) = false := by rfl) :
    PE X (.Call (.Name "BadScope" p) (e :: es) [] pos) (tMkV (He.ga X.K "BadScope") (sp_ini (He.ga X.K "BadScope") ["kind"]) ta) :=
  pe_ini T.iBadScope (in_BadScope T.top) (fun cc c doc pm ctv us hl => by
    match us, hl with
    | [_, _], _ => rfl) hr hg ha (by decide) he hpl
theorem in_BadText {P : Program} {w : World} {K : PySem.W.Frag} {mg : Str → Option Value} {base : Heap} (htop : (P.main.scope.names.lookup ("super" : Str)).isSome = false) (f cc c : Addr) (oc : Value) (od : Option Addr) (osl : Array (Option Value)) (doc pm ctv : Value)
    (S : SupC P K mg (He.ga K "BadText") (nfI s_BadText___init__ "BadText.__init__" cc c) f cc) (no : ∀ y ∈ (["line", "column", "wanted"] : List Str), PySem.W.findIn K (.ref (He.ga K "BadText")) y = some none) (lk : K.lookup f = some ⟨oc, od, .func ((nfI s_BadText___init__ "BadText.__init__" cc c).fd doc pm ctv), osl⟩) :
    FnOk P w K mg base CX0 1 f ((nfI s_BadText___init__ "BadText.__init__" cc c).fd doc pm ctv) ("self" :: ["line", "column", "wanted"]) (sp_ini (He.ga K "BadText") ["line", "column", "wanted"]) := by
  have hs : NdefX.NScope ["self", "line", "column", "wanted", "__class__"] ["self", "line", "column", "wanted"] ["__class__"] (defScope s_BadText___init__) := NdefX.nscope_by (by decide +kernel)
  have q1 : (defScope s_BadText___init__).names.lookup ("super" : Str) = some .globalImplicit := by decide +kernel
  have q2 : (defScope s_BadText___init__).names.lookup ("__class__" : Str) = some .free := by decide +kernel
  have q3 : (defScope s_BadText___init__).names.lookup ("self" : Str) = some .local := by decide +kernel
  have q4 : ∀ x ∈ (defScope s_BadText___init__).names, x.2 ≠ .cell := by decide +kernel
  refine fn_super (F := nfI s_BadText___init__ "BadText.__init__" cc c) hs S lk (fun vs H Q E h => by obtain ⟨a, xs, rfl, hl, _⟩ := h; rw [List.length_cons, hl]; rfl) rfl rfl rfl q1 q2 q3 htop q4 (fun L => ⟨_, rfl⟩) (fun A outer s H vs Q E hr h => ?_)
  obtain ⟨a, xs, rfl, hl, ha, k⟩ := h
  match xs, hl with
  | [x, y, z], _ =>
  refine ⟨⟨a, _, rfl, ha⟩, _, pss_cons (ps_ost (pv 0) (pv 1)) (pss_cons (ps_ost (pv 0) (pv 2)) (pss_one (ps_ost (pv 0) (pv 3)))), ?_⟩
  refine rd_seq ⟨x, rfl, _, rfl, a, _, rfl, S.ox, no _ (by simp), .inl ⟨ha, fun dx n1 n2 => ?_⟩⟩
  have g1 : upd (upd H dx (exd dx [("line", x)])) a (exo a (He.ga K "BadText") (some dx)) dx = some (exd dx [("line", x)]) := by rw [upd_ne n2, upd_same]
  refine rd_seq ⟨y, rfl, _, rfl, a, _, rfl, S.ox, no _ (by simp), .inr ⟨dx, _, upd_same, g1, Nat.le_of_ble_eq_true rfl, ?_⟩⟩
  refine ⟨z, rfl, _, rfl, a, _, rfl, S.ox, no _ (by simp), .inr ⟨dx, _, by rw [upd_ne n2.symm, upd_same], upd_same, Nat.le_of_ble_eq_true rfl, ?_⟩⟩
  refine k _ dx ?_ n1 n2 (by rw [upd_ne n2.symm, upd_ne n2.symm, upd_same]) upd_same
  exact ((((Kx.refl (S := [a])).nw n1).in (by simp)).mu n1).mu n1
theorem pe_BadText {X : Cx} (T : TxE X.prog X.K X.mg) {p pos : Pos} {e : Expr} {es : List Expr} {ta : TA} (hr : Room 2 X.A) (hg : Gl X "BadText") (ha : PA X (e :: es) ta)
    (he : starEach (e :: es) X.env = (false, eval e X.env) :: starEach es X.env := by rfl) (hpl : (backTo pos (starEach es X.env)).any (·.1) = false := by rfl) :
    PE X (.Call (.Name "BadText" p) (e :: es) [] pos) (tMkV (He.ga X.K "BadText") (sp_ini (He.ga X.K "BadText") ["line", "column", "wanted"]) ta) :=
  pe_ini T.iBadText (in_BadText T.top) (fun cc c doc pm ctv us hl => by
    match us, hl with
    | [_, _, _, _], _ => rfl) hr hg ha (by decide) he hpl
theorem in_TooMany {P : Program} {w : World} {K : PySem.W.Frag} {mg : Str → Option Value} {base : Heap} (htop : (P.main.scope.names.lookup ("super" : Str)).isSome = false) (f cc c : Addr) (oc : Value) (od : Option Addr) (osl : Array (Option Value)) (doc pm ctv : Value)
    (S : SupC P K mg (He.ga K "TooMany") (nfI s_TooMany___init__ "TooMany.__init__" cc c) f cc) (no : ∀ y ∈ (["most"] : List Str), PySem.W.findIn K (.ref (He.ga K "TooMany")) y = some none) (lk : K.lookup f = some ⟨oc, od, .func ((nfI s_TooMany___init__ "TooMany.__init__" cc c).fd doc pm ctv), osl⟩) :
    FnOk P w K mg base CX0 1 f ((nfI s_TooMany___init__ "TooMany.__init__" cc c).fd doc pm ctv) ("self" :: ["most"]) (sp_ini (He.ga K "TooMany") ["most"]) := by
  have hs : NdefX.NScope ["self", "most", "__class__"] ["self", "most"] ["__class__"] (defScope s_TooMany___init__) := NdefX.nscope_by (by decide +kernel)
  have q1 : (defScope s_TooMany___init__).names.lookup ("super" : Str) = some .globalImplicit := by decide +kernel
  have q2 : (defScope s_TooMany___init__).names.lookup ("__class__" : Str) = some .free := by decide +kernel
  have q3 : (defScope s_TooMany___init__).names.lookup ("self" : Str) = some .local := by decide +kernel
  have q4 : ∀ x ∈ (defScope s_TooMany___init__).names, x.2 ≠ .cell := by decide +kernel
  refine fn_super (F := nfI s_TooMany___init__ "TooMany.__init__" cc c) hs S lk (fun vs H Q E h => by obtain ⟨a, xs, rfl, hl, _⟩ := h; rw [List.length_cons, hl]; rfl) rfl rfl rfl q1 q2 q3 htop q4 (fun L => ⟨_, rfl⟩) (fun A outer s H vs Q E hr h => ?_)
  obtain ⟨a, xs, rfl, hl, ha, k⟩ := h
  match xs, hl with
  | [x], _ =>
  refine ⟨⟨a, _, rfl, ha⟩, _, pss_one (ps_ost (pv 0) (pv 1)), ?_⟩
  refine ⟨x, rfl, _, rfl, a, _, rfl, S.ox, no _ (by simp), .inl ⟨ha, fun dx n1 n2 => ?_⟩⟩
  exact k _ dx (((Kx.refl (S := [a])).nw n1).in (by simp)) n1 n2 upd_same (by rw [upd_ne n2, upd_same]; rfl)
theorem pe_TooMany {X : Cx} (T : TxE X.prog X.K X.mg) {p pos : Pos} {e : Expr} {es : List Expr} {ta : TA} (hr : Room 2 X.A) (hg : Gl X "TooMany") (ha : PA X (e :: es) ta)
    (he : starEach (e :: es) X.env = (false, eval e X.env) :: starEach es X.env := by rfl) (hpl : (backTo pos (starEach es X.env)).any (·.1) = false := by rfl) :
    PE X (.Call (.Name "TooMany" p) (e :: es) [] pos) (tMkV (He.ga X.K "TooMany") (sp_ini (He.ga X.K "TooMany") ["most"]) ta) :=
  pe_ini T.iTooMany (in_TooMany T.top) (fun cc c doc pm ctv us hl => by
    match us, hl with
    | [_, _], _ => rfl) hr hg ha (by decide) he hpl
theorem in_Unnamed {P : Program} {w : World} {K : PySem.W.Frag} {mg : Str → Option Value} {base : Heap} (htop : (P.main.scope.names.lookup ("super" : Str)).isSome = false) (f cc c : Addr) (oc : Value) (od : Option Addr) (osl : Array (Option Value)) (doc pm ctv : Value)
    (S : SupC P K mg (He.ga K "Unnamed") (nfI s_Unnamed___init__ "Unnamed.__init__" cc c) f cc) (no : ∀ y ∈ (["name"] : List Str), PySem.W.findIn K (.ref (He.ga K "Unnamed")) y = some none) (lk : K.lookup f = some ⟨oc, od, .func ((nfI s_Unnamed___init__ "Unnamed.__init__" cc c).fd doc pm ctv), osl⟩) :
    FnOk P w K mg base CX0 1 f ((nfI s_Unnamed___init__ "Unnamed.__init__" cc c).fd doc pm ctv) ("self" :: ["name"]) (sp_ini (He.ga K "Unnamed") ["name"]) := by
  have hs : NdefX.NScope ["self", "name", "__class__"] ["self", "name"] ["__class__"] (defScope s_Unnamed___init__) := NdefX.nscope_by (by decide +kernel)
  have q1 : (defScope s_Unnamed___init__).names.lookup ("super" : Str) = some .globalImplicit := by decide +kernel
  have q2 : (defScope s_Unnamed___init__).names.lookup ("__class__" : Str) = some .free := by decide +kernel
  have q3 : (defScope s_Unnamed___init__).names.lookup ("self" : Str) = some .local := by decide +kernel
  have q4 : ∀ x ∈ (defScope s_Unnamed___init__).names, x.2 ≠ .cell := by decide +kernel
  refine fn_super (F := nfI s_Unnamed___init__ "Unnamed.__init__" cc c) hs S lk (fun vs H Q E h => by obtain ⟨a, xs, rfl, hl, _⟩ := h; rw [List.length_cons, hl]; rfl) rfl rfl rfl q1 q2 q3 htop q4 (fun L => ⟨_, rfl⟩) (fun A outer s H vs Q E hr h => ?_)
  obtain ⟨a, xs, rfl, hl, ha, k⟩ := h
  match xs, hl with
  | [x], _ =>
  refine ⟨⟨a, _, rfl, ha⟩, _, pss_one (ps_ost (pv 0) (pv 1)), ?_⟩
  refine ⟨x, rfl, _, rfl, a, _, rfl, S.ox, no _ (by simp), .inl ⟨ha, fun dx n1 n2 => ?_⟩⟩
  exact k _ dx (((Kx.refl (S := [a])).nw n1).in (by simp)) n1 n2 upd_same (by rw [upd_ne n2, upd_same]; rfl)
theorem pe_Unnamed {X : Cx} (T : TxE X.prog X.K X.mg) {p pos : Pos} {e : Expr} {es : List Expr} {ta : TA} (hr : Room 2 X.A) (hg : Gl X "Unnamed") (ha : PA X (e :: es) ta)
    (he : starEach (e :: es) X.env = (false, eval e X.env) :: starEach es X.env := by rfl) (hpl : (backTo pos (starEach es X.env)).any (·.1) = false := by rfl) :
    PE X (.Call (.Name "Unnamed" p) (e :: es) [] pos) (tMkV (He.ga X.K "Unnamed") (sp_ini (He.ga X.K "Unnamed") ["name"]) ta) :=
  pe_ini T.iUnnamed (in_Unnamed T.top) (fun cc c doc pm ctv us hl => by
    match us, hl with
    | [_, _], _ => rfl) hr hg ha (by decide) he hpl
end My

set_option Elab.async false
set_option linter.all false
set_option maxRecDepth 100000
set_option maxHeartbeats 4000000
namespace My
open PySem L2 TL
def dataL : List PyData := [.none, .int 0, .int (-7), .str "x", .str "", .tuple [.int 1, .int 2], .list [.int 3], .dict [(.str "a", .int 4)], .bool true, .int (10 ^ 20)]
def Sm (d : PyData) : Prop := d.showable = true ∧ d.depth ≤ 64 ∧ d.shown.length ≤ 1000
instance {d : PyData} : Decidable (Sm d) := inferInstanceAs (Decidable (_ ∧ _ ∧ _))
theorem sm1 : ∀ d ∈ dataL, Sm (.list [d]) := by decide +kernel
theorem sm3 : ∀ d ∈ dataL, ∀ e ∈ dataL, Sm (.list [d, e, .tuple [d, e]]) := by decide +kernel
/-- an entry of the told errors: the error, its attributes, what these should be -/
def Ent (K : PySem.W.Frag) (H : Hp) (v : V) (x : Str) : Prop := ∃ (t e m u dd : Addr) (fs : List (Str × V)) (D : PyData), v = .ref t ∧ H t = some (.tup [.ref e, .ref m, .ref u]) ∧ H e = some (ExV (.ref (He.ga K x)) (some dd) e) ∧ H dd = some (.xd fs) ∧
  Dq K H (.ref m) D ∧ Dq K H (.ref u) D ∧ Sm D
theorem Ent.keep {K : PySem.W.Frag} {H H' : Hp} (k : Kx [] H H') {v : V} {x : Str} (h : Ent K H v x) : Ent K H' v x := by
  obtain ⟨t, e, m, u, dd, fs, D, h1, h2, h3, h4, h5, h6, h7⟩ := h
  exact ⟨t, e, m, u, dd, fs, D, h1, k _ _ h2 (by simp), k _ _ h3 (by simp), k _ _ h4 (by simp), Dq.keep k _ _ h5, Dq.keep k _ _ h6, h7⟩
def toldN : List Str := ["BadScope", "BadText", "TooMany", "Unnamed"]
def EntL (K : PySem.W.Frag) (H : Hp) : List V → List Str → Prop
  | [], [] => True
  | v :: vs, x :: xs => Ent K H v x ∧ EntL K H vs xs
  | _, _ => False
def sp_told (K : PySem.W.Frag) : Sp := fun vs H Q _ => ∃ (v1 v2 : V) (d1 d2 : PyData), vs = [v1, v2] ∧ d1 ∈ dataL ∧ d2 ∈ dataL ∧ Dq K H v1 d1 ∧ Dq K H v2 d2 ∧
  ∀ (H' : Hp) (p : Addr) (xs : List V), Kx [] H H' → H p = none → H' p = some (.lst xs) → EntL K H' xs toldN → Q (.ref p) H'
section
variable {P : Program} {w : World} {K : PySem.W.Frag} {mg : Str → Option Value} {base : Heap}
theorem ok__law_told_errors (T : TxE P K mg) : FnAt P w K mg base CX0 3 "_law_told_errors" ["_law_one", "_law_other"] (sp_told K) := by
  refine FnAt.mk T.d__law_told_errors (fun _ _ _ _ _ _ us hl => match us, hl with | [_, _], _ => rfl) fun f fd F => ?_
  refine F.ok sc__law_told_errors (fun vs H Q E h => by obtain ⟨v1, v2, d1, d2, rfl, _⟩ := h; rfl) (fun cdv A outer s H vs Q E hr h => ?_)
  obtain ⟨v1, v2, d1, d2, rfl, hD1, hD2, hq1, hq2, k⟩ := h
  have hC_BadScope : ("BadScope" : Str) ∈ clsN := by decide +kernel
  obtain ⟨_, _, _, _, _, _, _, no_BadScope⟩ := T.iBadScope
  have hC_BadText : ("BadText" : Str) ∈ clsN := by decide +kernel
  obtain ⟨_, _, _, _, _, _, _, no_BadText⟩ := T.iBadText
  have hC_TooMany : ("TooMany" : Str) ∈ clsN := by decide +kernel
  obtain ⟨_, _, _, _, _, _, _, no_TooMany⟩ := T.iTooMany
  have hC_Unnamed : ("Unnamed" : Str) ∈ clsN := by decide +kernel
  obtain ⟨_, _, _, _, _, _, _, no_Unnamed⟩ := T.iUnnamed
  refine ⟨_, (pss_cons (ps_set (i := 2) sc__law_told_errors.nd rfl (by first | exact Or.inl rfl | exact Or.inr rfl) (pe_lst pa_nil))
    (pss_cons (ps_set (i := 3) sc__law_told_errors.nd rfl (by first | exact Or.inl rfl | exact Or.inr rfl) (pe_BadScope T (hr.mono (by decide)) rfl (pa_cons (pv 0) pa_nil)))
    (pss_cons (ps_expr (pe_bm PySem.F.plainAttrs_list PySem.F.slot_list_append PySem.F.type_list_append mt_append (pv 2) (pa_cons (pe_tup (pa_cons (pv 3) (pa_cons (pe_lst (pa_cons (pe_xa (pv 3)) pa_nil)) (pa_cons (pe_lst (pa_cons (pv 0) pa_nil)) pa_nil)))) pa_nil)))
    (pss_cons (ps_set (i := 3) sc__law_told_errors.nd rfl (by first | exact Or.inl rfl | exact Or.inr rfl) (pe_BadText T (hr.mono (by decide)) rfl (pa_cons (pv 0) (pa_cons (pv 1) (pa_cons (pe_tup (pa_cons (pv 0) (pa_cons (pv 1) pa_nil))) pa_nil)))))
    (pss_cons (ps_expr (pe_bm PySem.F.plainAttrs_list PySem.F.slot_list_append PySem.F.type_list_append mt_append (pv 2) (pa_cons (pe_tup (pa_cons (pv 3) (pa_cons (pe_lst (pa_cons (pe_xa (pv 3)) (pa_cons (pe_xa (pv 3)) (pa_cons (pe_xa (pv 3)) pa_nil)))) (pa_cons (pe_lst (pa_cons (pv 0) (pa_cons (pv 1) (pa_cons (pe_tup (pa_cons (pv 0) (pa_cons (pv 1) pa_nil))) pa_nil)))) pa_nil)))) pa_nil)))
    (pss_cons (ps_set (i := 3) sc__law_told_errors.nd rfl (by first | exact Or.inl rfl | exact Or.inr rfl) (pe_TooMany T (hr.mono (by decide)) rfl (pa_cons (pv 0) pa_nil)))
    (pss_cons (ps_expr (pe_bm PySem.F.plainAttrs_list PySem.F.slot_list_append PySem.F.type_list_append mt_append (pv 2) (pa_cons (pe_tup (pa_cons (pv 3) (pa_cons (pe_lst (pa_cons (pe_xa (pv 3)) pa_nil)) (pa_cons (pe_lst (pa_cons (pv 0) pa_nil)) pa_nil)))) pa_nil)))
    (pss_cons (ps_set (i := 3) sc__law_told_errors.nd rfl (by first | exact Or.inl rfl | exact Or.inr rfl) (pe_Unnamed T (hr.mono (by decide)) rfl (pa_cons (pv 0) pa_nil)))
    (pss_cons (ps_expr (pe_bm PySem.F.plainAttrs_list PySem.F.slot_list_append PySem.F.type_list_append mt_append (pv 2) (pa_cons (pe_tup (pa_cons (pv 3) (pa_cons (pe_lst (pa_cons (pe_xa (pv 3)) pa_nil)) (pa_cons (pe_lst (pa_cons (pv 0) pa_nil)) pa_nil)))) pa_nil)))
    (pss_one (ps_ret (pv 2)))))))))))), ?_⟩
  walk_at "go"
  refine ⟨by decide, fun L hL => ?_⟩
  have x0 : Kx [] H (upd H L (.lst [])) := Kx.refl.nw hL
  have h0 : upd H L (.lst []) L = some (.lst []) := upd_same
  generalize upd H L (.lst []) = G0 at x0 h0 ⊢
  walk_at "rd"
  have kr0 : Kx [] G0 G0 := Kx.refl
  refine rd_mkV ?_
  walk_at "rd"
  refine ⟨Nat.le_of_ble_eq_true rfl, fun e0 ne0 => ⟨e0, [v1], rfl, rfl, upd_same, fun J0 dd0 kj0 nd0 nde0 hje0 hjd0 => ⟨rfl, dd0, _, hje0, hjd0, nde0, ?_⟩⟩⟩
  obtain ⟨ka0, he0, hd0⟩ := mkV_step ne0 kj0 nd0 nde0 (fs := ((["kind"] : List Str).zip [v1]).reverse)
  generalize upd (upd J0 dd0 (.xd ((["kind"] : List Str).zip [v1]).reverse)) e0 (ExV (.ref (He.ga K "BadScope")) (some dd0) e0) = E0 at ka0 he0 hd0 ⊢
  have hLe0 : E0 L = some (.lst []) := ka0 _ _ (kr0 _ _ h0 (by simp)) (by simp)
  walk_at "rd"
  refine ⟨.inl ⟨rfl, _, SqL.of hLe0⟩, ?_⟩
  walk_at "rd"
  refine ⟨_, rfl, e0, _, dd0, _, v1, rfl, he0, hd0, T.e _ hC_BadScope, no_BadScope _ (by simp), rfl, ?_⟩
  walk_at "rd"
  refine ⟨lenOk rfl, fun m0 nm0 => ?_⟩
  have km0 : Kx [] E0 (upd E0 m0 (.lst [v1])) := Kx.refl.nw nm0
  have hm0 : upd E0 m0 (.lst [v1]) m0 = some (.lst [v1]) := upd_same
  have Lm0 : L ≠ m0 := ne_of_none hLe0 nm0
  generalize upd E0 m0 (.lst [v1]) = M0 at km0 hm0 ⊢
  walk_at "rd"
  have ks0 : Kx [] M0 M0 := Kx.refl
  refine ⟨lenOk rfl, fun u0 nu0 => ?_⟩
  have ku0 : Kx [] M0 (upd M0 u0 (.lst [v1])) := Kx.refl.nw nu0
  have hu0 : upd M0 u0 (.lst [v1]) u0 = some (.lst [v1]) := upd_same
  have Lu0 : L ≠ u0 := ne_of_none ((km0.trans ks0) _ _ hLe0 (by simp)) nu0
  generalize upd M0 u0 (.lst [v1]) = U0 at ku0 hu0 ⊢
  walk_at "rd"
  refine ⟨lenOk rfl, fun t0 nt0 => ?_⟩
  have kt0 : Kx [] U0 (upd U0 t0 (.tup [.ref e0, .ref m0, .ref u0])) := Kx.refl.nw nt0
  have ht0 : upd U0 t0 (.tup [.ref e0, .ref m0, .ref u0]) t0 = some (.tup [.ref e0, .ref m0, .ref u0]) := upd_same
  generalize upd U0 t0 (.tup [.ref e0, .ref m0, .ref u0]) = F0 at kt0 ht0 ⊢
  have kef0 : Kx [] E0 F0 := ((km0.trans ks0).trans ku0).trans kt0
  have hLf0 := kef0 _ _ hLe0 (by simp)
  refine ⟨L, _, .ref t0, rfl, rfl, hLf0, small1000 (Nat.le_of_ble_eq_true rfl), ?_⟩
  have kc0 : Kx [L] F0 (upd F0 L (.lst ([] ++ [.ref t0]))) := Kx.refl.in (by simp)
  have x1 : Kx [] H (upd F0 L (.lst ([] ++ [.ref t0]))) := (((x0.trans kr0).trans ka0).trans kef0).mu hL
  have h1 : upd F0 L (.lst ([] ++ [.ref t0])) L = some (.lst [.ref t0]) := upd_same
  generalize upd F0 L (.lst ([] ++ [.ref t0])) = G1 at kc0 x1 h1 ⊢
  walk_at "rd"
  refine rd_mkV ?_
  walk_at "rd"
  refine ⟨lenOk rfl, fun r1 nr1 => ?_⟩
  have kr1 : Kx [] G1 (upd G1 r1 (.tup [v1, v2])) := Kx.refl.nw nr1
  have hr1 : upd G1 r1 (.tup [v1, v2]) r1 = some (.tup [v1, v2]) := upd_same
  generalize upd G1 r1 (.tup [v1, v2]) = R1 at kr1 hr1 ⊢
  walk_at "rd"
  walk_at "rd"
  refine ⟨Nat.le_of_ble_eq_true rfl, fun e1 ne1 => ⟨e1, [v1, v2, .ref r1], rfl, rfl, upd_same, fun J1 dd1 kj1 nd1 nde1 hje1 hjd1 => ⟨rfl, dd1, _, hje1, hjd1, nde1, ?_⟩⟩⟩
  obtain ⟨ka1, he1, hd1⟩ := mkV_step ne1 kj1 nd1 nde1 (fs := ((["line", "column", "wanted"] : List Str).zip [v1, v2, .ref r1]).reverse)
  generalize upd (upd J1 dd1 (.xd ((["line", "column", "wanted"] : List Str).zip [v1, v2, .ref r1]).reverse)) e1 (ExV (.ref (He.ga K "BadText")) (some dd1) e1) = E1 at ka1 he1 hd1 ⊢
  have hLe1 : E1 L = some (.lst [.ref t0]) := ka1 _ _ (kr1 _ _ h1 (by simp)) (by simp)
  walk_at "rd"
  refine ⟨.inl ⟨rfl, _, SqL.of hLe1⟩, ?_⟩
  walk_at "rd"
  refine ⟨_, rfl, e1, _, dd1, _, v1, rfl, he1, hd1, T.e _ hC_BadText, no_BadText _ (by simp), rfl, ?_⟩
  walk_at "rd"
  refine ⟨_, rfl, e1, _, dd1, _, v2, rfl, he1, hd1, T.e _ hC_BadText, no_BadText _ (by simp), rfl, ?_⟩
  walk_at "rd"
  refine ⟨_, rfl, e1, _, dd1, _, .ref r1, rfl, he1, hd1, T.e _ hC_BadText, no_BadText _ (by simp), rfl, ?_⟩
  walk_at "rd"
  refine ⟨lenOk rfl, fun m1 nm1 => ?_⟩
  have km1 : Kx [] E1 (upd E1 m1 (.lst [v1, v2, .ref r1])) := Kx.refl.nw nm1
  have hm1 : upd E1 m1 (.lst [v1, v2, .ref r1]) m1 = some (.lst [v1, v2, .ref r1]) := upd_same
  have Lm1 : L ≠ m1 := ne_of_none hLe1 nm1
  generalize upd E1 m1 (.lst [v1, v2, .ref r1]) = M1 at km1 hm1 ⊢
  walk_at "rd"
  refine ⟨lenOk rfl, fun s1 ns1 => ?_⟩
  have ks1 : Kx [] M1 (upd M1 s1 (.tup [v1, v2])) := Kx.refl.nw ns1
  have hs1 : upd M1 s1 (.tup [v1, v2]) s1 = some (.tup [v1, v2]) := upd_same
  generalize upd M1 s1 (.tup [v1, v2]) = S1 at ks1 hs1 ⊢
  walk_at "rd"
  refine ⟨lenOk rfl, fun u1 nu1 => ?_⟩
  have ku1 : Kx [] S1 (upd S1 u1 (.lst [v1, v2, .ref s1])) := Kx.refl.nw nu1
  have hu1 : upd S1 u1 (.lst [v1, v2, .ref s1]) u1 = some (.lst [v1, v2, .ref s1]) := upd_same
  have Lu1 : L ≠ u1 := ne_of_none ((km1.trans ks1) _ _ hLe1 (by simp)) nu1
  generalize upd S1 u1 (.lst [v1, v2, .ref s1]) = U1 at ku1 hu1 ⊢
  walk_at "rd"
  refine ⟨lenOk rfl, fun t1 nt1 => ?_⟩
  have kt1 : Kx [] U1 (upd U1 t1 (.tup [.ref e1, .ref m1, .ref u1])) := Kx.refl.nw nt1
  have ht1 : upd U1 t1 (.tup [.ref e1, .ref m1, .ref u1]) t1 = some (.tup [.ref e1, .ref m1, .ref u1]) := upd_same
  generalize upd U1 t1 (.tup [.ref e1, .ref m1, .ref u1]) = F1 at kt1 ht1 ⊢
  have kef1 : Kx [] E1 F1 := ((km1.trans ks1).trans ku1).trans kt1
  have hLf1 := kef1 _ _ hLe1 (by simp)
  refine ⟨L, _, .ref t1, rfl, rfl, hLf1, small1000 (Nat.le_of_ble_eq_true rfl), ?_⟩
  have kc1 : Kx [L] F1 (upd F1 L (.lst ([.ref t0] ++ [.ref t1]))) := Kx.refl.in (by simp)
  have x2 : Kx [] H (upd F1 L (.lst ([.ref t0] ++ [.ref t1]))) := (((x1.trans kr1).trans ka1).trans kef1).mu hL
  have h2 : upd F1 L (.lst ([.ref t0] ++ [.ref t1])) L = some (.lst [.ref t0, .ref t1]) := upd_same
  generalize upd F1 L (.lst ([.ref t0] ++ [.ref t1])) = G2 at kc1 x2 h2 ⊢
  walk_at "rd"
  have kr2 : Kx [] G2 G2 := Kx.refl
  refine rd_mkV ?_
  walk_at "rd"
  refine ⟨Nat.le_of_ble_eq_true rfl, fun e2 ne2 => ⟨e2, [v1], rfl, rfl, upd_same, fun J2 dd2 kj2 nd2 nde2 hje2 hjd2 => ⟨rfl, dd2, _, hje2, hjd2, nde2, ?_⟩⟩⟩
  obtain ⟨ka2, he2, hd2⟩ := mkV_step ne2 kj2 nd2 nde2 (fs := ((["most"] : List Str).zip [v1]).reverse)
  generalize upd (upd J2 dd2 (.xd ((["most"] : List Str).zip [v1]).reverse)) e2 (ExV (.ref (He.ga K "TooMany")) (some dd2) e2) = E2 at ka2 he2 hd2 ⊢
  have hLe2 : E2 L = some (.lst [.ref t0, .ref t1]) := ka2 _ _ (kr2 _ _ h2 (by simp)) (by simp)
  walk_at "rd"
  refine ⟨.inl ⟨rfl, _, SqL.of hLe2⟩, ?_⟩
  walk_at "rd"
  refine ⟨_, rfl, e2, _, dd2, _, v1, rfl, he2, hd2, T.e _ hC_TooMany, no_TooMany _ (by simp), rfl, ?_⟩
  walk_at "rd"
  refine ⟨lenOk rfl, fun m2 nm2 => ?_⟩
  have km2 : Kx [] E2 (upd E2 m2 (.lst [v1])) := Kx.refl.nw nm2
  have hm2 : upd E2 m2 (.lst [v1]) m2 = some (.lst [v1]) := upd_same
  have Lm2 : L ≠ m2 := ne_of_none hLe2 nm2
  generalize upd E2 m2 (.lst [v1]) = M2 at km2 hm2 ⊢
  walk_at "rd"
  have ks2 : Kx [] M2 M2 := Kx.refl
  refine ⟨lenOk rfl, fun u2 nu2 => ?_⟩
  have ku2 : Kx [] M2 (upd M2 u2 (.lst [v1])) := Kx.refl.nw nu2
  have hu2 : upd M2 u2 (.lst [v1]) u2 = some (.lst [v1]) := upd_same
  have Lu2 : L ≠ u2 := ne_of_none ((km2.trans ks2) _ _ hLe2 (by simp)) nu2
  generalize upd M2 u2 (.lst [v1]) = U2 at ku2 hu2 ⊢
  walk_at "rd"
  refine ⟨lenOk rfl, fun t2 nt2 => ?_⟩
  have kt2 : Kx [] U2 (upd U2 t2 (.tup [.ref e2, .ref m2, .ref u2])) := Kx.refl.nw nt2
  have ht2 : upd U2 t2 (.tup [.ref e2, .ref m2, .ref u2]) t2 = some (.tup [.ref e2, .ref m2, .ref u2]) := upd_same
  generalize upd U2 t2 (.tup [.ref e2, .ref m2, .ref u2]) = F2 at kt2 ht2 ⊢
  have kef2 : Kx [] E2 F2 := ((km2.trans ks2).trans ku2).trans kt2
  have hLf2 := kef2 _ _ hLe2 (by simp)
  refine ⟨L, _, .ref t2, rfl, rfl, hLf2, small1000 (Nat.le_of_ble_eq_true rfl), ?_⟩
  have kc2 : Kx [L] F2 (upd F2 L (.lst ([.ref t0, .ref t1] ++ [.ref t2]))) := Kx.refl.in (by simp)
  have x3 : Kx [] H (upd F2 L (.lst ([.ref t0, .ref t1] ++ [.ref t2]))) := (((x2.trans kr2).trans ka2).trans kef2).mu hL
  have h3 : upd F2 L (.lst ([.ref t0, .ref t1] ++ [.ref t2])) L = some (.lst [.ref t0, .ref t1, .ref t2]) := upd_same
  generalize upd F2 L (.lst ([.ref t0, .ref t1] ++ [.ref t2])) = G3 at kc2 x3 h3 ⊢
  walk_at "rd"
  have kr3 : Kx [] G3 G3 := Kx.refl
  refine rd_mkV ?_
  walk_at "rd"
  refine ⟨Nat.le_of_ble_eq_true rfl, fun e3 ne3 => ⟨e3, [v1], rfl, rfl, upd_same, fun J3 dd3 kj3 nd3 nde3 hje3 hjd3 => ⟨rfl, dd3, _, hje3, hjd3, nde3, ?_⟩⟩⟩
  obtain ⟨ka3, he3, hd3⟩ := mkV_step ne3 kj3 nd3 nde3 (fs := ((["name"] : List Str).zip [v1]).reverse)
  generalize upd (upd J3 dd3 (.xd ((["name"] : List Str).zip [v1]).reverse)) e3 (ExV (.ref (He.ga K "Unnamed")) (some dd3) e3) = E3 at ka3 he3 hd3 ⊢
  have hLe3 : E3 L = some (.lst [.ref t0, .ref t1, .ref t2]) := ka3 _ _ (kr3 _ _ h3 (by simp)) (by simp)
  walk_at "rd"
  refine ⟨.inl ⟨rfl, _, SqL.of hLe3⟩, ?_⟩
  walk_at "rd"
  refine ⟨_, rfl, e3, _, dd3, _, v1, rfl, he3, hd3, T.e _ hC_Unnamed, no_Unnamed _ (by simp), rfl, ?_⟩
  walk_at "rd"
  refine ⟨lenOk rfl, fun m3 nm3 => ?_⟩
  have km3 : Kx [] E3 (upd E3 m3 (.lst [v1])) := Kx.refl.nw nm3
  have hm3 : upd E3 m3 (.lst [v1]) m3 = some (.lst [v1]) := upd_same
  have Lm3 : L ≠ m3 := ne_of_none hLe3 nm3
  generalize upd E3 m3 (.lst [v1]) = M3 at km3 hm3 ⊢
  walk_at "rd"
  have ks3 : Kx [] M3 M3 := Kx.refl
  refine ⟨lenOk rfl, fun u3 nu3 => ?_⟩
  have ku3 : Kx [] M3 (upd M3 u3 (.lst [v1])) := Kx.refl.nw nu3
  have hu3 : upd M3 u3 (.lst [v1]) u3 = some (.lst [v1]) := upd_same
  have Lu3 : L ≠ u3 := ne_of_none ((km3.trans ks3) _ _ hLe3 (by simp)) nu3
  generalize upd M3 u3 (.lst [v1]) = U3 at ku3 hu3 ⊢
  walk_at "rd"
  refine ⟨lenOk rfl, fun t3 nt3 => ?_⟩
  have kt3 : Kx [] U3 (upd U3 t3 (.tup [.ref e3, .ref m3, .ref u3])) := Kx.refl.nw nt3
  have ht3 : upd U3 t3 (.tup [.ref e3, .ref m3, .ref u3]) t3 = some (.tup [.ref e3, .ref m3, .ref u3]) := upd_same
  generalize upd U3 t3 (.tup [.ref e3, .ref m3, .ref u3]) = F3 at kt3 ht3 ⊢
  have kef3 : Kx [] E3 F3 := ((km3.trans ks3).trans ku3).trans kt3
  have hLf3 := kef3 _ _ hLe3 (by simp)
  refine ⟨L, _, .ref t3, rfl, rfl, hLf3, small1000 (Nat.le_of_ble_eq_true rfl), ?_⟩
  have kc3 : Kx [L] F3 (upd F3 L (.lst ([.ref t0, .ref t1, .ref t2] ++ [.ref t3]))) := Kx.refl.in (by simp)
  have x4 : Kx [] H (upd F3 L (.lst ([.ref t0, .ref t1, .ref t2] ++ [.ref t3]))) := (((x3.trans kr3).trans ka3).trans kef3).mu hL
  have h4 : upd F3 L (.lst ([.ref t0, .ref t1, .ref t2] ++ [.ref t3])) L = some (.lst [.ref t0, .ref t1, .ref t2, .ref t3]) := upd_same
  generalize upd F3 L (.lst ([.ref t0, .ref t1, .ref t2] ++ [.ref t3])) = G4 at kc3 x4 h4 ⊢
  walk_at "rd"
  have z0 : Kx [L] F0 G4 := (((kc0.trans ((((kr1.trans ka1).trans kef1).mono (by simp)).trans kc1)).trans ((((kr2.trans ka2).trans kef2).mono (by simp)).trans kc2)).trans ((((kr3.trans ka3).trans kef3).mono (by simp)).trans kc3))
  have z1 : Kx [L] F1 G4 := ((kc1.trans ((((kr2.trans ka2).trans kef2).mono (by simp)).trans kc2)).trans ((((kr3.trans ka3).trans kef3).mono (by simp)).trans kc3))
  have z2 : Kx [L] F2 G4 := (kc2.trans ((((kr3.trans ka3).trans kef3).mono (by simp)).trans kc3))
  have z3 : Kx [L] F3 G4 := kc3
  have hv1 := Dq.keep x4 _ _ hq1
  have hv2 := Dq.keep x4 _ _ hq2
  have gt0 := z0 _ _ ht0 (by simpa using ne_of ht0 hLf0 (by intro z; cases z))
  have ge0 := z0 _ _ (kef0 _ _ he0 (by simp)) (by simpa using ne_of (kef0 _ _ he0 (by simp)) hLf0 (by intro z; have z' : HO.ext _ = HO.lst _ := z; cases z'))
  have gd0 := z0 _ _ (kef0 _ _ hd0 (by simp)) (by simpa using ne_of (kef0 _ _ hd0 (by simp)) hLf0 (by intro z; cases z))
  have gm0 := z0 _ _ (((ks0.trans ku0).trans kt0) _ _ hm0 (by simp)) (by simpa using Lm0.symm)
  have gu0 := z0 _ _ (kt0 _ _ hu0 (by simp)) (by simpa using Lu0.symm)
  have en0 : Ent K G4 (.ref t0) "BadScope" := ⟨t0, e0, m0, u0, dd0, _, .list [d1], rfl, gt0, ge0, gd0, .lst (SqL.of gm0) (.cons hv1 .nil), .lst (SqL.of gu0) (.cons hv1 .nil), sm1 _ hD1⟩
  have gt1 := z1 _ _ ht1 (by simpa using ne_of ht1 hLf1 (by intro z; cases z))
  have ge1 := z1 _ _ (kef1 _ _ he1 (by simp)) (by simpa using ne_of (kef1 _ _ he1 (by simp)) hLf1 (by intro z; have z' : HO.ext _ = HO.lst _ := z; cases z'))
  have gd1 := z1 _ _ (kef1 _ _ hd1 (by simp)) (by simpa using ne_of (kef1 _ _ hd1 (by simp)) hLf1 (by intro z; cases z))
  have gm1 := z1 _ _ (((ks1.trans ku1).trans kt1) _ _ hm1 (by simp)) (by simpa using Lm1.symm)
  have gu1 := z1 _ _ (kt1 _ _ hu1 (by simp)) (by simpa using Lu1.symm)
  have gr1 := z1 _ _ (kef1 _ _ (ka1 _ _ hr1 (by simp)) (by simp)) (by simpa using ne_of (kef1 _ _ (ka1 _ _ hr1 (by simp)) (by simp)) hLf1 (by intro z; cases z))
  have gs1 := z1 _ _ ((ku1.trans kt1) _ _ hs1 (by simp)) (by simpa using ne_of ((ku1.trans kt1) _ _ hs1 (by simp)) hLf1 (by intro z; cases z))
  have en1 : Ent K G4 (.ref t1) "BadText" := ⟨t1, e1, m1, u1, dd1, _, .list [d1, d2, .tuple [d1, d2]], rfl, gt1, ge1, gd1, .lst (SqL.of gm1) (.cons hv1 (.cons hv2 (.cons (.tup (SqT.of gr1) (.cons hv1 (.cons hv2 .nil))) .nil))), .lst (SqL.of gu1) (.cons hv1 (.cons hv2 (.cons (.tup (SqT.of gs1) (.cons hv1 (.cons hv2 .nil))) .nil))), sm3 _ hD1 _ hD2⟩
  have gt2 := z2 _ _ ht2 (by simpa using ne_of ht2 hLf2 (by intro z; cases z))
  have ge2 := z2 _ _ (kef2 _ _ he2 (by simp)) (by simpa using ne_of (kef2 _ _ he2 (by simp)) hLf2 (by intro z; have z' : HO.ext _ = HO.lst _ := z; cases z'))
  have gd2 := z2 _ _ (kef2 _ _ hd2 (by simp)) (by simpa using ne_of (kef2 _ _ hd2 (by simp)) hLf2 (by intro z; cases z))
  have gm2 := z2 _ _ (((ks2.trans ku2).trans kt2) _ _ hm2 (by simp)) (by simpa using Lm2.symm)
  have gu2 := z2 _ _ (kt2 _ _ hu2 (by simp)) (by simpa using Lu2.symm)
  have en2 : Ent K G4 (.ref t2) "TooMany" := ⟨t2, e2, m2, u2, dd2, _, .list [d1], rfl, gt2, ge2, gd2, .lst (SqL.of gm2) (.cons hv1 .nil), .lst (SqL.of gu2) (.cons hv1 .nil), sm1 _ hD1⟩
  have gt3 := z3 _ _ ht3 (by simpa using ne_of ht3 hLf3 (by intro z; cases z))
  have ge3 := z3 _ _ (kef3 _ _ he3 (by simp)) (by simpa using ne_of (kef3 _ _ he3 (by simp)) hLf3 (by intro z; have z' : HO.ext _ = HO.lst _ := z; cases z'))
  have gd3 := z3 _ _ (kef3 _ _ hd3 (by simp)) (by simpa using ne_of (kef3 _ _ hd3 (by simp)) hLf3 (by intro z; cases z))
  have gm3 := z3 _ _ (((ks3.trans ku3).trans kt3) _ _ hm3 (by simp)) (by simpa using Lm3.symm)
  have gu3 := z3 _ _ (kt3 _ _ hu3 (by simp)) (by simpa using Lu3.symm)
  have en3 : Ent K G4 (.ref t3) "Unnamed" := ⟨t3, e3, m3, u3, dd3, _, .list [d1], rfl, gt3, ge3, gd3, .lst (SqL.of gm3) (.cons hv1 .nil), .lst (SqL.of gu3) (.cons hv1 .nil), sm1 _ hD1⟩
  exact k G4 L _ x4 hL h4 ⟨en0, en1, en2, en3, trivial⟩
end
end My

set_option Elab.async false
set_option linter.all false
set_option maxRecDepth 100000
set_option maxHeartbeats 4000000
namespace My
open PySem L2 TL
theorem hu65 {A : Around} {k : Nat} (hr : Room k A) : A.units + 65 < cLine := by
  have := hr.un
  omega
def errN : List Str := plainN ++ toldN
def ixs : List Nat := errN.map fun x => clsN.idxOf x
theorem ixs_ok : (∀ x ∈ errN, clsN[clsN.idxOf x]? = some x) ∧ ixs.Nodup ∧ errN.length = 54 := by decide +kernel
theorem err_cls : ∀ x ∈ errN, x ∈ clsN := by decide +kernel
/-- an error of the class x -/
def Erv (K : PySem.W.Frag) (H : Hp) (v : V) (x : Str) : Prop := ∃ (a : Addr) (d : Option Addr), v = .ref a ∧ H a = some (ExV (.ref (He.ga K x)) d a) ∧ DcV H d
theorem Erv.keep {K : PySem.W.Frag} {H H' : Hp} (k : Kx [] H H') {v : V} {x : Str} (h : Erv K H v x) : Erv K H' v x := by
  obtain ⟨a, d, e, h1, h2⟩ := h
  exact ⟨a, d, e, k _ _ h1 (by simp), h2.keep k⟩
def EvL (K : PySem.W.Frag) (H : Hp) : List V → List Str → Prop
  | [], [] => True
  | v :: vs, x :: xs => Erv K H v x ∧ EvL K H vs xs
  | _, _ => False
theorem EvL.keep {K : PySem.W.Frag} {H H' : Hp} (k : Kx [] H H') : ∀ {vs : List V} {xs : List Str}, EvL K H vs xs → EvL K H' vs xs
  | [], [], _ => trivial
  | _ :: _, _ :: _, h => ⟨h.1.keep k, EvL.keep k h.2⟩
  | [], _ :: _, h => h.elim
  | _ :: _, [], h => h.elim
theorem EvL.app {K : PySem.W.Frag} {H : Hp} : ∀ {vs : List V} {xs : List Str} {ws : List V} {ys : List Str}, EvL K H vs xs → EvL K H ws ys → EvL K H (vs ++ ws) (xs ++ ys)
  | [], [], _, _, _, h => h
  | _ :: _, _ :: _, _, _, ⟨h1, r⟩, h => ⟨h1, EvL.app r h⟩
  | [], _ :: _, _, _, h, _ => h.elim
  | _ :: _, [], _, _, h, _ => h.elim
theorem EvL.len {K : PySem.W.Frag} {H : Hp} : ∀ {vs : List V} {xs : List Str}, EvL K H vs xs → vs.length = xs.length
  | [], [], _ => rfl
  | _ :: _, _ :: _, h => by simp [EvL.len h.2]
  | [], _ :: _, h => h.elim
  | _ :: _, [], h => h.elim
theorem EvL.at {K : PySem.W.Frag} {H : Hp} : ∀ {vs : List V} {xs : List Str} {j : Nat} {v : V}, EvL K H vs xs → vs[j]? = some v → ∃ x, xs[j]? = some x ∧ Erv K H v x
  | [], [], _, _, _, h => by simp at h
  | v :: vs, x :: xs, 0, _, h, e => by
    simp at e
    subst e
    exact ⟨x, rfl, h.1⟩
  | _ :: vs, _ :: xs, j + 1, _, h, e => by
    obtain ⟨x, h1, h2⟩ := EvL.at (j := j) h.2 (by simpa using e)
    exact ⟨x, by simpa using h1, h2⟩
  | [], _ :: _, _, _, h, _ => h.elim
  | _ :: _, [], _, _, h, _ => h.elim
theorem EvL.of {K : PySem.W.Frag} {H : Hp} : ∀ {vs : List V} {xs : List Str}, ErL H vs (xs.map (He.ga K)) → EvL K H vs xs
  | [], [], _ => trivial
  | _ :: _, _ :: _, ⟨⟨a, e, h⟩, r⟩ => ⟨⟨a, none, e, h, .inl rfl⟩, EvL.of r⟩
  | [], _ :: _, h => h.elim
  | _ :: _, [], h => h.elim
/-- the errors of the entries -/
theorem EntL.fst {K : PySem.W.Frag} {H : Hp} : ∀ {vs : List V} {xs : List Str}, EntL K H vs xs → ∃ ys : List V, EvL K H ys xs ∧ ∀ (j : Nat) (v : V), vs[j]? = some v → ∃ (t m u : Addr) (y : V) (D : PyData), v = .ref t ∧ H t = some (.tup [y, .ref m, .ref u]) ∧ ys[j]? = some y ∧ Dq K H (.ref m) D ∧ Dq K H (.ref u) D ∧ Sm D
  | [], [], _ => ⟨[], trivial, fun j v h => by simp at h⟩
  | v :: vs, x :: xs, ⟨⟨t, e, m, u, dd, fs, D, h1, h2, h3, h4, h5, h6, h7⟩, r⟩ => by
    obtain ⟨ys, g1, g2⟩ := EntL.fst r
    refine ⟨.ref e :: ys, ⟨⟨e, some dd, rfl, h3, .inr ⟨dd, fs, rfl, h4⟩⟩, g1⟩, fun j w hj => ?_⟩
    cases j with
    | zero =>
      simp at hj
      subst hj
      exact ⟨t, m, u, .ref e, D, h1, h2, rfl, h5, h6, h7⟩
    | succ j =>
      obtain ⟨t', m', u', y', D', q1, q2, q3, q4⟩ := g2 j w (by simpa using hj)
      exact ⟨t', m', u', y', D', q1, q2, by simpa using q3, q4⟩
  | [], _ :: _, h => h.elim
  | _ :: _, [], h => h.elim
/-- new lists of one number each, none of them at Z -/
def ClL (Z : Addr) (H : Hp) : List V → List Nat → Prop
  | [], [] => True
  | v :: vs, i :: is => (∃ p, v = .ref p ∧ p ≠ Z ∧ H p = some (.lst [.int (i : Nat)])) ∧ ClL Z H vs is
  | _, _ => False
theorem ClL.keep {Z : Addr} {H H' : Hp} (k : Kx [Z] H H') : ∀ {vs : List V} {is : List Nat}, ClL Z H vs is → ClL Z H' vs is
  | [], [], _ => trivial
  | _ :: _, _ :: _, ⟨⟨p, e, z, h⟩, r⟩ => ⟨⟨p, e, z, k _ _ h (by simp [z])⟩, ClL.keep k r⟩
  | [], _ :: _, h => h.elim
  | _ :: _, [], h => h.elim
theorem ClL.snoc {Z : Addr} {H : Hp} {p : Addr} {i : Nat} (z : p ≠ Z) (h : H p = some (.lst [.int (i : Nat)])) : ∀ {vs : List V} {is : List Nat}, ClL Z H vs is → ClL Z H (vs ++ [.ref p]) (is ++ [i])
  | [], [], _ => ⟨⟨p, rfl, z, h⟩, trivial⟩
  | _ :: _, _ :: _, ⟨h1, r⟩ => ⟨h1, ClL.snoc z h r⟩
  | [], _ :: _, h => h.elim
  | _ :: _, [], h => h.elim
theorem ClL.len {Z : Addr} {H : Hp} : ∀ {vs : List V} {is : List Nat}, ClL Z H vs is → vs.length = is.length
  | [], [], _ => rfl
  | _ :: _, _ :: _, h => by simp [ClL.len h.2]
  | [], _ :: _, h => h.elim
  | _ :: _, [], h => h.elim
theorem ClL.at {Z : Addr} {H : Hp} : ∀ {vs : List V} {is : List Nat} {j : Nat} {v : V}, ClL Z H vs is → vs[j]? = some v → ∃ p i, is[j]? = some i ∧ v = .ref p ∧ H p = some (.lst [.int (i : Nat)])
  | [], [], _, _, _, h => by simp at h
  | v :: vs, i :: is, 0, _, h, e => by
    simp at e
    subst e
    obtain ⟨⟨p, h1, _, h2⟩, _⟩ := h
    exact ⟨p, i, rfl, h1, h2⟩
  | _ :: vs, _ :: is, j + 1, _, h, e => by
    obtain ⟨p, i, h1, h2⟩ := ClL.at (j := j) h.2 (by simpa using e)
    exact ⟨p, i, by simpa using h1, h2⟩
  | [], _ :: _, _, _, h, _ => h.elim
  | _ :: _, [], _, _, h, _ => h.elim
theorem take_get {α : Type} {l : List α} {i : Nat} {c : α} (h : l[i]? = some c) : l.take i ++ [c] = l.take (i + 1) := by
  obtain ⟨hl, e⟩ := List.getElem?_eq_some_iff.mp h
  rw [List.take_succ_eq_append_getElem hl, e]
theorem EntL.keep {K : PySem.W.Frag} {H H' : Hp} (k : Kx [] H H') : ∀ {vs : List V} {xs : List Str}, EntL K H vs xs → EntL K H' vs xs
  | [], [], _ => trivial
  | _ :: _, _ :: _, h => ⟨h.1.keep k, EntL.keep k h.2⟩
  | [], _ :: _, h => h.elim
  | _ :: _, [], h => h.elim
theorem EntL.len {K : PySem.W.Frag} {H : Hp} : ∀ {vs : List V} {xs : List Str}, EntL K H vs xs → vs.length = xs.length
  | [], [], _ => rfl
  | _ :: _, _ :: _, h => by simp [EntL.len h.2]
  | [], _ :: _, h => h.elim
  | _ :: _, [], h => h.elim
theorem ixs_int : (ixs.map fun i => ((i : Nat) : Int)).Nodup ∧ ixs.length = 54 := by decide +kernel
theorem rd_lenset {K : PySem.W.Frag} {ta : TE} {σ : L2.St} {H : Hp} {Q : VK} (q : ta σ H fun x H1 => ∃ (l : Addr) (ns : List Int), x = V.ref l ∧ SqL K H1 l (ns.map V.int) ∧ ns.length < 64 ∧ ns.Nodup ∧ Q (.int ns.length) H1) : tLenSetI K ta σ H Q := q
theorem ite_ne_self {x y : V} {A B : Prop} (e : x = y) (q : B) : if (!decide (x = y)) = true then A else B := by
  rw [if_neg (by simp [e])]
  exact q
def sp_law (K : PySem.W.Frag) : Sp := fun vs H Q _ => ∃ (a : Addr) (ns : List Int), vs = [.ref a] ∧ SqL K H a (ns.map V.int) ∧ ns.length ≤ 63 ∧ ∀ H', Q (.bl true) H'
section
variable {P : Program} {w : World} {K : PySem.W.Frag} {mg : Str → Option Value} {base : Heap}
theorem ok_law (T : TxE P K mg) : FnAtG P w K mg base CX0 4 "law" ["_law_script"] (sp_law K) := by
  refine FnAtG.mk T.d_law (fun _ _ _ _ _ _ us hl => match us, hl with | [_], _ => rfl) fun f fd F => ?_
  refine fn_g F sc_law (fun vs H Q E h => by obtain ⟨a, ns, rfl, _⟩ := h; rfl) (fun cdv A outer s H vs Q E hg hr h => ?_)
  obtain ⟨a, ns, rfl, hS, hl, k⟩ := h
  refine ⟨_, (pss_cons (ps_set (i := 1) sc_law.nd rfl (by first | exact Or.inl rfl | exact Or.inr rfl) (pe_f (ok__law_begun T.D) (hr.mono (by decide)) rfl (pa_cons (pv 0) pa_nil)))
    (pss_cons (ps_set (i := 2) sc_law.nd rfl (by first | exact Or.inl rfl | exact Or.inr rfl) (pe_lst (pa_cons pe_non (pa_cons pe_int (pa_cons (pe_un un_neg pe_int) (pa_cons pe_str (pa_cons pe_str (pa_cons (pe_tup (pa_cons pe_int (pa_cons pe_int pa_nil))) (pa_cons (pe_lst (pa_cons pe_int pa_nil)) (pa_cons (pe_disp (pps_cons pe_str pe_int pps_nil) (by rfl) (by rfl) (fun z => by cases z) (by decide)) (pa_cons pe_bl (pa_cons (pe_op op_pow pe_int pe_int) pa_nil))))))))))))
    (pss_cons (ps_par (i := 3) (j := 4) (by rfl) sc_law.nd rfl rfl (by decide) rfl rfl (pa_cons (pe_f (ok__law_pick T.D) (hr.mono (by decide)) rfl (pa_cons (pv 1) (pa_cons (pv 2) pa_nil))) (pa_cons (pe_f (ok__law_pick T.D) (hr.mono (by decide)) rfl (pa_cons (pv 1) (pa_cons (pv 2) pa_nil))) pa_nil)) (by rfl))
    (pss_cons (ps_set (i := 5) sc_law.nd rfl (by first | exact Or.inl rfl | exact Or.inr rfl) (pe_f (ok__law_told_errors T) (hr.mono (by decide)) rfl (pa_cons (pv 3) (pa_cons (pv 4) pa_nil))))
    (pss_cons (ps_set (i := 6) sc_law.nd rfl (by first | exact Or.inl rfl | exact Or.inr rfl) (pe_op op_cat (pe_f0 (ok__law_plain_errors T) (hr.mono (by decide)) rfl) (pe_lc (own := [("_law_entry", 11)]) (by rfl) sc_law.nd (pi_list (pv 5)) (blkOk_by (own := [("_law_entry", 11)]) (N := ["_law_script", "_law_draw", "_law_some", "_law_one", "_law_other", "_law_told", "_law_errors_here", "_law_classes_here", "_law_error", "_law_mine", "_law_due", "_law_entry", "_law_found"]) (sc := defScope s_law) (by decide +kernel)) (fun _ _ _ _ _ => by exact (pg_name (i := 11) sc_law.nd rfl (by first | exact Or.inl rfl | exact Or.inr rfl))) (fun _ _ _ _ _ => pts_nil) (fun _ _ _ _ _ => (pe_ix (show IxR _ (rIxT K) from ix_tup) (pv 11) pe_int (fun _ _ => rfl))))))
    (pss_cons (ps_setLc (i := 7) (own := [("_law_error", 8)]) (by rfl) sc_law.nd rfl rfl (sw_true rfl rfl rfl (by decide +kernel)) (pi_list (pv 6)) (blkOk_by (own := [("_law_error", 8)]) (N := ["_law_script", "_law_draw", "_law_some", "_law_one", "_law_other", "_law_told", "_law_errors_here", "_law_classes_here", "_law_error", "_law_mine", "_law_due", "_law_entry", "_law_found"]) (sc := defScope s_law) (by decide +kernel)) (fun _ _ _ _ _ => by exact (pg_name (i := 8) sc_law.nd rfl (by first | exact Or.inl rfl | exact Or.inr rfl))) (fun _ _ _ _ _ => pts_nil) (fun _ _ _ _ _ => (pe_f (ok__law_classes T) (hr.mono (by decide)) rfl (pa_cons (pv 8) pa_nil))))
    (pss_cons (ps_if (PW.pt (pw_or (pt_cmpR (op_neD hr.units) (pe_lc (own := [("_law_found", 12)]) (by rfl) sc_law.nd (pi_list (pv 7)) (blkOk_by (own := [("_law_found", 12)]) (N := ["_law_script", "_law_draw", "_law_some", "_law_one", "_law_other", "_law_told", "_law_errors_here", "_law_classes_here", "_law_error", "_law_mine", "_law_due", "_law_entry", "_law_found"]) (sc := defScope s_law) (by decide +kernel)) (fun _ _ _ _ _ => by exact (pg_name (i := 12) sc_law.nd rfl (by first | exact Or.inl rfl | exact Or.inr rfl))) (fun _ _ _ _ _ => (pts_one (pt_cmpR op_ne (pe_callB (show CallR _ _ (rLenQ K) from call_lenQ) rfl T.b_len (by decide +kernel) (pa_cons (pv 12) pa_nil)) pe_int (nomark _)))) (fun _ _ _ _ _ => pe_int)) (pe_lst pa_nil) (nomark _)) (pw_or1 (pt_cmpR op_ne (pe_lenSetI rfl rfl T.b_len rfl T.b_set (pe_lc (own := [("_law_found", 12)]) (by rfl) sc_law.nd (pi_list (pv 7)) (blkOk_by (own := [("_law_found", 12)]) (N := ["_law_script", "_law_draw", "_law_some", "_law_one", "_law_other", "_law_told", "_law_errors_here", "_law_classes_here", "_law_error", "_law_mine", "_law_due", "_law_entry", "_law_found"]) (sc := defScope s_law) (by decide +kernel)) (fun _ _ _ _ _ => by exact (pg_name (i := 12) sc_law.nd rfl (by first | exact Or.inl rfl | exact Or.inr rfl))) (fun _ _ _ _ _ => pts_nil) (fun _ _ _ _ _ => (pe_ix (show IxR _ (rIxL K) from ix_list) (pv 12) pe_int (fun _ _ => rfl))))) (pe_callB call_len_seq rfl T.b_len (by decide +kernel) (pa_cons (pv 6) pa_nil)) (nomark _))))) (pss_one (ps_ret pe_bl)) pss_nil)
    (pss_cons (ps_for PassesOwn.never rfl (pi_list (pv 5)) (pg_tup (by rfl) (pgs_cons (pg_name (i := 8) sc_law.nd rfl (by first | exact Or.inl rfl | exact Or.inr rfl)) (pgs_cons (pg_name (i := 9) sc_law.nd rfl (by first | exact Or.inl rfl | exact Or.inr rfl)) (pgs_cons (pg_name (i := 10) sc_law.nd rfl (by first | exact Or.inl rfl | exact Or.inr rfl)) pgs_nil))))
    (pss_one (ps_if (pt_cmpR op_ne (pe_callB (call_reprQ hg (hu65 hr) T.sys T.sysD) rfl T.b_repr (by decide +kernel) (pa_cons (pv 9) pa_nil)) (pe_callB (call_reprQ hg (hu65 hr) T.sys T.sysD) rfl T.b_repr (by decide +kernel) (pa_cons (pv 10) pa_nil)) (nomark _)) (pss_one (ps_ret pe_bl)) pss_nil)))
    (pss_cons (ps_for PassesOwn.never rfl (pi_list (pv 6)) (pg_name (i := 8) sc_law.nd rfl (by first | exact Or.inl rfl | exact Or.inr rfl))
    (pss_one (ps_if (PW.pt (pw_or (pt_not (pt_val (pe_callB call_isV rfl T.b_isinstance (by decide +kernel) (pa_cons (pv 8) (pa_cons (pe_glob rfl T.g_MakerError (show RelV (.ref _) _ from rfl)) pa_nil))))) (pw_or1 (pt_not (pt_val (pe_callB call_isV rfl T.b_isinstance (by decide +kernel) (pa_cons (pv 8) (pa_cons (pe_bltn (v := .ty "ValueError") rfl T.b_ValueError (by decide +kernel) rfl) pa_nil)))))))) (pss_one (ps_ret pe_bl)) pss_nil)))
    (pss_one (ps_ret pe_bl))))))))))), ?_⟩
  walk_at "go"
  refine ⟨a, ns, rfl, hS, hl, fun H1 d w c k1 hd hw hc hwc D => ?_⟩
  walk_at "rd"
  refine ⟨lenOk rfl, fun p1 n1 => ?_⟩
  have a1 : Kx [] H1 (upd H1 p1 (.tup [.int 1, .int 2])) := Kx.refl.nw n1
  have b1 : upd H1 p1 (.tup [.int 1, .int 2]) p1 = some (.tup [.int 1, .int 2]) := upd_same
  generalize upd H1 p1 (.tup [.int 1, .int 2]) = G1 at a1 b1 ⊢
  walk_at "rd"
  refine ⟨lenOk rfl, fun p2 n2 => ?_⟩
  have a2 : Kx [] G1 (upd G1 p2 (.lst [.int 3])) := Kx.refl.nw n2
  have b2 : upd G1 p2 (.lst [.int 3]) p2 = some (.lst [.int 3]) := upd_same
  generalize upd G1 p2 (.lst [.int 3]) = G2 at a2 b2 ⊢
  walk_at "rd"
  intro p3 n3
  dsimp only [tPairs]
  walk_at "rd"
  refine ⟨upd_same, [(Sum.inr "a", .int 4)], rfl, (by show 1 ≤ 15; decide), ?_⟩
  have e0 : mergeK ([] : List (Key × V)) [(Sum.inr ("a" : Str), .int 4)] = [(Sum.inr ("a" : Str), .int 4)] := by first | rfl | decide +kernel
  rw [e0]
  have a3 : Kx [] G2 (upd (upd G2 p3 (.dK [])) p3 (.dK [(Sum.inr "a", .int 4)])) := (Kx.refl.nw n3).mu n3
  have b3 : upd (upd G2 p3 (.dK [])) p3 (.dK [(Sum.inr "a", .int 4)]) p3 = some (.dK [(Sum.inr "a", .int 4)]) := upd_same
  generalize upd (upd G2 p3 (.dK [])) p3 (.dK [(Sum.inr "a", .int 4)]) = G3 at a3 b3 ⊢
  walk_at "rd"
  refine ⟨_, _, rfl, rfl, ⟨by decide, by decide, by decide⟩, ?_⟩
  walk_at "rd"
  refine ⟨lenOk rfl, fun L nL => ?_⟩
  have D3 := D.keep ((a1.trans a2).trans a3) (Nat.le_refl _)
  have fr := D3.fresh nL
  have fr1 := D.fresh n1
  have fr2 := (D.keep a1 (Nat.le_refl _)).fresh n2
  have fr3 := (D.keep (a1.trans a2) (Nat.le_refl _)).fresh n3
  obtain ⟨os, eos⟩ : ∃ os, os = [V.non, .int 0, .int (-7), .str "x", .str "", .ref p1, .ref p2, .ref p3, .bl true, (fun i j : Int => V.int (i ^ j.toNat)) 10 20] := ⟨_, rfl⟩
  rw [← eos]
  have hos : os.length = 10 := by rw [eos]; rfl
  have a4 : Kx [] G3 (upd G3 L (.lst os)) := Kx.refl.nw nL
  have b4 : upd G3 L (.lst os) L = some (.lst os) := upd_same
  have D4 := D3.keep a4 (Nat.le_refl _)
  generalize upd G3 L (.lst os) = G4 at a4 b4 D4 ⊢
  have hlim : lim = 1000000000000 := rfl
  have data : ∀ G, Kx [d, w] G4 G → ∀ x ∈ os, ∃ dt ∈ dataL, Dq K G x dt := fun G kG x hx => by
    have f1 := kG _ _ (((a2.trans a3).trans a4) _ _ b1 (by simp)) (by simp [fr1.1, fr1.2.1])
    have f2 := kG _ _ ((a3.trans a4) _ _ b2 (by simp)) (by simp [fr2.1, fr2.2.1])
    have f3 := kG _ _ (a4 _ _ b3 (by simp)) (by simp [fr3.1, fr3.2.1])
    rw [eos] at hx
    simp only [List.mem_cons, List.not_mem_nil, or_false] at hx
    rcases hx with rfl | rfl | rfl | rfl | rfl | rfl | rfl | rfl | rfl | rfl
    · exact ⟨.none, by simp [dataL], .non⟩
    · exact ⟨.int 0, by simp [dataL], .int _⟩
    · exact ⟨.int (-7), by simp [dataL], .int _⟩
    · exact ⟨.str "x", by simp [dataL], .str _⟩
    · exact ⟨.str "", by simp [dataL], .str _⟩
    · exact ⟨.tuple [.int 1, .int 2], by simp [dataL], .tup (SqT.of f1) (.cons (.int _) (.cons (.int _) .nil))⟩
    · exact ⟨.list [.int 3], by simp [dataL], .lst (SqL.of f2) (.cons (.int _) .nil)⟩
    · exact ⟨.dict [(.str "a", .int 4)], by simp [dataL], .dct (ds := [.int 4]) f3 (.cons (.int _) .nil)⟩
    · exact ⟨.bool true, by simp [dataL], .bl _⟩
    · exact ⟨.int (10 ^ 20), by simp [dataL], .int _⟩
  walk_at "rd"
  refine ⟨d, w, c, L, 0, os, rfl, D4, hwc, by omega, SqL.of b4, fr.1, fr.2.1, by omega, by omega, fun H2 i2 x2 k2 D2 hx2 => ?_⟩
  walk_at "rd"
  refine ⟨d, w, c, L, 1, os, rfl, D2, hwc, by omega, SqL.of (k2 _ _ b4 (by simp [fr.1, fr.2.1])), fr.1, fr.2.1, by omega, by omega, fun H3 i3 x3 k3 D5 hx3 => ?_⟩
  obtain ⟨d1, hd1, q1⟩ := data H3 (k2.trans k3) x2 (List.mem_of_getElem? hx2)
  obtain ⟨d2, hd2, q2⟩ := data H3 (k2.trans k3) x3 (List.mem_of_getElem? hx3)
  walk_at "rd"
  refine ⟨x2, x3, d1, d2, rfl, hd1, hd2, q1, q2, fun H5 p5 xs5 k5 n5 h5 e5 => ?_⟩
  walk_at "rd"
  refine ⟨rfl, fun H6 p6 xs6 k6 n6 h6 e6 => ?_⟩
  have h56 := k6 _ _ h5 (by simp)
  have e56 := e5.keep k6
  obtain ⟨ys, ey, hy⟩ := e56.fst
  have ly := ey.len
  have l5 := e5.len
  walk_at "rd"
  refine ⟨p5, rfl, ⟨_, SqL.of h56⟩, ?_⟩
  intro L1 nL1
  refine lc_src src_list (fun j H' => PvF H6 L1 [] (ys.take j) H') (PvF.zero nL1 (by simp)) (fun j H' _ pv => SqL.of (pv.kx _ _ h56 (by simp))) ?_ ?_
  · rintro j v J1 J2 hj ⟨rfl, hv⟩ pv
    obtain ⟨t, m, u, y, Dt, rfl, g1, g2, g3, g4, g5⟩ := hy j v hv
    walk_at "lc"
    refine ⟨rfl, ?_⟩
    walk_at "rd"
    refine iteT ?_
    walk_at "rd"
    refine ⟨t, _, _, y, rfl, rfl, SqT.of (pv.kx _ _ g1 (by simp)), rfl, ?_⟩
    refine pv.yes nL1 Kx.refl ?_ (take_get g2)
    have h4 : toldN.length = 4 := rfl
    rw [List.length_take]
    exact small1000 (by omega)
  · intro H7 pv
    have hys : ys.take xs5.length = ys := List.take_of_length_le (by omega)
    have pv7 : PvF H6 L1 [] ys H7 := by rw [← hys]; exact pv
    have kx7 := pv7.kx
    have h67 := kx7 _ _ h6 (by simp)
    have h57 := kx7 _ _ h56 (by simp)
    have l6 := e6.len
    rw [List.length_map] at l6
    refine ⟨p6, L1, xs6, ys, rfl, rfl, h67, pv7.at_, ?_, fun p7 n7 => ?_⟩
    · have h4 : toldN.length = 4 := rfl
      have h5 : plainN.length = 50 := rfl
      rw [sizeLine_eq]
      omega
    have k78 : Kx [] H7 (upd H7 p7 (.lst (xs6 ++ ys))) := Kx.refl.nw n7
    have h7 : upd H7 p7 (.lst (xs6 ++ ys)) p7 = some (.lst (xs6 ++ ys)) := upd_same
    have eE : EvL K (upd H7 p7 (.lst (xs6 ++ ys))) (xs6 ++ ys) errN := ((EvL.of e6).keep (kx7.trans k78)).app (ey.keep (kx7.trans k78))
    have h58 := k78 _ _ h57 (by simp)
    have k68 := kx7.trans k78
    generalize upd H7 p7 (.lst (xs6 ++ ys)) = H8 at k78 h7 eE h58 k68 ⊢
    have lE := eE.len
    generalize xs6 ++ ys = es at h7 eE lE ⊢
    rw [ixs_ok.2.2] at lE
    walk_at "rd"
    refine ⟨p7, rfl, ⟨_, SqL.of h7⟩, ?_⟩
    intro L2 nL2
    refine lc_src src_list (fun j H' => ∃ zs, PvF H8 L2 [] zs H' ∧ ClL L2 H' zs (ixs.take j)) ⟨[], PvF.zero nL2 (by simp), trivial⟩ (fun j H' _ ⟨_, pv, _⟩ => SqL.of (pv.kx _ _ h7 (by simp))) ?_ ?_
    · rintro j v J1 J2 hj ⟨rfl, hv⟩ ⟨zs, pv, cl⟩
      obtain ⟨x, hx, hE⟩ := eE.at hv
      obtain ⟨ae, de, rfl, he1, he2⟩ := hE.keep pv.kx
      have hxm := List.mem_of_getElem? hx
      walk_at "lc"
      refine ⟨rfl, ?_⟩
      walk_at "rd"
      refine iteT ?_
      walk_at "rd"
      refine ⟨ae, x, de, clsN.idxOf x, rfl, he1, he2, ixs_ok.1 x hxm, fun J3 pc kc nc hc => ?_⟩
      have hix : ixs[j]? = some (clsN.idxOf x) := by
        unfold ixs
        rw [List.getElem?_map, hx]
        rfl
      have lz := cl.len
      rw [List.length_take] at lz
      have hpc : pc ≠ L2 := (ne_of_none pv.at_ nc).symm
      obtain ⟨acc, g1, g2, g3⟩ := pv.yes (y := .ref pc) nL2 kc (by exact small1000 (by omega)) rfl
      have ea : acc = zs := by
        have z := kc _ _ pv.at_ (by simp)
        rw [g1] at z
        cases z
        rfl
      subst ea
      refine ⟨acc, g1, g2, _, g3, ?_⟩
      rw [← take_get hix]
      have ku : Kx [L2] J3 (upd J3 L2 (.lst (acc ++ [.ref pc]))) := Kx.refl.in (by simp)
      exact ClL.snoc hpc (ku _ _ hc (by simp [hpc])) ((cl.keep (kc.mono (by simp))).keep ku)
    · rintro H9 ⟨zs, pv2, cl⟩
      rw [List.take_of_length_le (by rw [ixs_int.2]; omega)] at cl
      have lz := cl.len
      rw [ixs_int.2] at lz
      have h59 := pv2.kx _ _ h58 (by simp)
      have h79 := pv2.kx _ _ h7 (by simp)
      walk_at "rd"
      refine ⟨L2, rfl, ⟨_, SqL.of pv2.at_⟩, ?_⟩
      intro L3 nL3
      refine lc_src src_list (fun j H' => PvF H9 L3 [] [] H') (PvF.zero nL3 (by simp)) (fun j H' _ pv => SqL.of (pv.kx _ _ pv2.at_ (by simp))) ?_ ?_
      · rintro j v J1 J2 hj ⟨rfl, hv⟩ pv
        obtain ⟨pc, i, hi, rfl, hc⟩ := cl.at hv
        walk_at "lc"
        refine ⟨rfl, ?_⟩
        walk_at "rd"
        refine ⟨pc, _, rfl, .inl (SqL.of (pv.kx _ _ hc (by simp))), ?_⟩
        walk_at "rd"
        exact ite_ne_self rfl (pv.no Kx.refl rfl)
      · intro H10 pv3
        walk_at "rd"
        refine ⟨by decide, fun p10 n10 => ?_⟩
        have e3 : upd H10 p10 (.lst []) L3 = _ := (upd_ne (ne_of_none pv3.at_ n10)).trans pv3.at_
        refine ⟨.list [], .list [], .lst (SqL.of e3) .nil, .lst (SqL.of upd_same) .nil, by decide, by decide, ?_⟩
        rw [eqv_nil]
        have k910 : Kx [] H9 (upd H10 p10 (.lst [])) := pv3.kx.nw n10
        generalize upd H10 p10 (.lst []) = H11 at k910 ⊢
        have h2b := k910 _ _ pv2.at_ (by simp)
        have h5b := k910 _ _ h59 (by simp)
        have h7b := k910 _ _ h79 (by simp)
        have clb := cl.keep (k910.mono (by simp))
        walk_at "rd"
        refine iteF ?_
        walk_at "rd"
        refine rd_lenset ?_
        walk_at "rd"
        refine ⟨L2, rfl, ⟨_, SqL.of h2b⟩, ?_⟩
        intro L4 nL4
        refine lc_src src_list (fun j H' => PvF H11 L4 [] ((ixs.take j).map fun i => V.int (i : Nat)) H') (PvF.zero nL4 (by simp)) (fun j H' _ pv => SqL.of (pv.kx _ _ h2b (by simp))) ?_ ?_
        · rintro j v J1 J2 hj ⟨rfl, hv⟩ pv
          obtain ⟨pc, i, hi, rfl, hc⟩ := clb.at hv
          walk_at "lc"
          refine ⟨rfl, ?_⟩
          walk_at "rd"
          refine iteT ?_
          walk_at "rd"
          refine ⟨pc, _, _, .int (i : Nat), rfl, rfl, SqL.of (pv.kx _ _ hc (by simp)), rfl, ?_⟩
          refine pv.yes nL4 Kx.refl ?_ ?_
          · rw [List.length_map, List.length_take, ixs_int.2]
            exact small1000 (by omega)
          · rw [← take_get hi, List.map_append]
            rfl
        · intro H12 pv4
          rw [List.take_of_length_le (by rw [ixs_int.2]; omega)] at pv4
          refine ⟨L4, ixs.map fun i => ((i : Nat) : Int), rfl, SqL.of (by rw [pv4.at_, List.map_map]; rfl), by rw [List.length_map, ixs_int.2]; decide, ixs_int.1, ?_⟩
          have k12 : Kx [] H8 H12 := (pv2.kx.trans k910).trans pv4.kx
          have h7c := pv4.kx _ _ h7b (by simp)
          have h5c := pv4.kx _ _ h5b (by simp)
          walk_at "rd"
          refine ⟨p7, _, rfl, .inl (SqL.of h7c), ?_⟩
          walk_at "rd"
          refine ite_ne_self (by rw [List.length_map, ixs_int.2, lE]) ?_
          walk_at "rd"
          have e12 := e56.keep (k68.trans k12)
          obtain ⟨ys2, _, hy2⟩ := e12.fst
          have eE12 := eE.keep k12
          refine ⟨p5, rfl, ⟨_, SqL.of h5c⟩, ?_⟩
          refine for_src src_list (fun j σ H' => H' = H12 ∧ ∃ b8 b9 b10 b11 b12, σ = [some (.ref a), some (.ref d), some (.ref L), some x2, some x3, some (.ref p5), some (.ref p7), some (.ref L2), b8, b9, b10, b11, b12]) ⟨rfl, _, _, _, _, _, rfl⟩ (fun j σ H' _ ⟨e, _⟩ => by rw [e]; exact SqL.of h5c) ?_ ?_
          · rintro j v σ J1 J2 hj ⟨rfl, hv⟩ ⟨rfl, b8, b9, b10, b11, b12, rfl⟩
            obtain ⟨t, m, u, y, Dt, rfl, g1, g2, g3, g4, g5⟩ := hy2 j v hv
            refine ⟨t, _, rfl, SqT.of g1, rfl, ?_⟩
            walk_at "rd"
            have s3 : Dt.shown.length ≤ sizeLine := by rw [sizeLine_eq]; have := g5.2.2; omega
            refine ⟨_, Dt, rfl, g3, ⟨_, rfl⟩, g5.1, g5.2.1, s3, ?_⟩
            walk_at "rd"
            refine ⟨_, Dt, rfl, g4, ⟨_, rfl⟩, g5.1, g5.2.1, s3, ?_⟩
            walk_at "rd"
            refine ite_ne_self rfl ?_
            walk_at "rd"
            exact ⟨rfl, _, _, _, _, _, rfl⟩
          · rintro σ J1 ⟨rfl, b8, b9, b10, b11, b12, rfl⟩
            walk_at "rd"
            refine ⟨p7, rfl, ⟨_, SqL.of h7c⟩, ?_⟩
            refine for_src src_list (fun j σ H' => H' = J1 ∧ ∃ b8 b9 b10 b11 b12, σ = [some (.ref a), some (.ref d), some (.ref L), some x2, some x3, some (.ref p5), some (.ref p7), some (.ref L2), b8, b9, b10, b11, b12]) ⟨rfl, _, _, _, _, _, rfl⟩ (fun j σ H' _ ⟨e, _⟩ => by rw [e]; exact SqL.of h7c) ?_ ?_
            · rintro j v σ J3 J2 hj ⟨rfl, hv⟩ ⟨rfl, b8, b9, b10, b11, b12, rfl⟩
              obtain ⟨x, hx, hE⟩ := eE12.at hv
              obtain ⟨ae, de, rfl, he1, he2⟩ := hE
              have hxm := err_cls x (List.mem_of_getElem? hx)
              walk_at "rd"
              refine ⟨ae, _, de, _, _, true, rfl, he1, he2, T.e x hxm, .own _, T.m x hxm, ?_⟩
              walk_at "rd"
              refine iteF ?_
              walk_at "rd"
              refine ⟨ae, _, de, _, _, true, rfl, he1, he2, T.e x hxm, .ty _, T.v x hxm, ?_⟩
              walk_at "rd"
              refine iteF ?_
              walk_at "rd"
              exact ⟨rfl, _, _, _, _, _, rfl⟩
            · rintro σ J2 ⟨rfl, b8, b9, b10, b11, b12, rfl⟩
              walk_at "rd"
              exact k _
end
end My

set_option Elab.async false
set_option linter.all false
set_option maxRecDepth 100000
set_option maxHeartbeats 0
namespace My
open PySem L2 PyProof.Rows
def hFa : List He.Fa := [.glo "_law_begun", .glo "_law_mixed", .glo "_law_take", .glo "_law_pick", .glo "_law_plain_errors", .glo "_law_told_errors", .glo "_law_classes", .glo "law", .glo "MakerError", .free "abs", .free "int", .free "len", .free "isinstance", .free "enumerate", .free "repr", .free "set", .free "super", .free "ValueError"]
def hFn : List He.DefD := [dfD "_law_begun" s__law_begun, dfD "_law_mixed" s__law_mixed, dfD "_law_take" s__law_take, dfD "_law_pick" s__law_pick, dfD "_law_plain_errors" s__law_plain_errors, dfD "_law_told_errors" s__law_told_errors, dfD "_law_classes" s__law_classes, dfD "law" s_law]
def hNames : List PySem.Str := (["MakerError", "BadBarred", "BadBase", "BadChoice", "BadContext", "BadContract", "BadDocument", "BadEnds", "BadEvents", "BadGoal", "BadGrouping", "BadHeld", "BadInputs", "BadKept", "BadKind", "BadLevel", "BadLot", "BadMachine", "BadMaker", "BadMany", "BadMemory", "BadModes", "BadMost", "BadNames", "BadNumber", "BadOptions", "BadPairs", "BadPart", "BadPath", "BadPiece"] : List PySem.Str) ++ (["BadPins", "BadProgram", "BadPrograms", "BadRecords", "BadRow", "BadRuin", "BadScope", "BadSecond", "BadShowing", "BadStanding", "BadTerms", "BadText", "BadThing", "BadTrace", "BadWidth", "FixedFill", "NotAhead", "NotTold", "NothingDone", "NothingUndone", "OtherChoice", "Ruined", "Tight", "TooMany", "Unnamed", "_law_begun", "_law_mixed", "_law_take", "_law_pick", "_law_plain_errors"] : List PySem.Str) ++ (["_law_told_errors", "_law_classes"] : List PySem.Str)
theorem hd__law_begun {K : PySem.W.Frag} {h : Heap} {mg : Str → Option Value} {fi : List IniD} {ex : PySem.W.Frag → Bool} (c : Says hFa hFn fi ex K) (X : K.In h) (G : h.Ns mainGlobals mg) : DefAt K mg "_law_begun" s__law_begun := c.def_ X G 0 0
theorem hd__law_mixed {K : PySem.W.Frag} {h : Heap} {mg : Str → Option Value} {fi : List IniD} {ex : PySem.W.Frag → Bool} (c : Says hFa hFn fi ex K) (X : K.In h) (G : h.Ns mainGlobals mg) : DefAt K mg "_law_mixed" s__law_mixed := c.def_ X G 1 1
theorem hd__law_take {K : PySem.W.Frag} {h : Heap} {mg : Str → Option Value} {fi : List IniD} {ex : PySem.W.Frag → Bool} (c : Says hFa hFn fi ex K) (X : K.In h) (G : h.Ns mainGlobals mg) : DefAt K mg "_law_take" s__law_take := c.def_ X G 2 2
theorem hd__law_pick {K : PySem.W.Frag} {h : Heap} {mg : Str → Option Value} {fi : List IniD} {ex : PySem.W.Frag → Bool} (c : Says hFa hFn fi ex K) (X : K.In h) (G : h.Ns mainGlobals mg) : DefAt K mg "_law_pick" s__law_pick := c.def_ X G 3 3
theorem hd__law_plain_errors {K : PySem.W.Frag} {h : Heap} {mg : Str → Option Value} {fi : List IniD} {ex : PySem.W.Frag → Bool} (c : Says hFa hFn fi ex K) (X : K.In h) (G : h.Ns mainGlobals mg) : DefAt K mg "_law_plain_errors" s__law_plain_errors := c.def_ X G 4 4
theorem hd__law_told_errors {K : PySem.W.Frag} {h : Heap} {mg : Str → Option Value} {fi : List IniD} {ex : PySem.W.Frag → Bool} (c : Says hFa hFn fi ex K) (X : K.In h) (G : h.Ns mainGlobals mg) : DefAt K mg "_law_told_errors" s__law_told_errors := c.def_ X G 5 5
theorem hd__law_classes {K : PySem.W.Frag} {h : Heap} {mg : Str → Option Value} {fi : List IniD} {ex : PySem.W.Frag → Bool} (c : Says hFa hFn fi ex K) (X : K.In h) (G : h.Ns mainGlobals mg) : DefAt K mg "_law_classes" s__law_classes := c.def_ X G 6 6
theorem hd_law {K : PySem.W.Frag} {h : Heap} {mg : Str → Option Value} {fi : List IniD} {ex : PySem.W.Frag → Bool} (c : Says hFa hFn fi ex K) (X : K.In h) (G : h.Ns mainGlobals mg) : DefAt K mg "law" s_law := c.def_ X G 7 7
theorem hc_MakerError {K : PySem.W.Frag} {h : Heap} {mg : Str → Option Value} {fi : List IniD} {ex : PySem.W.Frag → Bool} (c : Says hFa hFn fi ex K) (X : K.In h) (G : h.Ns mainGlobals mg) : mg "MakerError" = some (.ref (He.ga K "MakerError")) := c.glo X G 8
theorem hb_abs {K : PySem.W.Frag} {h : Heap} {mg : Str → Option Value} {fi : List IniD} {ex : PySem.W.Frag → Bool} (c : Says hFa hFn fi ex K) (X : K.In h) (G : h.Ns mainGlobals mg) : mg "abs" = none := c.free X G 9
theorem hb_int {K : PySem.W.Frag} {h : Heap} {mg : Str → Option Value} {fi : List IniD} {ex : PySem.W.Frag → Bool} (c : Says hFa hFn fi ex K) (X : K.In h) (G : h.Ns mainGlobals mg) : mg "int" = none := c.free X G 10
theorem hb_len {K : PySem.W.Frag} {h : Heap} {mg : Str → Option Value} {fi : List IniD} {ex : PySem.W.Frag → Bool} (c : Says hFa hFn fi ex K) (X : K.In h) (G : h.Ns mainGlobals mg) : mg "len" = none := c.free X G 11
theorem hb_isinstance {K : PySem.W.Frag} {h : Heap} {mg : Str → Option Value} {fi : List IniD} {ex : PySem.W.Frag → Bool} (c : Says hFa hFn fi ex K) (X : K.In h) (G : h.Ns mainGlobals mg) : mg "isinstance" = none := c.free X G 12
theorem hb_enumerate {K : PySem.W.Frag} {h : Heap} {mg : Str → Option Value} {fi : List IniD} {ex : PySem.W.Frag → Bool} (c : Says hFa hFn fi ex K) (X : K.In h) (G : h.Ns mainGlobals mg) : mg "enumerate" = none := c.free X G 13
theorem hb_repr {K : PySem.W.Frag} {h : Heap} {mg : Str → Option Value} {fi : List IniD} {ex : PySem.W.Frag → Bool} (c : Says hFa hFn fi ex K) (X : K.In h) (G : h.Ns mainGlobals mg) : mg "repr" = none := c.free X G 14
theorem hb_set {K : PySem.W.Frag} {h : Heap} {mg : Str → Option Value} {fi : List IniD} {ex : PySem.W.Frag → Bool} (c : Says hFa hFn fi ex K) (X : K.In h) (G : h.Ns mainGlobals mg) : mg "set" = none := c.free X G 15
theorem hb_super {K : PySem.W.Frag} {h : Heap} {mg : Str → Option Value} {fi : List IniD} {ex : PySem.W.Frag → Bool} (c : Says hFa hFn fi ex K) (X : K.In h) (G : h.Ns mainGlobals mg) : mg "super" = none := c.free X G 16
theorem hb_ValueError {K : PySem.W.Frag} {h : Heap} {mg : Str → Option Value} {fi : List IniD} {ex : PySem.W.Frag → Bool} (c : Says hFa hFn fi ex K) (X : K.In h) (G : h.Ns mainGlobals mg) : mg "ValueError" = none := c.free X G 17
def hFb : List He.Fa := hFa ++ clsN.map He.Fa.glo
def hI0 : IniD := ⟨"BadScope", "BadScope.__init__", s_BadScope___init__⟩
def hI1 : IniD := ⟨"BadText", "BadText.__init__", s_BadText___init__⟩
def hI2 : IniD := ⟨"TooMany", "TooMany.__init__", s_TooMany___init__⟩
def hI3 : IniD := ⟨"Unnamed", "Unnamed.__init__", s_Unnamed___init__⟩
abbrev hR : PySem.W.OpenRow := PySem.W.OpenLaw.row PySem.Challenge.rw_anymaker_k16_errors_made_and_bases
def mroB (K : PySem.W.Frag) (C M : Addr) : Bool := match PySem.W.clsIn K C with
  | some cd => decide (cd.mro = .ref C :: .ref M :: PySem.HandSPX.veTail)
  | none => false
def incB (K : PySem.W.Frag) : List Str → Bool
  | x :: y :: r => Nat.blt (He.ga K x) (He.ga K y) && incB K (y :: r)
  | _ => true
def noB (K : PySem.W.Frag) (x : Str) (fs : List Str) : Bool := fs.all fun y => He.eqO (PySem.W.findIn K (.ref (He.ga K x)) y) (some none)
def hEx0 (K : PySem.W.Frag) : Bool := plainN.all fun x => PySem.W.excIn K (He.ga K x) He.veBase "ValueError.__new__"
def hEx1 (K : PySem.W.Frag) : Bool := clsN.all fun x => PySem.W.keepIn K (.ref (He.ga K x)) && (errB K (He.ga K x) && (mroB K (He.ga K x) (He.ga K "MakerError") && (eqB (PySem.W.kitOne K (.ref (He.ga K x)) (.type "ValueError")) (some true))))
def hEx2 (K : PySem.W.Frag) : Bool := incB K ("MakerError" :: clsN) && (errB K (He.ga K "MakerError") && (match K.lookup sysModules with
  | some ob => decide (ob.cls = .type "dict")
  | none => false))
def hEx3 (K : PySem.W.Frag) : Bool := (supB hR.prog.main.file K hI0 && noB K "BadScope" ["kind"]) && (supB hR.prog.main.file K hI1 && noB K "BadText" ["line", "column", "wanted"]) && (supB hR.prog.main.file K hI2 && noB K "TooMany" ["most"]) && (supB hR.prog.main.file K hI3 && noB K "Unnamed" ["name"])
def hEx (K : PySem.W.Frag) : Bool := hEx0 K && (hEx1 K && (hEx2 K && hEx3 K))
abbrev hIs : List IniD := [hI0, hI1, hI2, hI3]
abbrev hHk : PySem.W.Hook := hookM 5 hFb hFn hIs hEx
def hOb (s : PySem.W.SharedT) : AlM := obsMG 5 hFb hFn hIs hEx (HandSHeadRun.getT s)
theorem hOb_eq (s : PySem.W.SharedT) : hOb s = hHk.obs s.abs := obsMG_eq (HandSHeadRun.getT_eq s)
theorem hRun (w : World) : HandSHeadRun.RunEq hR (PySem.W.view hR.prog [64]) hHk hOb 60000 hNames w := by
  intro os
  kernel_rfl
theorem sub_of {K : PySem.W.Frag} {C M : Addr} (h : mroB K C M = true) (D : Addr) : PySem.W.subIn K (.ref C) (.ref D) = some (decide (D = C) || decide (D = M)) := by
  unfold mroB at h
  cases e : PySem.W.clsIn K C with
  | none => rw [e] at h; cases h
  | some cd =>
    rw [e] at h
    have hm : cd.mro = .ref C :: .ref M :: PySem.HandSPX.veTail := of_decide_eq_true h
    show PySem.W.mroIn K C (.ref D) = _
    unfold PySem.W.mroIn
    rw [e, Option.bind_some, hm]
    show some (List.contains _ _) = _
    rw [List.contains_cons, List.contains_cons]
    have e1 : ∀ A B : Addr, ((Value.ref A == Value.ref B) : Bool) = decide (A = B) := fun A B => by
      by_cases q : A = B
      · subst q; simp
      · rw [decide_eq_false q]
        exact beq_eq_false_iff_ne.mpr fun z => q (Value.ref.inj z)
    have e2 : List.contains PySem.HandSPX.veTail (Value.ref D) = false := by
      simp [PySem.HandSPX.veTail]
    rw [e1, e1, e2, Bool.or_false]
theorem inc_lt {K : PySem.W.Frag} : ∀ {x : Str} {l : List Str}, incB K (x :: l) = true → ∀ y ∈ l, He.ga K x < He.ga K y
  | _, [], _, _, h => by cases h
  | x, z :: r, h, y, hy => by
    have h' : (Nat.blt (He.ga K x) (He.ga K z) && incB K (z :: r)) = true := h
    obtain ⟨h1, h2⟩ := ba h'
    have h3 : He.ga K x < He.ga K z := Nat.le_of_ble_eq_true h1
    rcases List.mem_cons.mp hy with e | e
    · rw [e]; exact h3
    · exact Nat.lt_trans h3 (inc_lt h2 y e)
theorem inc_tail {K : PySem.W.Frag} {x : Str} {l : List Str} (h : incB K (x :: l) = true) : incB K l = true := by
  cases l with
  | nil => rfl
  | cons z r =>
    have h' : (Nat.blt (He.ga K x) (He.ga K z) && incB K (z :: r)) = true := h
    exact (ba h').2
theorem inc_ne {K : PySem.W.Frag} : ∀ {l : List Str}, incB K l = true → ∀ x ∈ l, ∀ y ∈ l, x ≠ y → He.ga K x ≠ He.ga K y
  | [], _, _, hx, _, _, _ => by cases hx
  | z :: r, h, x, hx, y, hy, ne => by
    rcases List.mem_cons.mp hx with e | e
    · rcases List.mem_cons.mp hy with f | f
      · exact absurd (e.trans f.symm) ne
      · rw [e]; exact Nat.ne_of_lt (inc_lt h y f)
    · rcases List.mem_cons.mp hy with f | f
      · rw [f]; exact Nat.ne_of_gt (inc_lt h x e)
      · exact inc_ne (inc_tail h) x e y f ne
theorem noB_ok {K : PySem.W.Frag} {x : Str} {fs : List Str} (h : noB K x fs = true) : ∀ y ∈ fs, PySem.W.findIn K (.ref (He.ga K x)) y = some none := fun y hy => of_decide_eq_true (List.all_eq_true.mp h y hy)
theorem glo_in : ∀ x ∈ clsN, He.Fa.glo x ∈ hFb := fun x hx => List.mem_append_right _ (List.mem_map.mpr ⟨x, hx, rfl⟩)
theorem hT {K : PySem.W.Frag} {h : Heap} {mg : Str → Option Value} (c : Says hFb hFn hIs hEx K) (X : K.In h) (G : h.Ns mainGlobals mg) : TxE hR.prog K mg := by
  have df : ∀ (i j : Nat) {x : Str} {st : Stmt}, hFn[i]? = some (dfD x st) → hFb[j]? = some (.glo x) → DefAt K mg x st := fun i j {x st} e1 e2 => by
    obtain ⟨fd, F⟩ := c.d.def_ i e1
    exact ⟨_, fd, He.glo_ok X G (c.d.fact j e2), fun_of F⟩
  have fr : ∀ {x : Str}, He.Fa.free x ∈ hFa → mg x = none := fun {x} hx => He.free_ok X G (factsM c (List.mem_append_left _ hx))
  obtain ⟨e0, e⟩ := ba c.ex
  obtain ⟨e1, e⟩ := ba e
  obtain ⟨e2, e3⟩ := ba e
  have p : ∀ x ∈ clsN, PySem.W.keepIn K (.ref (He.ga K x)) = true ∧ errB K (He.ga K x) = true ∧ mroB K (He.ga K x) (He.ga K "MakerError") = true ∧ PySem.W.kitOne K (.ref (He.ga K x)) (.type "ValueError") = some true := fun x hx => by
    have q := List.all_eq_true.mp e1 x hx
    obtain ⟨q1, q⟩ := ba q
    obtain ⟨q2, q⟩ := ba q
    obtain ⟨q3, q4⟩ := ba q
    exact ⟨q1, q2, q3, of_decide_eq_true q4⟩
  obtain ⟨f1, f⟩ := ba e2
  obtain ⟨f2, f3⟩ := ba f
  have g : ∀ x ∈ clsN, mg x = some (.ref (He.ga K x)) := fun x hx => He.glo_ok X G (factsM c (glo_in x hx))
  have hsup : mg "super" = none := fr (by simp [hFa])
  have ne : ∀ x ∈ clsN, ∀ y ∈ clsN, x ≠ y → He.ga K x ≠ He.ga K y := fun x hx y hy => inc_ne (inc_tail f1) x hx y hy
  have nm : ∀ x ∈ clsN, He.ga K x ≠ He.ga K "MakerError" := fun x hx => Nat.ne_of_gt (inc_lt f1 x hx)
  obtain ⟨i0, i⟩ := ba (show ((supB hR.prog.main.file K hI0 && noB K "BadScope" ["kind"]) && (supB hR.prog.main.file K hI1 && noB K "BadText" ["line", "column", "wanted"]) && (supB hR.prog.main.file K hI2 && noB K "TooMany" ["most"]) && (supB hR.prog.main.file K hI3 && noB K "Unnamed" ["name"])) = true from e3)
  obtain ⟨i1, i2⟩ := ba i0
  obtain ⟨i3, i4⟩ := ba i1
  obtain ⟨s0, n0⟩ := ba i3
  obtain ⟨s1, n1⟩ := ba i4
  obtain ⟨s2, n2⟩ := ba i2
  obtain ⟨s3, n3⟩ := ba i
  have u0 := supB_ok (mg := mg) (c.ini 0) s0 hsup
  have u1 := supB_ok (mg := mg) (c.ini 1) s1 hsup
  have u2 := supB_ok (mg := mg) (c.ini 2) s2 hsup
  have u3 := supB_ok (mg := mg) (c.ini 3) s3 hsup
  have sys : ∃ ob, K.lookup sysModules = some ob ∧ ob.cls = .type "dict" := by
    cases q : K.lookup sysModules with
    | none => rw [q] at f3; cases f3
    | some ob => rw [q] at f3; exact ⟨ob, rfl, of_decide_eq_true f3⟩
  obtain ⟨ob, hob, hcl⟩ := sys
  exact {
    D := ⟨fr (by simp [hFa]), fr (by simp [hFa]), fr (by simp [hFa]), df 0 0 rfl rfl, df 1 1 rfl rfl, df 2 2 rfl rfl, df 3 3 rfl rfl⟩
    b_isinstance := fr (by simp [hFa]), b_enumerate := fr (by simp [hFa]), b_len := fr (by simp [hFa]), b_set := fr (by simp [hFa]), b_repr := fr (by simp [hFa]), b_ValueError := fr (by simp [hFa])
    g := g, g_MakerError := He.glo_ok X G (factsM c (List.mem_append_left _ (by simp [hFa])))
    x := fun x hx => List.all_eq_true.mp e0 x hx
    k := fun x hx => (p x hx).1
    e := fun x hx => errB_ok (p x hx).2.1
    one := fun x hx y hy => by
      by_cases q : x = y
      · subst q
        rw [decide_eq_true rfl]
        unfold PySem.W.kitOne
        rw [if_pos (by simp)]
      · have a1 := ne x hx y hy q
        have s := sub_of (p x hx).2.2.1 (He.ga K y)
        rw [decide_eq_false (fun z => a1 z.symm), decide_eq_false (fun z => nm y hy z), Bool.or_false] at s
        rw [decide_eq_false q]
        exact (errB_ok (p y hy).2.1).one s fun z => absurd z a1
    m := fun x hx => by
      have s := sub_of (p x hx).2.2.1 (He.ga K "MakerError")
      rw [decide_eq_true rfl, Bool.or_true] at s
      exact (errB_ok f2).one s fun _ => rfl
    v := fun x hx => (p x hx).2.2.2
    sys := by rw [hob]; rfl
    sysD := fun o h => by rw [hob] at h; cases h; exact hcl
    d__law_plain_errors := df 4 4 rfl rfl, d__law_told_errors := df 5 5 rfl rfl, d__law_classes := df 6 6 rfl rfl, d_law := df 7 7 rfl rfl
    top := by decide +kernel
    iBadScope := ⟨_, _, _, g _ (by decide +kernel), u0.1, u0.2.1, u0.2.2, noB_ok n0⟩
    iBadText := ⟨_, _, _, g _ (by decide +kernel), u1.1, u1.2.1, u1.2.2, noB_ok n1⟩
    iTooMany := ⟨_, _, _, g _ (by decide +kernel), u2.1, u2.2.1, u2.2.2, noB_ok n2⟩
    iUnnamed := ⟨_, _, _, g _ (by decide +kernel), u3.1, u3.2.1, u3.2.2, noB_ok n3⟩ }
end My
open PySem PySem.W PySem.Calls PyProof.Rows
theorem PySem.Challenge.cw_anymaker_k16_errors_made_and_bases_holds : PySem.Challenge.rw_anymaker_k16_errors_made_and_bases.Holds := by
  w_on; o_law
  refine HandSHeadRun.head_any (r := OpenLaw.row PySem.Challenge.rw_anymaker_k16_errors_made_and_bases) (q := view (OpenLaw.row PySem.Challenge.rw_anymaker_k16_errors_made_and_bases).prog [64]) (H := My.hHk) (ob := My.hOb) (M := 60000) (loose := My.hNames) (d := HandSHeadRun.topDef (OpenLaw.row PySem.Challenge.rw_anymaker_k16_errors_made_and_bases).prog 64) (kwd := []) My.hOb_eq
    (by kernel_rfl) (fun s => by kernel_rfl) My.hRun (by kernel_rfl) (by kernel_rfl) (by kernel_rfl) (by rfl) (by first | assumption | decide +kernel) (by decide +kernel) ⟨rfl, rfl, rfl, rfl, rfl, by decide +kernel⟩ ?hw ?hc
  case hw => w_witness2
  case hc =>
    refine My.walk_gE (l := PySem.Challenge.rw_anymaker_k16_errors_made_and_bases) (n := 63) (k := 4) (x := "_law_script") rfl (by decide) (by kernel_rfl) ⟨rfl, by decide, by decide⟩ ?F
    intro w mg fa h Y G hmg0
    obtain ⟨K, KX, c⟩ := Y
    have hmg : mg ("law" : PySem.Str) = some (.ref fa) := by
      have e : (HandSHeadRun.topDef (OpenLaw.row PySem.Challenge.rw_anymaker_k16_errors_made_and_bases).prog 64).name = ("law" : PySem.Str) := by kernel_rfl
      rw [← e]
      exact hmg0
    have T := My.hT c KX G
    obtain ⟨fd, hb, hF⟩ := My.law_end T.d_law (fun _ _ _ _ _ _ us hl => match us, hl with | [_], _ => rfl) (fun base => My.ok_law (P := (PySem.Challenge.rw_anymaker_k16_errors_made_and_bases).prog) (w := w) (base := base) T) hmg
    exact ⟨K, fd, My.sp_law K, KX, hb, fun H a ns hl _ hS => ⟨a, ns, rfl, hS, hl, fun _ => rfl⟩, fun base _ _ => hF base⟩

