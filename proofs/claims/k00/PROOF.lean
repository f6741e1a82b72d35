import PyProof.Rows.All
import Wide.All
import OpenK.AllK
import Wide.FinOn
import HandS.ForMost
import HandS.Exc
import HandS.Text
import HandS.IsInst
import HandS.WordsExc
import KE.KExcSuper
import HandS.ExcInit
import HandS.Nested
import HandS.ExcField
import HandS.ExcIs
import KE.KExcIs
import KE.KStateDown
import HandS.Defaults
import HandS.Head0
import HandS.Head1
import HandS.Head2
import HandS.HeadHook1
import HandS.HeadHook2
import PyProof.ReprBulk
import PyProof.P3Eq
import HandS.Strs
import PySem.Challenge.RW_anymaker_k00_names_and_words
set_option Elab.async false
set_option linter.all false
set_option maxRecDepth 100000
set_option maxHeartbeats 4000000
/-! My own layer over HandS: defs by name, readings step by step, heaps that keep all but some. -/
namespace My
open PySem L2

/-- a def of the module stands under its name and keeps its promise -/
def FnAt (P : Program) (w : World) (K : PySem.W.Frag) (mg : Str → Option Value) (base : Heap) (CX : CXT) (k : Nat) (x : Str) (ps : List Str) (sp : Sp) : Prop :=
  ∃ (f : Addr) (fd : FuncData), mg x = some (.ref f) ∧ PySem.W.keepIn K (.ref f) = true ∧ Binds K fd ps [] ∧ FnOk P w K mg base CX k f fd ps sp ∧ ∃ oc od osl, K.lookup f = some ⟨oc, od, .func fd, osl⟩
/-- a def of the text as the top left it -/
def DefAt (K : PySem.W.Frag) (mg : Str → Option Value) (x : Str) (st : Stmt) : Prop := ∃ (f : Addr) (fd : FuncData), mg x = some (.ref f) ∧ Fun K x x st f fd
section
variable {P : Program} {w : World} {K : PySem.W.Frag} {mg : Str → Option Value} {base : Heap} {CX : CXT} {k : Nat} {x : Str} {ps : List Str} {sp : Sp} {st : Stmt}
theorem FnAt.mk (D : DefAt K mg x st) (hb : ∀ (kV doc pm : Value) (an : Option Addr) (cdv ct : Value) (us : List Value), us.length = ps.length → bindArgs (PySem.W.fnOf x x (defArgs st) (defBody st) (defScope st) .none kV doc pm an cdv ct) ⟨us, []⟩ = pure (ps.zip us))
    (h : ∀ f fd, Fun K x x st f fd → FnOk P w K mg base CX k f fd ps sp) : FnAt P w K mg base CX k x ps sp := by
  obtain ⟨f, fd, e, F⟩ := D
  refine ⟨f, fd, e, F.kp, F.binds hb, h f fd F, ?_⟩
  obtain ⟨oc, od, kV, doc, pm, an, cdv, ct, osl, rfl, lk, hcd⟩ := F.ex
  exact ⟨oc, od, osl, lk⟩
/-- keywords' values in the parameters' order -/
def kwOrd {α : Type} (idx : List Nat) (ws : List α) : List α := idx.filterMap fun i => ws[i]?
theorem vals_kwOrd {zs : List V} {ws : List Value} (r : Vals zs ws) : ∀ idx : List Nat, Vals (kwOrd idx zs) (kwOrd idx ws)
  | [] => .nil
  | i :: r' => by
    have ih := vals_kwOrd r r'
    unfold kwOrd at ih ⊢
    rw [List.filterMap_cons, List.filterMap_cons]
    cases e : zs[i]? with
    | none => rw [Vals.none_of r e]; exact ih
    | some x =>
      obtain ⟨u, e2, ru⟩ := Vals.get r e
      rw [e2]
      exact .cons ru ih
/-- how the def st binds n positional values and the keywords ks -/
def KwB (x : Str) (st : Stmt) (ps ks : List Str) (n : Nat) (idx : List Nat) : Prop :=
  ∀ (kV doc pm : Value) (an : Option Addr) (cdv ct : Value) (us ws : List Value), us.length = n → ws.length = ks.length → bindArgs (PySem.W.fnOf x x (defArgs st) (defBody st) (defScope st) .none kV doc pm an cdv ct) ⟨us, ks.zip ws⟩ = pure (ps.zip (us ++ kwOrd idx ws))
def tCallW (n m : Nat) (idx : List Nat) (sp : Sp) (E : XK) (t tk : TA) : TE := fun σ H Q => t σ H fun vs H1 => tk σ H1 fun zs H2 => vs.length = n ∧ zs.length = m ∧ sp (vs ++ kwOrd idx zs) H2 Q E
end
section
variable {X : Cx} {CX : CXT} {k : Nat} {x : Str} {ps : List Str} {sp : Sp} {p pos : Pos} {e : Expr} {es : List Expr} {t : TA}
theorem pe_f (F : FnAt X.prog X.w X.K X.mg X.base CX0 k x ps sp) (hr : Room k X.A) (hg : Gl X x) (ha : PA X (e :: es) t) (hdb : (x == ("__debug__" : Str)) = false := by decide)
    (he : starEach (e :: es) X.env = (false, eval e X.env) :: starEach es X.env := by rfl) (hpl : (backTo pos (starEach es X.env)).any (·.1) = false := by rfl) :
    PE X (.Call (.Name x p) (e :: es) [] pos) (tCall sp [] E0 t) := by
  obtain ⟨f, fd, e1, e2, e3, e4, _⟩ := F
  exact pe_call e4 hr hg e1 e2 e3 .nil pass0 ha hdb he hpl
theorem pe_f0 (F : FnAt X.prog X.w X.K X.mg X.base CX0 k x ps sp) (hr : Room k X.A) (hg : Gl X x) (hdb : (x == ("__debug__" : Str)) = false := by decide) : PE X (.Call (.Name x p) [] [] pos) (tCall sp [] E0 tNil) := by
  obtain ⟨f, fd, e1, e2, e3, e4, _⟩ := F
  exact pe_call0 e4 hr hg e1 e2 e3 .nil pass0 hdb
section
variable {st : Stmt} {ks : List Str} {n : Nat} {idx : List Nat} {E : XK} {kws : List Keyword} {tk : TA}
theorem run_fw {pins : List (Addr × Obj)} {σ : L2.St} {H : Hp} {s : Shared} {Q : VK} {us ws : List Value} {vs zs : List V} {f : Addr} {fd : FuncData} (F : FnOk X.prog X.w X.K X.mg X.base CX k f fd ps sp) (hr : Room k X.A)
    (hb : ∀ us ws : List Value, us.length = n → ws.length = ks.length → bindArgs fd ⟨us, ks.zip ws⟩ = pure (ps.zip (us ++ kwOrd idx ws))) (hx : Passes CX X E)
    (I : L2.Inv X pins σ H s) (r : Vals vs us) (rz : Vals zs ws) (l1 : vs.length = n) (l2 : zs.length = ks.length) (h : sp (vs ++ kwOrd idx zs) H Q E) : wpAny (model X.prog X.w) X.A (call (.ref f) us (ks.zip ws)) (EP X pins σ Q) X.xe s := by
  have r2 := r.append (vals_kwOrd rz idx)
  refine wpAny_call (codeAny_mono (F.run X.A X.stack s H ⟨us, ks.zip ws⟩ _ _ Q E hr I.env0 (.of_eq (hb us ws (r.length.symm.trans l1) (rz.length.symm.trans l2))) r2 h) fun r s' hq => ?_)
  cases r with
  | error e => exact hx pins σ H s e s' I hq
  | ok fl =>
    cases fl with
    | ret u => exact I.after hq
    | next => exact False.elim hq
    | brk => exact False.elim hq
    | cont => exact False.elim hq
theorem FnAt.kw (D : DefAt X.K X.mg x st) (F : FnAt X.prog X.w X.K X.mg X.base CX k x ps sp) (B : KwB x st ps ks n idx) :
    ∃ (f : Addr) (fd : FuncData), X.mg x = some (.ref f) ∧ PySem.W.keepIn X.K (.ref f) = true ∧ FnOk X.prog X.w X.K X.mg X.base CX k f fd ps sp ∧ ∀ us ws : List Value, us.length = n → ws.length = ks.length → bindArgs fd ⟨us, ks.zip ws⟩ = pure (ps.zip (us ++ kwOrd idx ws)) := by
  obtain ⟨f, fd, e1, e2, e3, e4, oc, od, osl, lk⟩ := F
  obtain ⟨f', fd', e1', F'⟩ := D
  rw [e1] at e1'
  cases e1'
  obtain ⟨oc', od', kV, doc, pm, an, cdv, ct, osl', rfl, lk', hcd⟩ := F'.ex
  rw [lk] at lk'
  cases lk'
  exact ⟨f, _, e1, e2, e4, fun us ws h1 h2 => B kV doc pm an cdv ct us ws h1 h2⟩
/-- f(e, .., k = v, ..) -/
theorem pe_fw (D : DefAt X.K X.mg x st) (F : FnAt X.prog X.w X.K X.mg X.base CX k x ps sp) (B : KwB x st ps ks n idx) (hx : Passes CX X E) (hr : Room k X.A) (hg : Gl X x) (ha : PA X (e :: es) t) (hkw : PK X kws tk)
    (hall : (backToKw pos (keywordEach kws X.env)).all (·.1.isSome) = true := by rfl) (hks : (backToKw pos (keywordEach kws X.env)).filterMap (·.1) = ks := by rfl)
    (hdb : (x == ("__debug__" : Str)) = false := by decide) (he : starEach (e :: es) X.env = (false, eval e X.env) :: starEach es X.env := by rfl)
    (hpl : ((backTo pos (starEach (e :: es) X.env)).any (·.1) || (backToKw pos (keywordEach kws X.env)).any (·.1.isNone)) = false := by rfl) :
    PE X (.Call (.Name x p) (e :: es) kws pos) (tCallW n ks.length idx sp E t tk) := by
  obtain ⟨f, fd, hm, hk, F, hb⟩ := F.kw D B
  refine ⟨fun pins s σ H Q I h => ?_⟩
  refine wpAny_Call_Name_kw (ld_glob I hg hm ?_ hdb)
  refine PySem.W.callWith_KW (h₀ := X.base) I.ok.mod.kin hk hall (thn (ha.run pos pins s σ H _ I h) fun us s1 ⟨vs, H1, I1, r, q⟩ => ?_) hpl he
  refine thn (hkw.run pos pins s1 σ H1 _ I1 q) fun ws s2 ⟨zs, H2, I2, rz, l1, l2, q2⟩ => ⟨I2.kIn, ?_⟩
  rw [hks]
  exact run_fw F hr hb hx I2 r rz l1 l2 q2
/-- f(k = v, ..) -/
theorem pe_fw0 (D : DefAt X.K X.mg x st) (F : FnAt X.prog X.w X.K X.mg X.base CX k x ps sp) (B : KwB x st ps ks 0 idx) (hx : Passes CX X E) (hr : Room k X.A) (hg : Gl X x) (hkw : PK X kws tk)
    (hall : (backToKw pos (keywordEach kws X.env)).all (·.1.isSome) = true := by rfl) (hks : (backToKw pos (keywordEach kws X.env)).filterMap (·.1) = ks := by rfl)
    (hdb : (x == ("__debug__" : Str)) = false := by decide) (hpl : ((backTo pos (starEach [] X.env)).any (·.1) || (backToKw pos (keywordEach kws X.env)).any (·.1.isNone)) = false := by rfl) :
    PE X (.Call (.Name x p) [] kws pos) (tCallW 0 ks.length idx sp E tNil tk) := by
  obtain ⟨f, fd, hm, hk, F, hb⟩ := F.kw D B
  refine ⟨fun pins s σ H Q I h => ?_⟩
  refine wpAny_Call_Name_kw (ld_glob I hg hm ?_ hdb)
  refine PySem.W.callWith_KW0 (h₀ := X.base) I.ok.mod.kin hk hall ?_ hpl
  refine thn (hkw.run pos pins s σ H _ I h) fun ws s2 ⟨zs, H2, I2, rz, l1, l2, q2⟩ => ⟨I2.kIn, ?_⟩
  rw [hks]
  exact run_fw F hr hb hx I2 .nil rz l1 l2 q2
end
end

/-! ### readings, step by step -/
section
variable {σ : St} {H : Hp} {Q : VK} {v x y : V} {i : Nat} {ta tb te : TE} {t u : TT} {tr : TA} {r : R2} {D : Ends}
theorem rd_var (h : σ[i]? = some (some v)) (q : Q v H) : tVar i σ H Q := ⟨v, h, q⟩
theorem rd_v0 {r : L2.St} (q : Q v H) : tVar 0 (some v :: r) H Q := ⟨v, rfl, q⟩
theorem rd_n0 {a : Option V} {r : L2.St} {QG : L2.St → Hp → Prop} (q : QG (some v :: r) H) : gName 0 v (a :: r) H QG := q
theorem rd_v1 {a0 : Option V} {r : L2.St} (q : Q v H) : tVar 1 (a0 :: some v :: r) H Q := ⟨v, rfl, q⟩
theorem rd_n1 {a0 : Option V} {a : Option V} {r : L2.St} {QG : L2.St → Hp → Prop} (q : QG (a0 :: some v :: r) H) : gName 1 v (a0 :: a :: r) H QG := q
theorem rd_v2 {a0 a1 : Option V} {r : L2.St} (q : Q v H) : tVar 2 (a0 :: a1 :: some v :: r) H Q := ⟨v, rfl, q⟩
theorem rd_n2 {a0 a1 : Option V} {a : Option V} {r : L2.St} {QG : L2.St → Hp → Prop} (q : QG (a0 :: a1 :: some v :: r) H) : gName 2 v (a0 :: a1 :: a :: r) H QG := q
theorem rd_v3 {a0 a1 a2 : Option V} {r : L2.St} (q : Q v H) : tVar 3 (a0 :: a1 :: a2 :: some v :: r) H Q := ⟨v, rfl, q⟩
theorem rd_n3 {a0 a1 a2 : Option V} {a : Option V} {r : L2.St} {QG : L2.St → Hp → Prop} (q : QG (a0 :: a1 :: a2 :: some v :: r) H) : gName 3 v (a0 :: a1 :: a2 :: a :: r) H QG := q
theorem rd_v4 {a0 a1 a2 a3 : Option V} {r : L2.St} (q : Q v H) : tVar 4 (a0 :: a1 :: a2 :: a3 :: some v :: r) H Q := ⟨v, rfl, q⟩
theorem rd_n4 {a0 a1 a2 a3 : Option V} {a : Option V} {r : L2.St} {QG : L2.St → Hp → Prop} (q : QG (a0 :: a1 :: a2 :: a3 :: some v :: r) H) : gName 4 v (a0 :: a1 :: a2 :: a3 :: a :: r) H QG := q
theorem rd_v5 {a0 a1 a2 a3 a4 : Option V} {r : L2.St} (q : Q v H) : tVar 5 (a0 :: a1 :: a2 :: a3 :: a4 :: some v :: r) H Q := ⟨v, rfl, q⟩
theorem rd_n5 {a0 a1 a2 a3 a4 : Option V} {a : Option V} {r : L2.St} {QG : L2.St → Hp → Prop} (q : QG (a0 :: a1 :: a2 :: a3 :: a4 :: some v :: r) H) : gName 5 v (a0 :: a1 :: a2 :: a3 :: a4 :: a :: r) H QG := q
theorem rd_v6 {a0 a1 a2 a3 a4 a5 : Option V} {r : L2.St} (q : Q v H) : tVar 6 (a0 :: a1 :: a2 :: a3 :: a4 :: a5 :: some v :: r) H Q := ⟨v, rfl, q⟩
theorem rd_n6 {a0 a1 a2 a3 a4 a5 : Option V} {a : Option V} {r : L2.St} {QG : L2.St → Hp → Prop} (q : QG (a0 :: a1 :: a2 :: a3 :: a4 :: a5 :: some v :: r) H) : gName 6 v (a0 :: a1 :: a2 :: a3 :: a4 :: a5 :: a :: r) H QG := q
theorem rd_v7 {a0 a1 a2 a3 a4 a5 a6 : Option V} {r : L2.St} (q : Q v H) : tVar 7 (a0 :: a1 :: a2 :: a3 :: a4 :: a5 :: a6 :: some v :: r) H Q := ⟨v, rfl, q⟩
theorem rd_n7 {a0 a1 a2 a3 a4 a5 a6 : Option V} {a : Option V} {r : L2.St} {QG : L2.St → Hp → Prop} (q : QG (a0 :: a1 :: a2 :: a3 :: a4 :: a5 :: a6 :: some v :: r) H) : gName 7 v (a0 :: a1 :: a2 :: a3 :: a4 :: a5 :: a6 :: a :: r) H QG := q
theorem rd_v8 {a0 a1 a2 a3 a4 a5 a6 a7 : Option V} {r : L2.St} (q : Q v H) : tVar 8 (a0 :: a1 :: a2 :: a3 :: a4 :: a5 :: a6 :: a7 :: some v :: r) H Q := ⟨v, rfl, q⟩
theorem rd_n8 {a0 a1 a2 a3 a4 a5 a6 a7 : Option V} {a : Option V} {r : L2.St} {QG : L2.St → Hp → Prop} (q : QG (a0 :: a1 :: a2 :: a3 :: a4 :: a5 :: a6 :: a7 :: some v :: r) H) : gName 8 v (a0 :: a1 :: a2 :: a3 :: a4 :: a5 :: a6 :: a7 :: a :: r) H QG := q
theorem rd_v9 {a0 a1 a2 a3 a4 a5 a6 a7 a8 : Option V} {r : L2.St} (q : Q v H) : tVar 9 (a0 :: a1 :: a2 :: a3 :: a4 :: a5 :: a6 :: a7 :: a8 :: some v :: r) H Q := ⟨v, rfl, q⟩
theorem rd_n9 {a0 a1 a2 a3 a4 a5 a6 a7 a8 : Option V} {a : Option V} {r : L2.St} {QG : L2.St → Hp → Prop} (q : QG (a0 :: a1 :: a2 :: a3 :: a4 :: a5 :: a6 :: a7 :: a8 :: some v :: r) H) : gName 9 v (a0 :: a1 :: a2 :: a3 :: a4 :: a5 :: a6 :: a7 :: a8 :: a :: r) H QG := q
theorem rd_v10 {a0 a1 a2 a3 a4 a5 a6 a7 a8 a9 : Option V} {r : L2.St} (q : Q v H) : tVar 10 (a0 :: a1 :: a2 :: a3 :: a4 :: a5 :: a6 :: a7 :: a8 :: a9 :: some v :: r) H Q := ⟨v, rfl, q⟩
theorem rd_n10 {a0 a1 a2 a3 a4 a5 a6 a7 a8 a9 : Option V} {a : Option V} {r : L2.St} {QG : L2.St → Hp → Prop} (q : QG (a0 :: a1 :: a2 :: a3 :: a4 :: a5 :: a6 :: a7 :: a8 :: a9 :: some v :: r) H) : gName 10 v (a0 :: a1 :: a2 :: a3 :: a4 :: a5 :: a6 :: a7 :: a8 :: a9 :: a :: r) H QG := q
theorem rd_v11 {a0 a1 a2 a3 a4 a5 a6 a7 a8 a9 a10 : Option V} {r : L2.St} (q : Q v H) : tVar 11 (a0 :: a1 :: a2 :: a3 :: a4 :: a5 :: a6 :: a7 :: a8 :: a9 :: a10 :: some v :: r) H Q := ⟨v, rfl, q⟩
theorem rd_n11 {a0 a1 a2 a3 a4 a5 a6 a7 a8 a9 a10 : Option V} {a : Option V} {r : L2.St} {QG : L2.St → Hp → Prop} (q : QG (a0 :: a1 :: a2 :: a3 :: a4 :: a5 :: a6 :: a7 :: a8 :: a9 :: a10 :: some v :: r) H) : gName 11 v (a0 :: a1 :: a2 :: a3 :: a4 :: a5 :: a6 :: a7 :: a8 :: a9 :: a10 :: a :: r) H QG := q
theorem rd_v12 {a0 a1 a2 a3 a4 a5 a6 a7 a8 a9 a10 a11 : Option V} {r : L2.St} (q : Q v H) : tVar 12 (a0 :: a1 :: a2 :: a3 :: a4 :: a5 :: a6 :: a7 :: a8 :: a9 :: a10 :: a11 :: some v :: r) H Q := ⟨v, rfl, q⟩
theorem rd_n12 {a0 a1 a2 a3 a4 a5 a6 a7 a8 a9 a10 a11 : Option V} {a : Option V} {r : L2.St} {QG : L2.St → Hp → Prop} (q : QG (a0 :: a1 :: a2 :: a3 :: a4 :: a5 :: a6 :: a7 :: a8 :: a9 :: a10 :: a11 :: some v :: r) H) : gName 12 v (a0 :: a1 :: a2 :: a3 :: a4 :: a5 :: a6 :: a7 :: a8 :: a9 :: a10 :: a11 :: a :: r) H QG := q
theorem rd_v13 {a0 a1 a2 a3 a4 a5 a6 a7 a8 a9 a10 a11 a12 : Option V} {r : L2.St} (q : Q v H) : tVar 13 (a0 :: a1 :: a2 :: a3 :: a4 :: a5 :: a6 :: a7 :: a8 :: a9 :: a10 :: a11 :: a12 :: some v :: r) H Q := ⟨v, rfl, q⟩
theorem rd_n13 {a0 a1 a2 a3 a4 a5 a6 a7 a8 a9 a10 a11 a12 : Option V} {a : Option V} {r : L2.St} {QG : L2.St → Hp → Prop} (q : QG (a0 :: a1 :: a2 :: a3 :: a4 :: a5 :: a6 :: a7 :: a8 :: a9 :: a10 :: a11 :: a12 :: some v :: r) H) : gName 13 v (a0 :: a1 :: a2 :: a3 :: a4 :: a5 :: a6 :: a7 :: a8 :: a9 :: a10 :: a11 :: a12 :: a :: r) H QG := q
theorem rd_v14 {a0 a1 a2 a3 a4 a5 a6 a7 a8 a9 a10 a11 a12 a13 : Option V} {r : L2.St} (q : Q v H) : tVar 14 (a0 :: a1 :: a2 :: a3 :: a4 :: a5 :: a6 :: a7 :: a8 :: a9 :: a10 :: a11 :: a12 :: a13 :: some v :: r) H Q := ⟨v, rfl, q⟩
theorem rd_n14 {a0 a1 a2 a3 a4 a5 a6 a7 a8 a9 a10 a11 a12 a13 : Option V} {a : Option V} {r : L2.St} {QG : L2.St → Hp → Prop} (q : QG (a0 :: a1 :: a2 :: a3 :: a4 :: a5 :: a6 :: a7 :: a8 :: a9 :: a10 :: a11 :: a12 :: a13 :: some v :: r) H) : gName 14 v (a0 :: a1 :: a2 :: a3 :: a4 :: a5 :: a6 :: a7 :: a8 :: a9 :: a10 :: a11 :: a12 :: a13 :: a :: r) H QG := q
theorem rd_v15 {a0 a1 a2 a3 a4 a5 a6 a7 a8 a9 a10 a11 a12 a13 a14 : Option V} {r : L2.St} (q : Q v H) : tVar 15 (a0 :: a1 :: a2 :: a3 :: a4 :: a5 :: a6 :: a7 :: a8 :: a9 :: a10 :: a11 :: a12 :: a13 :: a14 :: some v :: r) H Q := ⟨v, rfl, q⟩
theorem rd_n15 {a0 a1 a2 a3 a4 a5 a6 a7 a8 a9 a10 a11 a12 a13 a14 : Option V} {a : Option V} {r : L2.St} {QG : L2.St → Hp → Prop} (q : QG (a0 :: a1 :: a2 :: a3 :: a4 :: a5 :: a6 :: a7 :: a8 :: a9 :: a10 :: a11 :: a12 :: a13 :: a14 :: some v :: r) H) : gName 15 v (a0 :: a1 :: a2 :: a3 :: a4 :: a5 :: a6 :: a7 :: a8 :: a9 :: a10 :: a11 :: a12 :: a13 :: a14 :: a :: r) H QG := q
theorem rd_v16 {a0 a1 a2 a3 a4 a5 a6 a7 a8 a9 a10 a11 a12 a13 a14 a15 : Option V} {r : L2.St} (q : Q v H) : tVar 16 (a0 :: a1 :: a2 :: a3 :: a4 :: a5 :: a6 :: a7 :: a8 :: a9 :: a10 :: a11 :: a12 :: a13 :: a14 :: a15 :: some v :: r) H Q := ⟨v, rfl, q⟩
theorem rd_n16 {a0 a1 a2 a3 a4 a5 a6 a7 a8 a9 a10 a11 a12 a13 a14 a15 : Option V} {a : Option V} {r : L2.St} {QG : L2.St → Hp → Prop} (q : QG (a0 :: a1 :: a2 :: a3 :: a4 :: a5 :: a6 :: a7 :: a8 :: a9 :: a10 :: a11 :: a12 :: a13 :: a14 :: a15 :: some v :: r) H) : gName 16 v (a0 :: a1 :: a2 :: a3 :: a4 :: a5 :: a6 :: a7 :: a8 :: a9 :: a10 :: a11 :: a12 :: a13 :: a14 :: a15 :: a :: r) H QG := q
theorem rd_v17 {a0 a1 a2 a3 a4 a5 a6 a7 a8 a9 a10 a11 a12 a13 a14 a15 a16 : Option V} {r : L2.St} (q : Q v H) : tVar 17 (a0 :: a1 :: a2 :: a3 :: a4 :: a5 :: a6 :: a7 :: a8 :: a9 :: a10 :: a11 :: a12 :: a13 :: a14 :: a15 :: a16 :: some v :: r) H Q := ⟨v, rfl, q⟩
theorem rd_n17 {a0 a1 a2 a3 a4 a5 a6 a7 a8 a9 a10 a11 a12 a13 a14 a15 a16 : Option V} {a : Option V} {r : L2.St} {QG : L2.St → Hp → Prop} (q : QG (a0 :: a1 :: a2 :: a3 :: a4 :: a5 :: a6 :: a7 :: a8 :: a9 :: a10 :: a11 :: a12 :: a13 :: a14 :: a15 :: a16 :: some v :: r) H) : gName 17 v (a0 :: a1 :: a2 :: a3 :: a4 :: a5 :: a6 :: a7 :: a8 :: a9 :: a10 :: a11 :: a12 :: a13 :: a14 :: a15 :: a16 :: a :: r) H QG := q
theorem rd_v18 {a0 a1 a2 a3 a4 a5 a6 a7 a8 a9 a10 a11 a12 a13 a14 a15 a16 a17 : Option V} {r : L2.St} (q : Q v H) : tVar 18 (a0 :: a1 :: a2 :: a3 :: a4 :: a5 :: a6 :: a7 :: a8 :: a9 :: a10 :: a11 :: a12 :: a13 :: a14 :: a15 :: a16 :: a17 :: some v :: r) H Q := ⟨v, rfl, q⟩
theorem rd_n18 {a0 a1 a2 a3 a4 a5 a6 a7 a8 a9 a10 a11 a12 a13 a14 a15 a16 a17 : Option V} {a : Option V} {r : L2.St} {QG : L2.St → Hp → Prop} (q : QG (a0 :: a1 :: a2 :: a3 :: a4 :: a5 :: a6 :: a7 :: a8 :: a9 :: a10 :: a11 :: a12 :: a13 :: a14 :: a15 :: a16 :: a17 :: some v :: r) H) : gName 18 v (a0 :: a1 :: a2 :: a3 :: a4 :: a5 :: a6 :: a7 :: a8 :: a9 :: a10 :: a11 :: a12 :: a13 :: a14 :: a15 :: a16 :: a17 :: a :: r) H QG := q
theorem rd_v19 {a0 a1 a2 a3 a4 a5 a6 a7 a8 a9 a10 a11 a12 a13 a14 a15 a16 a17 a18 : Option V} {r : L2.St} (q : Q v H) : tVar 19 (a0 :: a1 :: a2 :: a3 :: a4 :: a5 :: a6 :: a7 :: a8 :: a9 :: a10 :: a11 :: a12 :: a13 :: a14 :: a15 :: a16 :: a17 :: a18 :: some v :: r) H Q := ⟨v, rfl, q⟩
theorem rd_n19 {a0 a1 a2 a3 a4 a5 a6 a7 a8 a9 a10 a11 a12 a13 a14 a15 a16 a17 a18 : Option V} {a : Option V} {r : L2.St} {QG : L2.St → Hp → Prop} (q : QG (a0 :: a1 :: a2 :: a3 :: a4 :: a5 :: a6 :: a7 :: a8 :: a9 :: a10 :: a11 :: a12 :: a13 :: a14 :: a15 :: a16 :: a17 :: a18 :: some v :: r) H) : gName 19 v (a0 :: a1 :: a2 :: a3 :: a4 :: a5 :: a6 :: a7 :: a8 :: a9 :: a10 :: a11 :: a12 :: a13 :: a14 :: a15 :: a16 :: a17 :: a18 :: a :: r) H QG := q
theorem rd_c (q : Q v H) : tC v σ H Q := q
theorem rd_op (q : ta σ H fun x H1 => tb σ H1 fun y H2 => r x y H2 Q) : tOp r ta tb σ H Q := q
theorem rd_un {r : V → Hp → VK → Prop} (q : ta σ H fun x H1 => r x H1 Q) : tUn r ta σ H Q := q
theorem rd_I0 {g : Int → Int → V} {a b : Int} (q : Q (g a b) H) : rI0 g (.int a) (.int b) H Q := ⟨a, b, rfl, rfl, q⟩
theorem rd_I {C : Int → Int → Prop} {g : Int → Int → V} {a b : Int} (c : C a b) (q : Q (g a b) H) : rI C g (.int a) (.int b) H Q := ⟨a, b, rfl, rfl, c, q⟩
theorem rd_U {g : Int → V} {a : Int} (q : Q (g a) H) : rU g (.int a) H Q := ⟨a, rfl, q⟩
theorem rd_nil {QA : List V → Hp → Prop} (q : QA [] H) : tNil σ H QA := q
theorem rd_cons {QA : List V → Hp → Prop} (q : te σ H fun x H1 => tr σ H1 fun xs H2 => QA (x :: xs) H2) : tCons te tr σ H QA := q
theorem rd_call {sp : Sp} {dvs : List V} {E : XK} (q : tr σ H fun vs H1 => sp (vs ++ dvs) H1 Q E) : tCall sp dvs E tr σ H Q := q
theorem rd_callW {sp : Sp} {n m : Nat} {idx : List Nat} {E : XK} {tk : TA} (q : tr σ H fun vs H1 => tk σ H1 fun zs H2 => vs.length = n ∧ zs.length = m ∧ sp (vs ++ kwOrd idx zs) H2 Q E) : tCallW n m idx sp E tr tk σ H Q := q
theorem rd_cb {r : List V → Hp → VK → Prop} (q : tr σ H fun vs H1 => r vs H1 Q) : tCB r tr σ H Q := q
theorem rd_asg {g : TG} (q : te σ H fun x H1 => g x σ H1 D.nx) : tAsg te g D σ H := q
theorem rd_seq {a b : TS} (q : a { D with nx := b D } σ H) : tSeq a b D σ H := q
theorem rd_name {n : Nat} {QG : St → Hp → Prop} (q : QG (σ.set n (some v)) H) : gName n v σ H QG := q
theorem rd_ret (q : te σ H D.rt) : tRet te D σ H := q
theorem rd_drop (q : te σ H fun _ H1 => D.nx σ H1) : tDrop te D σ H := q
theorem rd_next (q : D.nx σ H) : tNext D σ H := q
theorem rd_ifs {c : TT} {a b : TS} (q : c σ H fun k H1 => if k = true then a D σ H1 else b D σ H1) : tIfS c a b D σ H := q
theorem rd_if {c : TT} (q : c σ H fun k H1 => if k = true then ta σ H1 Q else tb σ H1 Q) : tIf c ta tb σ H Q := q
theorem rd_tB {QT : Bool → Hp → Prop} (q : te σ H fun x H1 => ∃ c, x = .bl c ∧ QT c H1) : tB te σ H QT := q
theorem rd_test {QT : Bool → Hp → Prop} (q : te σ H fun x H1 => ∃ c, x = .bl c ∧ QT c H1) : tTest te σ H QT := q
theorem rd_yes {QT : Bool → Hp → Prop} (q : QT true H) : tYes σ H QT := q
theorem rd_not {QT : Bool → Hp → Prop} (q : t σ H fun c H1 => QT (!c) H1) : tNot t σ H QT := q
theorem rd_bl {b : Bool} {Φ : Bool → Prop} (q : Φ b) : ∃ c, V.bl b = .bl c ∧ Φ c := ⟨b, rfl, q⟩
theorem rd_and {QT : Bool → Hp → Prop} (q : t σ H fun c H1 => if c = true then u σ H1 QT else QT false H1) : tAnd t u σ H QT := q
theorem rd_or {QT : Bool → Hp → Prop} (q : t σ H fun c H1 => if c = true then QT true H1 else u σ H1 QT) : tOr t u σ H QT := q
theorem rd_andV (q : ta σ H fun x H1 => ∃ c, x = .bl c ∧ if c = true then tb σ H1 Q else Q (.bl false) H1) : tAndV ta tb σ H Q := q
theorem rd_orV (q : ta σ H fun x H1 => ∃ c, x = .bl c ∧ if c = true then Q (.bl true) H1 else tb σ H1 Q) : tOrV ta tb σ H Q := q
theorem rd_eq (h : scal x y = true) (q : Q (.bl (decide (x = y))) H) : rEq x y H Q := ⟨h, q⟩
theorem rd_ne (h : scal x y = true) (q : Q (.bl (!decide (x = y))) H) : rNe x y H Q := ⟨h, q⟩
theorem rd_par {a b : Nat} (q : tr σ H fun vs H1 => ∃ v w, vs = [v, w] ∧ D.nx ((σ.set a (some v)).set b (some w)) H1) : tPar a b tr D σ H := q
theorem rd_par2 {v w : V} {Φ : V → V → Prop} (q : Φ v w) : ∃ v' w', [v, w] = [v', w'] ∧ Φ v' w' := ⟨v, w, rfl, q⟩
theorem rd_tup (q : tr σ H fun xs H1 => xs.length ≤ sizeLine ∧ ∀ p, H1 p = none → Q (.ref p) (upd H1 p (.tup xs))) : tTup tr σ H Q := q
theorem rd_lst (q : tr σ H fun xs H1 => xs.length ≤ sizeLine ∧ ∀ p, H1 p = none → Q (.ref p) (upd H1 p (.lst xs))) : tLst tr σ H Q := q
theorem rd_new {o : HO} {n : Nat} (hn : n ≤ sizeLine) (q : ∀ p, H p = none → Q (.ref p) (upd H p o)) : n ≤ sizeLine ∧ ∀ p, H p = none → Q (.ref p) (upd H p o) := ⟨hn, q⟩
theorem rd_part {QO : Option Int → Hp → Prop} (q : te σ H fun x H1 => ∃ i, x = .int i ∧ QO (some i) H1) : tPart te σ H QO := q
theorem rd_int {a : Int} {Φ : Int → Prop} (q : Φ a) : ∃ i, V.int a = .int i ∧ Φ i := ⟨a, rfl, q⟩
theorem rd_nopart {QO : Option Int → Hp → Prop} (q : QO none H) : tNoPart σ H QO := q
theorem rd_sl {r : V → Option Int → Option Int → Hp → VK → Prop} {tl th : TO} (q : te σ H fun x H1 => tl σ H1 fun l H2 => th σ H2 fun u H3 => r x l u H3 Q) : tSl r te tl th σ H Q := q
theorem rd_ex1 {a : Int} {Φ : Int → Prop} (q : Φ a) : ∃ i, [V.int a] = [.int i] ∧ Φ i := ⟨a, rfl, q⟩
theorem rd_exs {a : Str} {Φ : Str → Prop} (q : Φ a) : ∃ i, [V.str a] = [.str i] ∧ Φ i := ⟨a, rfl, q⟩
theorem rd_or1 {a : Int} {Φ : Int → Prop} {Ψ : Prop} (q : Φ a) : (∃ i, [V.int a] = [.int i] ∧ Φ i) ∨ Ψ := .inl ⟨a, rfl, q⟩
end
end My
namespace My
open PySem L2
/-! ### heaps that keep all but some -/
def Kx (S : List Addr) (H H' : Hp) : Prop := ∀ a o, H a = some o → a ∉ S → H' a = some o
theorem Kx.refl {S : List Addr} {H : Hp} : Kx S H H := fun _ _ e _ => e
theorem Kx.trans {S : List Addr} {H H1 H2 : Hp} (a : Kx S H H1) (b : Kx S H1 H2) : Kx S H H2 := fun x o e n => b x o (a x o e n) n
theorem Kx.mono {S S' : List Addr} {H H' : Hp} (a : Kx S H H') (s : ∀ x ∈ S, x ∈ S') : Kx S' H H' := fun x o e n => a x o e fun z => n (s x z)
theorem Kx.nw {S : List Addr} {H H' : Hp} {p : Addr} {o : HO} (a : Kx S H H') (n : H' p = none) : Kx S H (upd H' p o) := fun x u e h => by
  have q := a x u e h
  rw [upd_ne (ne_of_none q n)]
  exact q
theorem Kx.in {S : List Addr} {H H' : Hp} {p : Addr} {o : HO} (a : Kx S H H') (n : p ∈ S) : Kx S H (upd H' p o) := fun x u e h => by
  have z : x ≠ p := fun z => h (z ▸ n)
  rw [upd_ne z]
  exact a x u e h
/-- an object that was new ahead may change -/
theorem Kx.mu {S : List Addr} {H H' : Hp} {p : Addr} {o : HO} (a : Kx S H H') (n : H p = none) : Kx S H (upd H' p o) := fun x u e h => by
  rw [upd_ne (ne_of_none e n)]
  exact a x u e h
theorem Kx.sql {S : List Addr} {H H' : Hp} {K : PySem.W.Frag} {a : Addr} {xs : List V} (k : Kx S H H') (h : SqL K H a xs) (n : a ∉ S) : SqL K H' a xs := by
  rcases h with (h | ⟨o, h⟩) | h
  · exact .inl (.inl (k a _ h n))
  · exact .inl (.inr ⟨o, k a _ h n⟩)
  · exact .inr h
theorem Kx.sqt {S : List Addr} {H H' : Hp} {K : PySem.W.Frag} {a : Addr} {xs : List V} (k : Kx S H H') (h : SqT K H a xs) (n : a ∉ S) : SqT K H' a xs := by
  rcases h with (h | ⟨o, h⟩) | h
  · exact .inl (.inl (k a _ h n))
  · exact .inl (.inr ⟨o, k a _ h n⟩)
  · exact .inr h
/-- what was not there is not there ahead -/
theorem Kx.back {S : List Addr} {H H' : Hp} {p : Addr} (k : Kx S H H') (n : H' p = none) (hp : p ∉ S) : H p = none := by
  cases e : H p with
  | none => rfl
  | some o =>
    rw [k p o e hp] at n
    cases n

/-! ### what is walked: n items, while S holds; Y: what a turn yields -/
structure Src (J : It) (n : Nat) (S : Hp → Prop) (Y : Nat → Hp → V → Hp → Prop) : Prop where
  go : ∀ i H, S H → i < n → J.go i H
  yld : ∀ i H x H', S H → i < n → J.yld i H x H' → Y i H x H'
  stop : ∀ i H, S H → n ≤ i → J.stop i H
def Yx (xs : List V) : Nat → Hp → V → Hp → Prop := fun i H x H' => H' = H ∧ xs[i]? = some x
/-- enumerate: a new pair each turn -/
def Ye (xs : List V) : Nat → Hp → V → Hp → Prop := fun i H x H' => ∃ T y, x = .ref T ∧ H T = none ∧ H' = upd H T (.tup [.int (i : Nat), y]) ∧ xs[i]? = some y
theorem src_list {K : PySem.W.Frag} {a : Addr} {xs : List V} : Src (Itl K a) xs.length (fun H => SqL K H a xs) (Yx xs) where
  go := fun i H s h => ⟨xs, xs[i], s, by simp [h]⟩
  yld := fun i H x H' s _ ⟨e, y⟩ => ⟨e, y xs s⟩
  stop := fun i H s h => ⟨xs, s, h⟩
theorem src_tup {K : PySem.W.Frag} {a : Addr} {xs : List V} : Src (Itt K a) xs.length (fun H => SqT K H a xs) (Yx xs) where
  go := fun i H s h => ⟨xs, xs[i], s, by simp [h]⟩
  yld := fun i H x H' s _ ⟨e, y⟩ => ⟨e, y xs s⟩
  stop := fun i H s h => ⟨xs, s, h⟩
theorem src_range {lo : Int} {n : Nat} : Src (Itr lo n) n (fun _ => True) (fun i H x H' => H' = H ∧ x = .int (lo + (i : Nat))) where
  go := fun i H _ h => h
  yld := fun i H x H' _ _ y => y
  stop := fun i H _ h => h
def sgn (c : Nat) : Str := ⟨#[c]⟩
theorem src_str {z : Str} : Src (Its z) z.cps.size (fun _ => True) (fun i H x H' => H' = H ∧ ∃ c, z.cps[i]? = some c ∧ x = .str (sgn c)) where
  go := fun i H _ h => h
  yld := fun i H x H' _ _ y => y
  stop := fun i H _ h => h
theorem src_enum {K : PySem.W.Frag} {a : Addr} {xs : List V} : Src (Ite K a) xs.length (fun H => SqL K H a xs) (Ye xs) where
  go := fun i H s h => ⟨xs, xs[i], s, by simp [h]⟩
  yld := fun i H x H' s _ ⟨T, y, e, n, u, q⟩ => ⟨T, y, e, n, u, q xs s⟩
  stop := fun i H s h => ⟨xs, s, h⟩
section
variable {J : It} {n : Nat} {S : Hp → Prop} {Y : Nat → Hp → V → Hp → Prop} {g : TG} {σ : L2.St} {H : Hp}
/-- a for, by an invariant Pv of the turn's number -/
theorem for_src {tb : TS} {D : Ends} (s : Src J n S Y) (Pv : Nat → L2.St → Hp → Prop) (h0 : Pv 0 σ H) (hl : ∀ i σ H, i ≤ n → Pv i σ H → S H)
    (hs : ∀ i x σ H H', i < n → Y i H x H' → Pv i σ H → g x σ H' fun σ2 H2 => tb { D with nx := Pv (i + 1), ct := Pv (i + 1), bk := D.nx } σ2 H2) (hd : ∀ σ H, Pv n σ H → D.nx σ H) :
    ∃ W : Nat → Nat → L2.St → Hp → Prop, (∃ m, W 0 m σ H) ∧ ∀ i m σ H, W i m σ H →
      (J.stop i H ∧ D.nx σ H) ∨ (J.go i H ∧ ∃ N : L2.St → Hp → Prop, (∀ σ' H', N σ' H' → ∃ m', m' < m ∧ W (i + 1) m' σ' H') ∧ ∀ x H', J.yld i H x H' → g x σ H' fun σ2 H2 => tb { D with nx := N, ct := N, bk := D.nx } σ2 H2) := by
  refine ⟨fun i m σ H => m = n - i ∧ i ≤ n ∧ Pv i σ H, ⟨n, by simp, Nat.zero_le _, h0⟩, ?_⟩
  rintro i m σ H ⟨rfl, hi, p⟩
  have q := hl i σ H hi p
  by_cases hlt : i < n
  · exact .inr ⟨s.go i H q hlt, Pv (i + 1), fun σ' H' p' => ⟨n - (i + 1), by omega, rfl, hlt, p'⟩, fun x H' y => hs i x σ H H' hlt (s.yld i H x H' q hlt y) p⟩
  · have e : i = n := by omega
    subst e
    exact .inl ⟨s.stop i H q (Nat.le_refl _), hd σ H p⟩
/-- a comprehension, its new list at D -/
theorem lc_src {tt : TT} {te : TE} {vs : List Nat} {D : Addr} {Q : Hp → Prop} (s : Src J n S Y) (Pv : Nat → Hp → Prop) (h0 : Pv 0 (upd H D (.lst []))) (hl : ∀ i H, i ≤ n → Pv i H → S H)
    (hs : ∀ i x H H', i < n → Y i H x H' → Pv i H → g x (wipe σ vs) H' fun σ2 H2 => wipe σ2 vs = wipe σ vs ∧ tt σ2 H2 fun b H3 =>
      if b = true then te σ2 H3 fun y H4 => ∃ acc, H4 D = some (.lst acc) ∧ acc.length < sizeLine ∧ Pv (i + 1) (upd H4 D (.lst (acc ++ [y]))) else Pv (i + 1) H3) (hd : ∀ H, Pv n H → Q H) :
    ∃ W : Nat → Nat → Hp → Prop, (∃ m, W 0 m (upd H D (.lst []))) ∧ ∀ i m H, W i m H →
      (J.stop i H ∧ Q H) ∨ (J.go i H ∧ ∃ Nx : Hp → Prop, (∀ H', Nx H' → ∃ m', m' < m ∧ W (i + 1) m' H') ∧ ∀ x H', J.yld i H x H' → g x (wipe σ vs) H' fun σ2 H2 => wipe σ2 vs = wipe σ vs ∧ tt σ2 H2 fun b H3 =>
        if b = true then te σ2 H3 fun y H4 => ∃ acc, H4 D = some (.lst acc) ∧ acc.length < sizeLine ∧ Nx (upd H4 D (.lst (acc ++ [y]))) else Nx H3) := by
  refine ⟨fun i m H => m = n - i ∧ i ≤ n ∧ Pv i H, ⟨n, by simp, Nat.zero_le _, h0⟩, ?_⟩
  rintro i m H ⟨rfl, hi, p⟩
  have q := hl i H hi p
  by_cases hlt : i < n
  · exact .inr ⟨s.go i H q hlt, Pv (i + 1), fun H' p' => ⟨n - (i + 1), by omega, rfl, hlt, p'⟩, fun x H' y => hs i x H H' hlt (s.yld i H x H' q hlt y) p⟩
  · have e : i = n := by omega
    subst e
    exact .inl ⟨s.stop i H q (Nat.le_refl _), hd H p⟩
/-- the state of a comprehension that is a filterMap of its items and keeps all but at Z -/
structure PvF (H : Hp) (D : Addr) (Z : List Addr) (L : List V) (H' : Hp) : Prop where
  at_ : H' D = some (.lst L)
  kx : Kx Z H H'
  nz : D ∉ Z
theorem PvF.yes {H H1 H2 : Hp} {D : Addr} {Z : List Addr} {L L' : List V} {y : V} (p : PvF H D Z L H1) (n : H D = none) (k : Kx Z H1 H2) (hl : L.length < sizeLine) (e : L ++ [y] = L') :
    ∃ acc, H2 D = some (.lst acc) ∧ acc.length < sizeLine ∧ PvF H D Z L' (upd H2 D (.lst (acc ++ [y]))) :=
  ⟨L, k _ _ p.at_ p.nz, hl, e ▸ upd_same, (p.kx.trans k).mu n, p.nz⟩
theorem PvF.no {H H1 H2 : Hp} {D : Addr} {Z : List Addr} {L L' : List V} (p : PvF H D Z L H1) (k : Kx Z H1 H2) (e : L = L') : PvF H D Z L' H2 := ⟨e ▸ k _ _ p.at_ p.nz, p.kx.trans k, p.nz⟩
theorem PvF.zero {H : Hp} {D : Addr} {Z : List Addr} (n : H D = none) (hz : ∀ z ∈ Z, H z ≠ none) : PvF H D Z [] (upd H D (.lst [])) := ⟨upd_same, Kx.refl.mu n, fun h => hz _ h n⟩
theorem take_fm {f : V → Option V} {xs : List V} {i : Nat} {x : V} (h : xs[i]? = some x) : (xs.take (i + 1)).filterMap f = (xs.take i).filterMap f ++ (match f x with | some y => [y] | none => []) := by
  obtain ⟨hl, e⟩ := List.getElem?_eq_some_iff.mp h
  rw [List.take_succ_eq_append_getElem hl, List.filterMap_append, e]
  cases hf : f x <;> simp [hf]
theorem take_fm_yes {f : V → Option V} {xs : List V} {i : Nat} {x y : V} (h : xs[i]? = some x) (hf : f x = some y) : (xs.take i).filterMap f ++ [y] = (xs.take (i + 1)).filterMap f := by rw [take_fm h, hf]
theorem take_fm_no {f : V → Option V} {xs : List V} {i : Nat} {x : V} (h : xs[i]? = some x) (hf : f x = none) : (xs.take i).filterMap f = (xs.take (i + 1)).filterMap f := by rw [take_fm h, hf, List.append_nil]
theorem fm_len {f : V → Option V} (xs : List V) (i : Nat) : ((xs.take i).filterMap f).length ≤ xs.length := by
  have h1 := List.length_filterMap_le f (xs.take i)
  have h2 : (xs.take i).length ≤ xs.length := by rw [List.length_take]; omega
  omega
end
/-! steps at what is walked -/
section
variable {σ : L2.St} {H : Hp} {R : It → Hp → Prop} {tl : TE} {ta : TA}
theorem rd_il {K : PySem.W.Frag} (q : tl σ H fun x H1 => ∃ a, x = .ref a ∧ (∃ xs, SqL K H1 a xs) ∧ R (Itl K a) H1) : iList K tl σ H R := q
theorem rd_it {K : PySem.W.Frag} (q : tl σ H fun x H1 => ∃ a, x = .ref a ∧ (∃ xs, SqT K H1 a xs) ∧ R (Itt K a) H1) : iTup K tl σ H R := q
theorem rd_is (q : tl σ H fun v H1 => ∃ x, v = .str x ∧ R (Its x) H1) : iStr tl σ H R := q
theorem rd_ir (q : ta σ H fun vs H1 => ∃ j : Int, vs = [.int j] ∧ -(2 ^ 62) ≤ j ∧ j < 2 ^ 62 ∧ R (Itr 0 j.toNat) H1) : iRng1 ta σ H R := q
theorem rd_ie {K : PySem.W.Frag} (q : ta σ H fun vs H1 => ∃ a xs, vs = [.ref a] ∧ SqL K H1 a xs ∧ R (Ite K a) H1) : iEnum K ta σ H R := q
theorem rd_for {wi : TI} {g : TG} {tb : TS} {D : Ends} (q : wi σ H fun J H1 => ∃ W : Nat → Nat → L2.St → Hp → Prop, (∃ m, W 0 m σ H1) ∧ ∀ i m σ H, W i m σ H →
  (J.stop i H ∧ D.nx σ H) ∨ (J.go i H ∧ ∃ N : L2.St → Hp → Prop, (∀ σ' H', N σ' H' → ∃ m', m' < m ∧ W (i + 1) m' σ' H') ∧ ∀ x H', J.yld i H x H' → g x σ H' fun σ2 H2 => tb { D with nx := N, ct := N, bk := D.nx } σ2 H2)) : tFor wi g tb D σ H := q
theorem rd_lc {wi : TI} {g : TG} {tt : TT} {te : TE} {vs : List Nat} {Q : VK} (q : wi σ H fun J H1 => ∀ D, H1 D = none → ∃ W : Nat → Nat → Hp → Prop, (∃ m, W 0 m (upd H1 D (.lst []))) ∧ ∀ i m H, W i m H →
  (J.stop i H ∧ Q (.ref D) H) ∨ (J.go i H ∧ ∃ Nx : Hp → Prop, (∀ H', Nx H' → ∃ m', m' < m ∧ W (i + 1) m' H') ∧ ∀ x H', J.yld i H x H' → g x (wipe σ vs) H' fun σ2 H2 => wipe σ2 vs = wipe σ vs ∧ tt σ2 H2 fun b H3 =>
    if b = true then te σ2 H3 fun y H4 => ∃ acc, H4 D = some (.lst acc) ∧ acc.length < sizeLine ∧ Nx (upd H4 D (.lst (acc ++ [y]))) else Nx H3)) : tLc wi g tt te vs σ H Q := q
theorem rd_il1 {K : PySem.W.Frag} {a : Addr} {xs : List V} (h : SqL K H a xs) (q : R (Itl K a) H) : ∃ a', V.ref a = .ref a' ∧ (∃ xs, SqL K H a' xs) ∧ R (Itl K a') H := ⟨a, rfl, ⟨xs, h⟩, q⟩
theorem rd_it1 {K : PySem.W.Frag} {a : Addr} {xs : List V} (h : SqT K H a xs) (q : R (Itt K a) H) : ∃ a', V.ref a = .ref a' ∧ (∃ xs, SqT K H a' xs) ∧ R (Itt K a') H := ⟨a, rfl, ⟨xs, h⟩, q⟩
theorem rd_is1 {z : Str} (q : R (Its z) H) : ∃ x, V.str z = .str x ∧ R (Its x) H := ⟨z, rfl, q⟩
theorem rd_ir1 {j : Int} (h1 : -(2 ^ 62) ≤ j) (h2 : j < 2 ^ 62) (q : R (Itr 0 j.toNat) H) : ∃ j' : Int, [V.int j] = [.int j'] ∧ -(2 ^ 62) ≤ j' ∧ j' < 2 ^ 62 ∧ R (Itr 0 j'.toNat) H := ⟨j, rfl, h1, h2, q⟩
theorem rd_ie1 {K : PySem.W.Frag} {a : Addr} {xs : List V} (h : SqL K H a xs) (q : R (Ite K a) H) : ∃ a' xs', [V.ref a] = [.ref a'] ∧ SqL K H a' xs' ∧ R (Ite K a') H := ⟨a, xs, rfl, h, q⟩
end
/-! dicts with keys that are texts -/
section
variable {σ : L2.St} {H : Hp} {td ty tv : TE} {D : Ends} {Q : VK}
theorem rd_bm {K : PySem.W.Frag} {T : String} {r : V → List V → Hp → VK → Prop} {to : TE} {t : TA} (q : to σ H fun x H1 => tyV K T x H1 ∧ t σ H1 fun xs H2 => r x xs H2 Q) : tBM K T r to t σ H Q := q
theorem rd_bm0 {K : PySem.W.Frag} {T : String} {r : V → List V → Hp → VK → Prop} {to : TE} (q : to σ H fun x H1 => tyV K T x H1 ∧ r x [] H1 Q) : tBM0 K T r to σ H Q := q
theorem rd_dget (q : td σ H fun x H1 => ty σ H1 fun y H2 => ∃ a v, x = .ref a ∧ DGet H2 a y (some v) ∧ Q v H2) : tDGet td ty σ H Q := q
theorem rd_dput (q : tv σ H fun v H1 => td σ H1 fun x H2 => ty σ H2 fun y H3 => ∃ a H4, x = .ref a ∧ DPut H3 a y v H4 ∧ D.nx σ H4) : sDPut td ty tv D σ H := q
theorem rd_getS {a : Addr} {kvs : List (Key × V)} {x : Str} {v : V} {Φ : V → Prop} (h : H a = some (.dK kvs)) (hv : valV kvs (Sum.inr x : Key) = some v) (q : Φ v) : ∃ a' v', V.ref a = .ref a' ∧ DGet H a' (.str x) (some v') ∧ Φ v' :=
  ⟨a, v, rfl, hv ▸ DGet.k (k := Sum.inr x) h, q⟩
theorem rd_putS {a : Addr} {kvs : List (Key × V)} {x : Str} {v : V} {Φ : Hp → Prop} (h : H a = some (.dK kvs)) (hl : kvs.length < sizeLine) (q : Φ (upd H a (.dK (putK kvs (Sum.inr x) v)))) : ∃ a' H4, V.ref a = .ref a' ∧ DPut H a' (.str x) v H4 ∧ Φ H4 :=
  ⟨a, _, rfl, DPut.k (k := Sum.inr x) h hl, q⟩
end
/-! a statement whose ways meet again: what holds behind it -/
def tCut (t : TS) : TS := fun D σ H => ∃ N : L2.St → Hp → Prop, t { D with nx := N } σ H ∧ ∀ σ H, N σ H → D.nx σ H
theorem ps_cut {X : Cx} {st : Stmt} {t : TS} (h : PS X st t) : PS X st (tCut t) := by
  refine ⟨fun pins s σ H D I hq => ?_⟩
  obtain ⟨N, h1, h2⟩ := hq
  refine thn (h.run pins s σ H _ I h1) fun fl s1 q => ?_
  cases fl with
  | next =>
    obtain ⟨σ', H', J, z⟩ := q
    exact ⟨σ', H', J, h2 _ _ z⟩
  | ret v => exact q
  | brk => exact q
  | cont => exact q
/-! data: its shape -/
def Sh (n : Nat) (d : PyData) : Prop := d.canLay0 = true ∧ d.depth ≤ n
theorem Sh.mono {n m : Nat} {d : PyData} (h : Sh n d) (k : n ≤ m) : Sh m d := ⟨h.1, Nat.le_trans h.2 k⟩
theorem canAll : ∀ {ds : List PyData}, (∀ d ∈ ds, d.canLay0 = true) → PyData.canLayAll0 ds = true
  | [], _ => by simp [PyData.canLayAll0]
  | d :: r, h => by
    simp only [PyData.canLayAll0, Bool.and_eq_true]
    exact ⟨h d (by simp), canAll fun e he => h e (by simp [he])⟩
theorem depAll {n : Nat} : ∀ {ds : List PyData}, (∀ d ∈ ds, d.depth ≤ n) → PyData.depthAll ds ≤ n
  | [], _ => by simp [PyData.depthAll]
  | d :: r, h => by
    simp only [PyData.depthAll]
    have h1 := h d (by simp)
    have h2 := depAll (n := n) (ds := r) fun e he => h e (by simp [he])
    omega
theorem Sh.lst {n : Nat} {ds : List PyData} (h : ∀ d ∈ ds, Sh n d) : Sh (n + 1) (.list ds) :=
  ⟨by simp only [PyData.canLay0]; exact canAll fun d hd => (h d hd).1, by simp only [PyData.depth]; have := depAll (n := n) fun d hd => (h d hd).2; omega⟩
theorem Sh.tup {n : Nat} {ds : List PyData} (h : ∀ d ∈ ds, Sh n d) : Sh (n + 1) (.tuple ds) :=
  ⟨by simp only [PyData.canLay0]; exact canAll fun d hd => (h d hd).1, by simp only [PyData.depth]; have := depAll (n := n) fun d hd => (h d hd).2; omega⟩
theorem Sh.int {n : Nat} (i : Int) : Sh n (.int i) := ⟨by simp [PyData.canLay0], by simp [PyData.depth]⟩
theorem Sh.bl {n : Nat} (i : Bool) : Sh n (.bool i) := ⟨by simp [PyData.canLay0], by simp [PyData.depth]⟩
theorem Sh.non {n : Nat} : Sh n .none := ⟨by simp [PyData.canLay0], by simp [PyData.depth]⟩
theorem Sh.str {n : Nat} {x : Str} (h : PyData.strOk x = true) : Sh n (.str x) := ⟨by simp [PyData.canLay0, h], by simp [PyData.depth]⟩
theorem Sh.ok {n : Nat} {d : PyData} (h : Sh n d) (k : n ≤ 64) : SeqAt.shaped d = true := by
  unfold SeqAt.shaped
  rw [h.1]
  simp only [Bool.true_and, decide_eq_true_eq]
  exact Nat.le_trans h.2 k
theorem eqv_nil (ds : List PyData) : PyData.eqv (.list ds) (.list []) = ds.isEmpty := by
  cases ds <;> simp [PyData.eqv, PyData.eqvAll]
theorem dp_map {K : PySem.W.Frag} {H : Hp} {α : Type} {f : α → V} {g : α → PyData} (h : ∀ a, Dp K H (f a) (g a)) : ∀ xs : List α, DpAll K H (xs.map f) (xs.map g)
  | [] => .nil
  | x :: r => .cons (h x) (dp_map h r)
/-! texts, chains, targets of several names -/
section
variable {σ : L2.St} {H : Hp} {Q : VK} {ta tb tc te to : TE} {x v : V}
theorem rd_chain {r r' : R2} (q : ta σ H fun x H1 => tb σ H1 fun y H2 => r x y H2 fun z H3 => ∃ k, z = .bl k ∧ (if k = true then tc σ H3 fun w' H4 => r' y w' H4 Q else Q (.bl false) H3)) : tChain r r' ta tb tc σ H Q := q
theorem rd_m0 {r : V → List V → Hp → VK → Prop} (q : to σ H fun x H1 => (∃ a, x = .str a) ∧ r x [] H1 Q) : tM0 r to σ H Q := q
theorem rd_m1 {r : V → List V → Hp → VK → Prop} (q : to σ H fun x H1 => (∃ a, x = .str a) ∧ te σ H1 fun y H2 => r x [y] H2 Q) : tM1 r to te σ H Q := q
theorem rd_isS {z : Str} {Φ : Prop} (q : Φ) : (∃ a, V.str z = .str a) ∧ Φ := ⟨⟨z, rfl⟩, q⟩
theorem rd_gcons {t : TG} {u : TGs} {r : List V} {QG : L2.St → Hp → Prop} (q : t v σ H fun σ' H' => u r σ' H' QG) : gCons t u (v :: r) σ H QG := ⟨v, r, rfl, q⟩
theorem rd_gnil {QG : L2.St → Hp → Prop} (q : QG σ H) : gNil [] σ H QG := ⟨rfl, q⟩
theorem rd_callK {sp : Sp} {gV : List V → List V → List V} {E : XK} {t tk : TA} (q : t σ H fun vs H1 => tk σ H1 fun zs H2 => sp (gV vs zs) H2 Q E) : tCallK sp gV E t tk σ H Q := q
theorem rd_callS {sp : Sp} {E : L2.St → XK} {t : TA} (q : t σ H fun vs H1 => sp vs H1 Q (E σ)) : tCallS sp E t σ H Q := q
theorem rd_retN {D : Ends} (q : D.rt .non H) : tRetN D σ H := q
theorem rd_notV {ta : TE} (q : ta σ H fun x H1 => ∃ c, x = .bl c ∧ Q (.bl (!c)) H1) : tNotV ta σ H Q := q
theorem rd_unpG {K : PySem.W.Frag} {n : Nat} {gs : TGs} {QG : L2.St → Hp → Prop} {vs : List V} (hl : Nat.ble vs.length sizeLine = true) (h : vs.length = n) (q : ∀ H2, Kx [] H H2 → gs vs σ H2 QG) :
    vs.length ≤ sizeLine ∧ ∀ p, H p = none → gTup K n gs (.ref p) σ (upd H p (.tup vs)) QG :=
  ⟨Nat.le_of_ble_eq_true hl, fun p hp => ⟨p, vs, rfl, SqT.of upd_same, h, q _ (Kx.refl.nw hp)⟩⟩
end
theorem pick_ints {ns : List Int} (P : Int → Bool) (h : ns.all P = true) {i : Nat} {x : V} (hx : (ns.map V.int)[i]? = some x) : ∃ j, x = .int j ∧ P j = true := by
  obtain ⟨j, hj, rfl⟩ := List.mem_map.mp (List.mem_of_getElem? hx)
  exact ⟨j, rfl, List.all_eq_true.mp h j hj⟩
theorem pick_strs {ys : List Str} (P : Str → Bool) (h : ys.all P = true) {i : Nat} {x : V} (hx : (ys.map V.str)[i]? = some x) : ∃ z, x = .str z ∧ P z = true := by
  obtain ⟨j, hj, rfl⟩ := List.mem_map.mp (List.mem_of_getElem? hx)
  exact ⟨j, rfl, List.all_eq_true.mp h j hj⟩
theorem lenOk {α : Type} {vs : List α} (hl : Nat.ble vs.length sizeLine = true) : vs.length ≤ sizeLine := Nat.le_of_ble_eq_true hl
theorem take_map {α β : Type} {l : List α} {f : α → β} {i : Nat} {c : α} (h : l[i]? = some c) : (l.take i).map f ++ [f c] = (l.take (i + 1)).map f := by
  obtain ⟨hl, e⟩ := List.getElem?_eq_some_iff.mp h
  rw [List.take_succ_eq_append_getElem hl, List.map_append, e]
  rfl
theorem take_flt {α : Type} {l : List α} {p : α → Bool} {i : Nat} {c : α} (h : l[i]? = some c) (hp : p c = true) : (l.take i).filter p ++ [c] = (l.take (i + 1)).filter p := by
  obtain ⟨hl, e⟩ := List.getElem?_eq_some_iff.mp h
  rw [List.take_succ_eq_append_getElem hl, List.filter_append, e]
  simp [hp]
theorem take_flt0 {α : Type} {l : List α} {p : α → Bool} {i : Nat} {c : α} (h : l[i]? = some c) (hp : p c = false) : (l.take i).filter p = (l.take (i + 1)).filter p := by
  obtain ⟨hl, e⟩ := List.getElem?_eq_some_iff.mp h
  rw [List.take_succ_eq_append_getElem hl, List.filter_append, e]
  simp [hp]
end My

set_option Elab.async false
set_option linter.all false
set_option maxRecDepth 100000
set_option maxHeartbeats 4000000
local macro_rules | `(tactic| walk_at "rd") => `(tactic| (repeat (with_reducible first
  | refine My.rd_c ?_ | refine My.rd_op ?_ | refine My.rd_un ?_ | refine My.rd_I0 ?_ | refine My.rd_U ?_ | refine My.rd_nil ?_ | refine My.rd_cons ?_ | refine My.rd_call ?_ | refine My.rd_cb ?_
  | refine My.rd_asg ?_ | refine My.rd_seq ?_ | refine My.rd_ret ?_ | refine My.rd_drop ?_ | refine My.rd_next ?_ | refine My.rd_ifs ?_ | refine My.rd_if ?_ | refine My.rd_tB ?_ | refine My.rd_test ?_
  | refine My.rd_yes ?_ | refine My.rd_not ?_ | refine My.rd_bl ?_ | refine My.rd_and ?_ | refine My.rd_or ?_ | refine My.rd_andV ?_ | refine My.rd_orV ?_ | refine My.rd_eq rfl ?_ | refine My.rd_ne rfl ?_ | refine My.rd_par ?_ | (refine My.rd_par2 ?_; try dsimp only [List.set_cons_zero, List.set_cons_succ])
  | refine My.rd_tup ?_ | refine My.rd_lst ?_ | refine My.rd_part ?_ | refine My.rd_int ?_ | refine My.rd_nopart ?_ | refine My.rd_sl ?_ | refine My.rd_ex1 ?_ | refine My.rd_exs ?_ | refine My.rd_or1 ?_ | refine My.rd_chain ?_ | refine My.rd_m0 ?_ | refine My.rd_m1 ?_ | refine My.rd_isS ?_ | refine My.rd_unpG rfl rfl ?_ | refine My.rd_gcons ?_ | refine My.rd_gnil ?_ | refine My.rd_callK ?_ | refine My.rd_callS ?_ | refine My.rd_callW ?_ | refine My.rd_retN ?_ | refine My.rd_notV ?_ | apply My.rd_il | apply My.rd_it | apply My.rd_is | apply My.rd_ir | apply My.rd_ie | apply My.rd_for | apply My.rd_lc | apply My.rd_bm | apply My.rd_bm0 | apply My.rd_dget | apply My.rd_dput | refine My.rd_v0 ?_ | refine My.rd_v1 ?_ | refine My.rd_v2 ?_ | refine My.rd_v3 ?_ | refine My.rd_v4 ?_ | refine My.rd_v5 ?_ | refine My.rd_v6 ?_ | refine My.rd_v7 ?_ | refine My.rd_v8 ?_ | refine My.rd_v9 ?_ | refine My.rd_v10 ?_ | refine My.rd_v11 ?_ | refine My.rd_v12 ?_ | refine My.rd_v13 ?_ | refine My.rd_v14 ?_ | refine My.rd_v15 ?_ | refine My.rd_v16 ?_ | refine My.rd_v17 ?_ | refine My.rd_v18 ?_ | refine My.rd_v19 ?_ | refine My.rd_n0 ?_ | refine My.rd_n1 ?_ | refine My.rd_n2 ?_ | refine My.rd_n3 ?_ | refine My.rd_n4 ?_ | refine My.rd_n5 ?_ | refine My.rd_n6 ?_ | refine My.rd_n7 ?_ | refine My.rd_n8 ?_ | refine My.rd_n9 ?_ | refine My.rd_n10 ?_ | refine My.rd_n11 ?_ | refine My.rd_n12 ?_ | refine My.rd_n13 ?_ | refine My.rd_n14 ?_ | refine My.rd_n15 ?_ | refine My.rd_n16 ?_ | refine My.rd_n17 ?_ | refine My.rd_n18 ?_ | refine My.rd_n19 ?_)))
local macro_rules | `(tactic| walk_at "go") => `(tactic| (dsimp only [L2.cxOf, L2.Cx.nox, L2.Cx.wish, L2.start, List.map_cons, List.map_nil, List.length_cons, List.length_nil, List.cons_append, List.nil_append, Nat.reduceAdd, Nat.reduceSub, List.replicate_succ, List.replicate_zero, List.map, List.set_cons_zero, List.set_cons_succ, L2.wipe]; walk_at "rd"))
local macro_rules | `(tactic| walk_at "lc") => `(tactic| (dsimp only [L2.wipe, List.map, List.set_cons_zero, List.set_cons_succ]; walk_at "rd"))
namespace My
open PySem L2
def top (i : Nat) : Stmt := PySem.Challenge.pw_anymaker_k00_names_and_words.main.body.getD i (.Pass ⟨0, 0, 0, 0⟩)
abbrev s_is_name : Stmt := top 6
abbrev s_is_text : Stmt := top 7
abbrev s_words_of : Stmt := top 8
abbrev s__law_begun : Stmt := top 10
abbrev s__law_mixed : Stmt := top 11
abbrev s__law_take : Stmt := top 12
abbrev s__law_pick : Stmt := top 13
abbrev s__law_is_name : Stmt := top 14
abbrev s__law_reserved : Stmt := top 15
abbrev s__law_any_name : Stmt := top 16
abbrev s__law_walked : Stmt := top 17
abbrev s__law_piece : Stmt := top 18
abbrev s__law_names_right : Stmt := top 19
abbrev s_law : Stmt := top 20
abbrev s_BadText___init__ : Stmt := inClass (top 2) 0
end My
namespace My
open PySem L2
theorem sc__law_begun : FnScope ["_law_script", "_law_wide", "_law_grain"] ["_law_script"] (defScope s__law_begun) := ⟨rfl, rfl, rfl, by decide +kernel, rfl, by decide +kernel, by decide +kernel⟩
theorem sc__law_mixed : FnScope ["_law_draw", "_law_turn", "_law_found", "_law_prime", "_law_blend", "_law_grain"] ["_law_draw"] (defScope s__law_mixed) := ⟨rfl, rfl, rfl, by decide +kernel, rfl, by decide +kernel, by decide +kernel⟩
theorem sc__law_take : FnScope ["_law_draw", "_law_many", "_law_found"] ["_law_draw", "_law_many"] (defScope s__law_take) := ⟨rfl, rfl, rfl, by decide +kernel, rfl, by decide +kernel, by decide +kernel⟩
theorem sc__law_pick : FnScope ["_law_draw", "_law_some"] ["_law_draw", "_law_some"] (defScope s__law_pick) := ⟨rfl, rfl, rfl, by decide +kernel, rfl, by decide +kernel, by decide +kernel⟩
/-- what the draws ask of the top -/
structure TxD (K : PySem.W.Frag) (mg : Str → Option Value) : Prop where
  b_abs : mg "abs" = none
  b_int : mg "int" = none
  b_len : mg "len" = none
  d__law_begun : DefAt K mg "_law_begun" s__law_begun
  d__law_mixed : DefAt K mg "_law_mixed" s__law_mixed
  d__law_take : DefAt K mg "_law_take" s__law_take
  d__law_pick : DefAt K mg "_law_pick" s__law_pick
def drawKv (w c : Addr) (r t : Int) : List (Key × V) := [(Sum.inr "wide", .ref w), (Sum.inr "cells", .ref c), (Sum.inr "rest", .int r), (Sum.inr "turn", .int t)]
theorem dk_wide (w c : Addr) (r t : Int) : valV (drawKv w c r t) (Sum.inr ("wide" : Str) : Key) = some (.ref w) := by first | rfl | decide +kernel
theorem dk_cells (w c : Addr) (r t : Int) : valV (drawKv w c r t) (Sum.inr ("cells" : Str) : Key) = some (.ref c) := by first | rfl | decide +kernel
theorem dk_rest (w c : Addr) (r t : Int) : valV (drawKv w c r t) (Sum.inr ("rest" : Str) : Key) = some (.int r) := by first | rfl | decide +kernel
theorem dk_turn (w c : Addr) (r t : Int) : valV (drawKv w c r t) (Sum.inr ("turn" : Str) : Key) = some (.int t) := by first | rfl | decide +kernel
theorem dk_putR (w c : Addr) (r t r' : Int) : putK (drawKv w c r t) (Sum.inr ("rest" : Str) : Key) (.int r') = drawKv w c r' t := by first | rfl | decide +kernel
theorem dk_putT (w c : Addr) (r t t' : Int) : putK (drawKv w c r t) (Sum.inr ("turn" : Str) : Key) (.int t') = drawKv w c r t' := by first | rfl | decide +kernel
/-- the source of draws at d, its long numbers at w, its cells at c; n turns at most so far -/
structure Draw (H : Hp) (d w c : Addr) (n : Nat) : Prop where
  ex : ∃ (ws cs : List Int) (r : Int) (t : Nat), H d = some (.dK (drawKv w c r (t : Int))) ∧ H w = some (.lst (ws.map V.int)) ∧ H c = some (.lst (cs.map V.int)) ∧ t ≤ n
theorem Draw.ne {H : Hp} {d w c : Addr} {n : Nat} (D : Draw H d w c n) : d ≠ w ∧ d ≠ c := by
  obtain ⟨ws, cs, r, t, h1, h2, h3, _⟩ := D.ex
  exact ⟨ne_of h1 h2 (by intro z; cases z), ne_of h1 h3 (by intro z; cases z)⟩
theorem Draw.keep {H H' : Hp} {d w c : Addr} {n m : Nat} (D : Draw H d w c n) (k : Kx [] H H') (h : n ≤ m) : Draw H' d w c m := by
  obtain ⟨ws, cs, r, t, h1, h2, h3, h4⟩ := D.ex
  exact ⟨ws, cs, r, t, k _ _ h1 (by simp), k _ _ h2 (by simp), k _ _ h3 (by simp), by omega⟩
/-- as many turns are let -/
def lim : Nat := 1000000000000
def sp_begun (K : PySem.W.Frag) : Sp := fun vs H Q _ => ∃ (a : Addr) (ns : List Int), vs = [.ref a] ∧ SqL K H a (ns.map V.int) ∧ ns.length ≤ 63 ∧
  ∀ (H' : Hp) (d w c : Addr), Kx [] H H' → H d = none → H w = none → H c = none → w ≠ c → Draw H' d w c 0 → Q (.ref d) H'
def sp_mixed : Sp := fun vs H Q _ => ∃ (d w c : Addr) (n : Nat), vs = [.ref d] ∧ Draw H d w c n ∧ n < lim ∧
  ∀ (H' : Hp) (r : Int), Kx [d] H H' → Draw H' d w c (n + 1) → Q (.int r) H'
def sp_take : Sp := fun vs H Q _ => ∃ (d w c : Addr) (n : Nat) (m : Int), vs = [.ref d, .int m] ∧ Draw H d w c n ∧ w ≠ c ∧ n < lim ∧ 0 < m ∧ m < 1073741824 ∧
  ∀ (H' : Hp) (r : Int), Kx [d, w] H H' → Draw H' d w c (n + 1) → 0 ≤ r → r < m → Q (.int r) H'
def sp_pick (K : PySem.W.Frag) : Sp := fun vs H Q _ => ∃ (d w c l : Addr) (n : Nat) (xs : List V), vs = [.ref d, .ref l] ∧ Draw H d w c n ∧ w ≠ c ∧ n < lim ∧ SqL K H l xs ∧ l ≠ d ∧ l ≠ w ∧ 0 < xs.length ∧ xs.length < 1073741824 ∧
  ∀ (H' : Hp) (i : Nat) (x : V), Kx [d, w] H H' → Draw H' d w c (n + 1) → xs[i]? = some x → Q x H'
theorem ints_at {ns : List Int} {i : Nat} {x : V} (h : (ns.map V.int)[i]? = some x) : ∃ z, x = V.int z := by
  rw [List.getElem?_map] at h
  cases e : ns[i]? with
  | none => rw [e] at h; cases h
  | some z => rw [e] at h; exact ⟨z, (Option.some.inj h).symm⟩
section
variable {P : Program} {w : World} {K : PySem.W.Frag} {mg : Str → Option Value} {base : Heap}
theorem ok__law_begun (T : TxD K mg) : FnAt P w K mg base CX0 1 "_law_begun" ["_law_script"] (sp_begun K) := by
  refine FnAt.mk T.d__law_begun (fun _ _ _ _ _ _ us hl => match us, hl with | [_], _ => rfl) fun f fd F => ?_
  refine F.ok sc__law_begun (fun vs H Q E h => by obtain ⟨a, ns, rfl, _⟩ := h; rfl) (fun cdv A outer s H vs Q E hr h => ?_)
  obtain ⟨a, ns, rfl, hS, hl, k⟩ := h
  refine ⟨_, (pss_cons (ps_setLc (i := 1) (own := [("_law_grain", 2)]) (by rfl) sc__law_begun.nd rfl rfl (sw_true rfl rfl rfl (by decide +kernel)) (pi_list (pv 0)) (blkOk_by (own := [("_law_grain", 2)]) (N := ["_law_script", "_law_wide", "_law_grain"]) (sc := defScope s__law_begun) (by decide +kernel)) (fun _ _ _ _ _ => (pg_name (i := 2) sc__law_begun.nd rfl (by first | exact Or.inl rfl | exact Or.inr rfl))) (fun _ _ _ _ _ => (pts_one (pt_cmpR op_ge (pe_callB call_abs rfl T.b_abs (by decide +kernel) (pa_cons (pv 2) pa_nil)) (pe_op op_pow pe_int pe_int) (nomark _)))) (fun _ _ _ _ _ => (pe_op op_sub (pe_callB call_abs rfl T.b_abs (by decide +kernel) (pa_cons (pv 2) pa_nil)) (pe_op op_pow pe_int pe_int))))
    (pss_one (ps_ret (pe_disp (pps_cons pe_str (pv 1) (pps_cons pe_str (pe_lc (own := [("_law_grain", 2)]) (by rfl) sc__law_begun.nd (pi_list (pv 0)) (blkOk_by (own := [("_law_grain", 2)]) (N := ["_law_script", "_law_wide", "_law_grain"]) (sc := defScope s__law_begun) (by decide +kernel)) (fun _ _ _ _ _ => (pg_name (i := 2) sc__law_begun.nd rfl (by first | exact Or.inl rfl | exact Or.inr rfl))) (fun _ _ _ _ _ => pts_nil) (fun _ _ _ _ _ => (pe_op op_mod (pe_callTy call_int1 rfl T.b_int (by decide +kernel) (pa_cons (pe_callB call_abs rfl T.b_abs (by decide +kernel) (pa_cons (pv 2) pa_nil)) pa_nil)) pe_int))) (pps_cons pe_str pe_int (pps_cons pe_str pe_int pps_nil)))) (by rfl) (by rfl) (fun z => by cases z) (by decide))))), ?_⟩
  walk_at "go"
  refine ⟨a, rfl, ⟨_, hS⟩, ?_⟩
  intro D hD
  refine lc_src src_list (fun i H1 => ∃ acc : List Int, acc.length ≤ i ∧ PvF H D [] (acc.map V.int) H1) ⟨[], Nat.le_refl _, PvF.zero hD (by simp)⟩ (fun i H1 _ ⟨_, _, p⟩ => p.kx.sql hS (by simp)) ?_ ?_
  · rintro i x H1 H2 hi ⟨rfl, hx⟩ ⟨acc, hacc, p⟩
    rw [List.length_map] at hi
    obtain ⟨z, rfl⟩ := ints_at hx
    walk_at "lc"
    refine ⟨rfl, ?_⟩
    walk_at "rd"
    refine ⟨_, _, rfl, rfl, ⟨by decide, by decide, by decide⟩, ?_⟩
    walk_at "rd"
    refine ite2 (fun _ => ?_) (fun _ => ?_)
    · walk_at "rd"
      refine ⟨_, _, rfl, rfl, ⟨by decide, by decide, by decide⟩, ?_⟩
      walk_at "rd"
      obtain ⟨acc', q1, q2, q3⟩ := p.yes hD Kx.refl (by rw [List.length_map]; exact small1000 (by omega)) rfl
      exact ⟨acc', q1, q2, acc ++ [_], by rw [List.length_append]; simp; omega, by rw [List.map_append]; exact q3⟩
    · exact ⟨acc, by omega, p⟩
  · rintro H1 ⟨acc, hacc, p⟩
    walk_at "rd"
    intro p0 hp0
    dsimp only [tPairs, wipe, List.map, List.set_cons_zero, List.set_cons_succ]
    walk_at "rd"
    have kH : Kx [] H (upd H1 p0 (.dK [])) := p.kx.nw hp0
    have hS1 := kH.sql hS (by simp)
    refine ⟨a, rfl, ⟨_, hS1⟩, ?_⟩
    intro c hc
    have hcp : c ≠ p0 := fun z => by rw [z, upd_same] at hc; cases hc
    refine lc_src src_list (fun i H2 => ∃ cs : List Int, cs.length ≤ i ∧ PvF (upd H1 p0 (.dK [])) c [] (cs.map V.int) H2) ⟨[], Nat.le_refl _, PvF.zero hc (by simp)⟩ (fun i H2 _ ⟨_, _, p⟩ => p.kx.sql hS1 (by simp)) ?_ ?_
    · rintro i x H2 H3 hi ⟨rfl, hx⟩ ⟨cs, hcs, q⟩
      rw [List.length_map] at hi
      obtain ⟨z, rfl⟩ := ints_at hx
      walk_at "lc"
      refine ⟨rfl, ?_⟩
      walk_at "rd"
      refine iteT ?_
      walk_at "rd"
      refine ⟨_, _, rfl, rfl, (by show (0 : Int) < 2147483629; decide), ?_⟩
      obtain ⟨acc', q1, q2, q3⟩ := q.yes hc Kx.refl (by rw [List.length_map]; exact small1000 (by omega)) rfl
      exact ⟨acc', q1, q2, cs ++ [_], by rw [List.length_append]; simp; omega, by rw [List.map_append]; exact q3⟩
    · rintro H2 ⟨cs, hcs, q⟩
      walk_at "rd"
      have hp2 : H2 p0 = some (.dK []) := q.kx _ _ upd_same (by simp)
      refine ⟨hp2, drawKv D c 0 0, rfl, (by show 4 ≤ 15; decide), ?_⟩
      have em : mergeK ([] : List (Key × V)) (drawKv D c 0 0) = drawKv D c 0 0 := by first | rfl | decide +kernel
      rw [em]
      have hDp : D ≠ p0 := ne_of_none p.at_ hp0
      have hp1 : H p0 = none := p.kx.back hp0 (by simp)
      have hc1 : H1 c = none := by rw [upd_ne hcp] at hc; exact hc
      have kk : Kx [] H (upd H2 p0 (.dK (drawKv D c 0 0))) := (kH.trans q.kx).mu hp1
      refine k _ p0 D c kk hp1 hD (p.kx.back hc1 (by simp)) (ne_of_none p.at_ hc1) ⟨acc, cs, 0, 0, upd_same, ?_, ?_, Nat.le_refl _⟩
      · rw [upd_ne hDp]
        exact q.kx _ _ (by rw [upd_ne hDp]; exact p.at_) (by simp)
      · rw [upd_ne hcp]
        exact q.at_
theorem ok__law_mixed (T : TxD K mg) : FnAt P w K mg base CX0 1 "_law_mixed" ["_law_draw"] sp_mixed := by
  refine FnAt.mk T.d__law_mixed (fun _ _ _ _ _ _ us hl => match us, hl with | [_], _ => rfl) fun f fd F => ?_
  refine F.ok sc__law_mixed (fun vs H Q E h => by obtain ⟨d, w, c, n, rfl, _⟩ := h; rfl) (fun cdv A outer s H vs Q E hr h => ?_)
  obtain ⟨d, w, c, n, rfl, D, hn, k⟩ := h
  obtain ⟨ws, cs, r, t, h1, h2, h3, ht⟩ := D.ex
  refine ⟨_, (pss_cons (ps_par (i := 1) (j := 2) (by rfl) sc__law_mixed.nd rfl rfl (by decide) rfl rfl (pa_cons (pe_op op_add (pe_dget (hu_of hr) (pv 0) pe_str (fun _ _ => rfl)) pe_int) (pa_cons pe_int pa_nil)) (by rfl))
    (pss_cons (ps_dput (hu_of hr) (pv 0) pe_str (pv 1) rfl)
    (pss_cons (ps_for PassesOwn.never rfl (pi_list (pe_lst (pa_cons pe_int (pa_cons pe_int (pa_cons pe_int (pa_cons pe_int pa_nil)))))) (pg_name (i := 3) sc__law_mixed.nd rfl (by first | exact Or.inl rfl | exact Or.inr rfl))
    (pss_cons (ps_set (i := 4) sc__law_mixed.nd rfl (by first | exact Or.inl rfl | exact Or.inr rfl) (pe_op op_add (pe_op op_mul pe_int (pv 1)) (pe_op op_fdiv (pv 3) pe_int)))
    (pss_cons (ps_for PassesOwn.never rfl (pi_list (pe_dget (hu_of hr) (pv 0) pe_str (fun _ _ => rfl))) (pg_name (i := 5) sc__law_mixed.nd rfl (by first | exact Or.inl rfl | exact Or.inr rfl))
    (pss_one (ps_set (i := 4) sc__law_mixed.nd rfl (by first | exact Or.inl rfl | exact Or.inr rfl) (pe_op op_mod (pe_callTy call_int1 rfl T.b_int (by decide +kernel) (pa_cons (pe_op op_add (pe_op op_add (pe_op op_mul (pv 4) pe_int) (pv 5)) (pv 1)) pa_nil)) (pv 3)))))
    (pss_one (ps_set (i := 2) sc__law_mixed.nd rfl (by first | exact Or.inl rfl | exact Or.inr rfl) (pe_op op_add (pe_op op_mul (pv 2) pe_int) (pe_op op_mod (pe_callTy call_int1 rfl T.b_int (by decide +kernel) (pa_cons (pe_op op_pow (pv 4) pe_int) pa_nil)) (pv 3))))))))
    (pss_one (ps_ret (pv 2)))))), ?_⟩
  walk_at "go"
  refine rd_getS h1 (dk_turn _ _ _ _) ?_
  walk_at "rd"
  refine rd_putS h1 (by show 4 < sizeLine; decide) ?_
  rw [dk_putT]
  walk_at "rd"
  refine ⟨by decide, fun p hp => ⟨p, rfl, ⟨_, SqL.of upd_same⟩, ?_⟩⟩
  have hpd : p ≠ d := fun z => by rw [z, upd_same] at hp; cases hp
  have hG : ∃ G, G = upd (upd H d (HO.dK (drawKv w c r (↑t + 1)))) p (HO.lst [V.int 2147483647, V.int 2147483629, V.int 2147483587, V.int 2147483579]) := ⟨_, rfl⟩
  obtain ⟨G, hG⟩ := hG
  rw [← hG]
  have gd : G d = some (.dK (drawKv w c r (↑t + 1))) := by rw [hG, upd_ne hpd.symm, upd_same]
  have gp : G p = some (.lst [V.int 2147483647, V.int 2147483629, V.int 2147483587, V.int 2147483579]) := by rw [hG, upd_same]
  have kG : Kx [d] H G := by
    rw [hG]
    exact (Kx.refl.in (by simp)).nw hp
  have nd := D.ne
  have gw : G w = some (.lst (ws.map V.int)) := kG _ _ h2 (by simp [nd.1.symm])
  have gc : G c = some (.lst (cs.map V.int)) := kG _ _ h3 (by simp [nd.2.symm])
  have hlim : (t : Int) + 1 ≤ 1000000000000 := by unfold lim at hn; omega
  refine for_src src_list (fun i σ H' => H' = G ∧ ∃ (f : Int) (a b e : Option V), σ = [some (.ref d), some (.int (↑t + 1)), some (.int f), a, b, e]) ⟨rfl, 0, _, _, _, rfl⟩ (fun i σ H' _ ⟨e, _⟩ => by rw [e]; exact SqL.of gp) ?_ ?_
  · rintro i x σ H1 H2 hi ⟨rfl, hx⟩ ⟨rfl, f, a, b, e, rfl⟩
    obtain ⟨q, rfl, hq1, hq2⟩ : ∃ q : Int, x = .int q ∧ 0 < q ∧ q < 2147483648 := by
      have hm := List.mem_of_getElem? hx
      simp only [List.mem_cons, List.not_mem_nil, or_false] at hm
      rcases hm with rfl | rfl | rfl | rfl
      all_goals exact ⟨_, rfl, by decide, by decide⟩
    walk_at "rd"
    refine ⟨_, _, rfl, rfl, .inl ⟨by decide, by decide⟩, ?_⟩
    walk_at "rd"
    refine ⟨_, _, rfl, rfl, ⟨by decide, by decide⟩, ?_⟩
    walk_at "rd"
    refine rd_getS gd (dk_cells _ _ _ _) ⟨c, rfl, ⟨_, SqL.of gc⟩, ?_⟩
    refine for_src src_list (fun j σ H' => H' = H2 ∧ ∃ (b : Int) (e : Option V), (b.natAbs < 2 ^ 64) ∧ σ = [some (.ref d), some (.int (↑t + 1)), some (.int f), some (.int q), some (.int b), e]) ⟨rfl, _, _, ?_, rfl⟩ (fun i σ H' _ ⟨e, _⟩ => by rw [e]; exact SqL.of gc) ?_ ?_
    · have e1 : 0 ≤ q / 37 := Int.ediv_nonneg (by omega) (by decide)
      have e2 : q / 37 ≤ q := Int.ediv_le_self _ (by omega)
      omega
    · rintro j y σ H3 H4 hj ⟨rfl, hy⟩ ⟨rfl, b, e, hb, rfl⟩
      obtain ⟨z, rfl⟩ := ints_at hy
      walk_at "rd"
      refine ⟨_, _, rfl, rfl, .inr ⟨by decide, by decide⟩, ?_⟩
      walk_at "rd"
      refine ⟨_, _, rfl, rfl, hq1, ?_⟩
      walk_at "rd"
      have e1 := Int.emod_nonneg (b * 69621 + z + (↑t + 1)) (by omega : q ≠ 0)
      have e2 := Int.emod_lt_of_pos (b * 69621 + z + (↑t + 1)) hq1
      exact ⟨rfl, _, _, by omega, rfl⟩
    · rintro σ H3 ⟨rfl, b, e, hb, rfl⟩
      walk_at "rd"
      refine ⟨_, _, rfl, rfl, .inr ⟨by decide, by decide⟩, ?_⟩
      walk_at "rd"
      refine ⟨_, _, rfl, rfl, ⟨by decide, by decide, hb⟩, ?_⟩
      walk_at "rd"
      refine ⟨_, _, rfl, rfl, hq1, ?_⟩
      walk_at "rd"
      exact ⟨rfl, _, _, _, _, rfl⟩
  · rintro σ H1 ⟨rfl, f, a, b, e, rfl⟩
    walk_at "rd"
    exact k _ _ kG ⟨ws, cs, r, t + 1, gd, gw, gc, by omega⟩
theorem ok__law_take (T : TxD K mg) : FnAt P w K mg base CX0 2 "_law_take" ["_law_draw", "_law_many"] sp_take := by
  refine FnAt.mk T.d__law_take (fun _ _ _ _ _ _ us hl => match us, hl with | [_, _], _ => rfl) fun f fd F => ?_
  refine F.ok sc__law_take (fun vs H Q E h => by obtain ⟨d, w, c, n, m, rfl, _⟩ := h; rfl) (fun cdv A outer s H vs Q E hr h => ?_)
  obtain ⟨d, w, c, n, m, rfl, D, hwc, hn, hm, hm2, k⟩ := h
  obtain ⟨ws, cs, r, t, h1, h2, h3, ht⟩ := D.ex
  have nd := D.ne
  refine ⟨_, (pss_cons (ps_cut (ps_if (pt_cmpR op_eq (pe_dget (hu_of hr) (pv 0) pe_str (fun _ _ => rfl)) pe_int (nomark _)) (pss_one (ps_dput (hu_of hr) (pv 0) pe_str (pe_ifExp (pt_cmpR (op_neD hr.units) (pe_dget (hu_of hr) (pv 0) pe_str (fun _ _ => rfl)) (pe_lst pa_nil) (nomark _)) (pe_bm PySem.F.plainAttrs_list PySem.F.slot_list_pop PySem.F.type_list_pop mt_popAt (pe_dget (hu_of hr) (pv 0) pe_str (fun _ _ => rfl)) (pa_cons pe_int pa_nil)) (pe_f (ok__law_mixed T) (hr.mono (by decide)) rfl (pa_cons (pv 0) pa_nil))) rfl)) pss_nil))
    (pss_cons (ps_set (i := 2) sc__law_take.nd rfl (by first | exact Or.inl rfl | exact Or.inr rfl) (pe_op op_mod (pe_callTy call_int1 rfl T.b_int (by decide +kernel) (pa_cons (pe_dget (hu_of hr) (pv 0) pe_str (fun _ _ => rfl)) pa_nil)) (pv 1)))
    (pss_cons (ps_dput (hu_of hr) (pv 0) pe_str (pe_op op_fdiv (pe_dget (hu_of hr) (pv 0) pe_str (fun _ _ => rfl)) (pv 1)) rfl)
    (pss_one (ps_ret (pv 2)))))), ?_⟩
  walk_at "go"
  refine ⟨fun σ H1 => σ = [some (.ref d), some (.int m), none] ∧ ∃ (ws cs : List Int) (r : Int) (t : Nat), Kx [d, w] H H1 ∧ H1 d = some (.dK (drawKv w c r (t : Int))) ∧ H1 w = some (.lst (ws.map V.int)) ∧ H1 c = some (.lst (cs.map V.int)) ∧ t ≤ n + 1, ?_, ?_⟩
  · walk_at "rd"
    refine rd_getS h1 (dk_rest _ _ _ _) ?_
    walk_at "rd"
    refine ite2 (fun _ => ?_) (fun _ => ?_)
    · walk_at "rd"
      refine rd_getS h1 (dk_wide _ _ _ _) ?_
      walk_at "rd"
      refine ⟨by decide, fun p hp => ?_⟩
      have hpw : p ≠ w := fun z => by rw [z, h2] at hp; cases hp
      have hpd : p ≠ d := fun z => by rw [z, h1] at hp; cases hp
      have hpc : p ≠ c := fun z => by rw [z, h3] at hp; cases hp
      have e2 : upd H p (.lst []) w = some (.lst (ws.map V.int)) := by rw [upd_ne hpw.symm]; exact h2
      have e1 : upd H p (.lst []) d = some (.dK (drawKv w c r t)) := by rw [upd_ne hpd.symm]; exact h1
      have e3 : upd H p (.lst []) c = some (.lst (cs.map V.int)) := by rw [upd_ne hpc.symm]; exact h3
      refine ⟨.list (ws.map PyData.int), .list [], .lst (SqL.of e2) (dp_map (fun i => .int i) ws), .lst (SqL.of upd_same) .nil, (Sh.lst (n := 0) fun d hd => ?_).ok (by decide), rfl, ?_⟩
      · obtain ⟨i, _, rfl⟩ := List.mem_map.mp hd
        exact Sh.int i
      walk_at "rd"
      rw [eqv_nil]
      have kp : Kx [d, w] H (upd H p (.lst [])) := Kx.refl.nw hp
      cases ws with
      | nil =>
        refine iteF ?_
        walk_at "rd"
        refine ⟨d, w, c, n, rfl, ⟨[], cs, r, t, e1, e2, e3, ht⟩, hn, fun H' r' kx D' => ?_⟩
        obtain ⟨ws', cs', r'', t', g1, g2, g3, g4⟩ := D'.ex
        walk_at "rd"
        refine rd_putS g1 (by show 4 < sizeLine; decide) ?_
        rw [dk_putR]
        exact ⟨rfl, ws', cs', r', t', (kp.trans (kx.mono (by simp))).in (by simp), upd_same, by rw [upd_ne nd.1.symm]; exact g2, by rw [upd_ne nd.2.symm]; exact g3, g4⟩
      | cons z ws =>
        refine iteT ?_
        walk_at "rd"
        refine rd_getS e1 (dk_wide _ _ _ _) ?_
        refine ⟨.inl ⟨rfl, _, SqL.of e2⟩, ?_⟩
        walk_at "rd"
        refine ⟨w, _, 0, 0, V.int z, rfl, rfl, e2, by decide, by decide, seqIndex_of (by decide) (by rw [List.length_map, List.length_cons]; omega), rfl, ?_⟩
        walk_at "rd"
        have g1 : upd (upd H p (.lst [])) w (.lst (((z :: ws).map V.int).eraseIdx 0)) d = some (.dK (drawKv w c r t)) := by rw [upd_ne nd.1]; exact e1
        refine rd_putS g1 (by show 4 < sizeLine; decide) ?_
        rw [dk_putR]
        refine ⟨rfl, ws, cs, z, t, (kp.in (by simp)).in (by simp), upd_same, ?_, ?_, by omega⟩
        · rw [upd_ne nd.1.symm, upd_same]
          rfl
        · rw [upd_ne nd.2.symm, upd_ne hwc.symm]
          exact e3
    · walk_at "rd"
      exact ⟨rfl, ws, cs, r, t, Kx.refl, h1, h2, h3, by omega⟩
  · rintro σ H1 ⟨rfl, ws, cs, r, t, kx, h1, h2, h3, ht⟩
    walk_at "rd"
    refine rd_getS h1 (dk_rest _ _ _ _) ?_
    walk_at "rd"
    refine ⟨_, _, rfl, rfl, hm, ?_⟩
    walk_at "rd"
    refine rd_getS h1 (dk_rest _ _ _ _) ?_
    walk_at "rd"
    refine ⟨_, _, rfl, rfl, ⟨hm, hm2⟩, ?_⟩
    walk_at "rd"
    refine rd_putS h1 (by show 4 < sizeLine; decide) ?_
    walk_at "rd"
    rw [dk_putR]
    refine k _ _ (kx.in (by simp)) ⟨ws, cs, r / m, t, upd_same, ?_, ?_, ht⟩ (Int.emod_nonneg _ (by omega)) (Int.emod_lt_of_pos _ hm)
    · rw [upd_ne nd.1.symm]; exact h2
    · rw [upd_ne nd.2.symm]; exact h3
theorem ok__law_pick (T : TxD K mg) : FnAt P w K mg base CX0 3 "_law_pick" ["_law_draw", "_law_some"] (sp_pick K) := by
  refine FnAt.mk T.d__law_pick (fun _ _ _ _ _ _ us hl => match us, hl with | [_, _], _ => rfl) fun f fd F => ?_
  refine F.ok sc__law_pick (fun vs H Q E h => by obtain ⟨d, w, c, l, n, xs, rfl, _⟩ := h; rfl) (fun cdv A outer s H vs Q E hr h => ?_)
  obtain ⟨d, w, c, l, n, xs, rfl, D, hwc, hn, hL, hld, hlw, h0, h1, k⟩ := h
  refine ⟨_, (pss_one (ps_ret (pe_ix ix_list (pv 1) (pe_f (ok__law_take T) (hr.mono (by decide)) rfl (pa_cons (pv 0) (pa_cons (pe_callB call_len_seq rfl T.b_len (by decide +kernel) (pa_cons (pv 1) pa_nil)) pa_nil))) (fun _ _ => rfl)))), ?_⟩
  walk_at "go"
  refine ⟨l, xs, rfl, .inl hL, ?_⟩
  refine ⟨d, w, c, n, (xs.length : Int), rfl, D, hwc, hn, by omega, by omega, fun H' r kx D' r0 r1 => ?_⟩
  obtain ⟨j, rfl⟩ := Int.eq_ofNat_of_zero_le r0
  have hj : j < xs.length := by omega
  have e := List.getElem?_eq_getElem hj
  exact ⟨l, xs, _, xs[j], rfl, rfl, kx.sql hL (by simp [hld, hlw]), atI_nat e, k H' j _ kx D' e⟩
end
end My

set_option Elab.async false
set_option linter.all false
set_option maxRecDepth 100000
set_option maxHeartbeats 4000000
/-! Errors of the program's own: made, raised, caught, kept, asked. -/
namespace My
open PySem L2

/-! ### super().__init__(text) at the head of an own error's __init__ -/
section
open PySem.W PySem.Calls PyProof.Rows
variable {prog : Program} {w : World} {A : Around} {E : Value → Shared → Prop} {h : Heap} {g : Array GenState} {d : Drawn} {t : Nat} {os : OsState}
variable {nm q : Str} {C N : Addr} {bs bm : List Value} {sn : List Str} {sub : List Value} {ab : Bool} {col : Option Bool} {dd : Option Addr} {k0 k1 k2 k3 k5 : Option Value}
/-- ValueError.__init__, bound to an error that is being made, called -/
theorem sup_bound {u e t0 : Addr} {rest : List Value} {Q : Value → Shared → Prop} (hC : h.get? C = some (excClassObj nm q C N bs bm true sn sub ab col dd k0 k1 k2 k3 k5 "ValueError.__new__"))
    (he : h.get? e = some (excObj C t0 none .none)) (hu : h.get? u = some (kxs_mw "ValueError.__init__" e)) (hz : rest.length ≤ sizeLine)
    (hq : ∀ h' t1, (∀ b o, b ≠ e → h.get? b = some o → h'.get? b = some o) → h'.get? e = some (excObj C t1 none .none) → Q .none ⟨h', g, d, t, os⟩) :
    wpAny (model prog w) A (call (.ref u) rest) Q E ⟨h, g, d, t, os⟩ := by
  refine wpAny_call (codeAny_of_tree ?_)
  show wpAny _ A.in1 (callAny (.ref u) ⟨rest, []⟩) _ _ _
  unfold callAny
  refine wpAny_bind (wpAny_load hu ?_)
  have e1 : (Value.type "method-wrapper" == Value.type "method" || Value.type "method-wrapper" == Value.type "builtin_function_or_method" || Value.type "method-wrapper" == Value.type "method-wrapper") = true := by decide
  simp only [kxs_mw, e1, if_true]
  refine KFB.if_so (by decide) (wpAny_bind (check_bound_init PySem.F.excBase_ValueError.toExcCallFacts hC he rfl (wpAny_bind (wpAny_pure (wpAny_pure ⟨plainId_quiet PySem.F.excBase_ValueError.init.plain _, codeAny_builtin PySem.F.excBase_ValueError.initEntry ?_⟩)))))
  exact exc_init_tree (cls := .ref C) (t0 := t0) (dv := none) (c2 := .none) (c3 := .none) (b4 := .bool false) he hz fun h' k q1 _ => hq h' _ k q1
end
/-- what the written part says of an error class C with an __init__ of its own (at f, its cell at cc) -/
structure SupC (P : Program) (K : PySem.W.Frag) (mg : Str → Option Value) (C : Addr) (F : NdefX.NF) (f cc : Addr) : Prop where
  ox : OexC K C
  fn : ∃ oc od osl doc pm ctv, K.lookup f = some ⟨oc, od, .func (F.fd doc pm ctv), osl⟩
  code : PySem.W.codeIn K (.ref F.c) F.qual = true
  cl : F.cl = ([("__class__", cc)] : List (Str × Addr))
  cell : ∃ c1 c2 c3, K.lookup cc = some ⟨c1, c2, .cell (some (.ref C)), c3⟩
  file : ∃ c1 c2 vs c3 fl tf, K.lookup F.c = some ⟨c1, c2, .fields vs, c3⟩ ∧ vs[2]? = some (.str fl tf) ∧ ((P.main.file : Str) == fl) = true
  self : PySem.W.mroIn K C (.ref C) = some true
  ve : PySem.W.subIn K (.ref C) (.type "ValueError") = some true
  up : PySem.W.ks_superIn K C C "__init__" = some (some (.builtin "ValueError.__init__"))
  tp : PySem.W.nsIn K cStatics "thirdparty.any" = some none
  sup : mg "super" = none
section
open NdefX
variable {P : Program} {w : World} {K : PySem.W.Frag} {mg : Str → Option Value} {base : Heap} {CX : CXT} {k : Nat} {f C cc : Addr} {F : NF} {N ps : List Str} {sp : Sp} {doc pm ctv : Value}
theorem excO_obj {C t1 : Addr} : (PySem.W.excObj C t1 none .none : Obj) = { cls := .ref C, dict := none, data := .fields #[.ref t1, .none, .none, .none, .bool false, .none] } := rfl
theorem fn_super (S : NScope N ps ["__class__"] F.scope) (T : SupC P K mg C F f cc) {ocf : Value} {odf : Option Addr} {oslf : Array (Option Value)} (lk : K.lookup f = some ⟨ocf, odf, .func (F.fd doc pm ctv), oslf⟩)
    (len : ∀ vs H Q E, sp vs H Q E → vs.length = ps.length) {p0 p1 p2 p3 p4 p5 : Pos} {m : Str} {j : Nat} {rest : List Stmt} {ar : Arg}
    (hb : F.body = .Expr (.Call (.Attribute (.Call (.Name "super" p0) [] [] p1) "__init__" p2) [.Constant (.str m) j p5] [] p3) p4 :: rest)
    (hp : (F.params.posonlyargs ++ F.params.args).head? = some ar) (hp0 : ps.head? = some ar.arg)
    (hks : F.scope.names.lookup ("super" : Str) = some .globalImplicit) (hkc : F.scope.names.lookup ("__class__" : Str) = some .free) (hka : F.scope.names.lookup ar.arg = some .local)
    (htop : (P.main.scope.names.lookup ("super" : Str)).isSome = false) (hcell : ∀ x ∈ F.scope.names, x.2 ≠ .cell)
    (hev : ∀ L : Addr, ∃ pl : Sem Bool, eval (.Call (.Attribute (.Call (.Name "super" p0) [] [] p1) "__init__" p2) [.Constant (.str m) j p5] [] p3) (envF F f L) = (do
      let ov ← attributeBase (.Call (.Name "super" p0) [] [] p1) "__init__" (envF F f L) (eval (.Call (.Name "super" p0) [] [] p1) (envF F f L))
      standAt p2.atName
      let (f', first) ← holding [ov] (getMethod ov "__init__" pl)
      callWith p3 f' first (backTo p3 (starEach [.Constant (.str m) j p5] (envF F f L))) []))
    (hbody : ∀ (A : Around) (outer : List Env) (s : Shared) (H : Hp) (vs : List V) (Q : VK) (E : XK), Room k (A.deeper (envF F f s.heap.objs.size)) → sp vs H Q E →
      (∃ a r, vs = .ref a :: r ∧ H a = some (exo a C none)) ∧
      ∃ t, PSs (ncx CX P w K mg base N F f A outer s H E) rest t ∧ t { nx := fun _ H' => Q .non H', rt := Q } (startF N vs [some (.ref C)]) H) :
    FnOk P w K mg base CX (k + 1) f (F.fd doc pm ctv) ps sp := by
  refine ⟨len, fun A outer s H args us vs Q E hr e0 hbd r hsp => ?_⟩
  have hl := len _ _ _ _ hsp
  have KX : K.In s.heap := e0.mod.kin.keeps fun b o e => (e0.bs b o e).1
  have lim : s.heap.NoLimit := e0.mod.nolimit.keeps fun b o e => (e0.bs b o e).1
  obtain ⟨⟨a, vr, rfl, ha⟩, tt, ht, hq⟩ := hbody A outer s H vs Q E (hr.deeper _) hsp
  cases r with
  | @cons _ u0 _ ur ra rr =>
  obtain rfl : u0 = Value.ref a := ra
  have r : Vals (V.ref a :: vr) (Value.ref a :: ur) := .cons rfl rr
  obtain ⟨c1, c2, c3, hcc⟩ := T.cell
  have CA : CellsAt F.cl ["__class__"] [some (.ref C)] s.heap H := by
    rw [T.cl]
    have hn : H cc = none := (e0.bs cc _ (e0.mod.kin cc _ hcc)).2
    refine ⟨rfl, fun y c e => ?_, fun x y c e1 e2 => ?_, fun i y e => ?_⟩
    · have z := PySem.mem_of_lookup e
      simp only [List.mem_singleton, Prod.mk.injEq] at z
      obtain ⟨rfl, rfl⟩ := z
      exact ⟨hn, _, _, KX _ _ hcc, rfl⟩
    · have z1 := PySem.mem_of_lookup e1
      have z2 := PySem.mem_of_lookup e2
      simp only [List.mem_singleton, Prod.mk.injEq] at z1 z2
      rw [z1.1, z2.1]
    · cases i with
      | succ i => simp at e
      | zero =>
        simp at e
        subst e
        exact ⟨cc, by first | rfl | simp [List.lookup], fun v hv => by
          simp at hv
          subst hv
          exact ⟨_, rfl, _, KX _ _ hcc, rfl⟩⟩
  have hkd : ∀ y ∈ ps.zip (Value.ref a :: ur), F.scope.names.lookup y.1 = some .local := fun ⟨n, v⟩ hy => S.par n (List.of_mem_zip hy).1
  refine PySem.ks_codeAny_call_defAt (fd := F.fd doc pm ctv) (body := F.body) (binds := ps.zip (Value.ref a :: ur)) hr.depth (KX _ _ lk) rfl lim (PySem.W.codeRec_of KX T.code) rfl hbd hcell hkd (fun h₀ hns kp => ?_) S.co S.gen S.kind
  have I : Inv (ncx CX P w K mg base N F f A outer s H E) [] (startF N (V.ref a :: vr) [some (.ref C)]) H { s with heap := h₀, toks := s.toks + (ps.zip (Value.ref a :: ur)).length } := inv_startN S hr.hd e0 hl r CA hns kp
  show _root_.PySem.wpAt _ _ (.func F.body (envF F f s.heap.objs.size)) (execs F.body (envF F f s.heap.objs.size)) _ _ _
  rw [hb]
  obtain ⟨cnm, cq, cN, cbs, cbm, csn, csub, cab, ccol, cdd, ck0, ck1, ck2, ck3, ck5, hC, hbm⟩ := T.ox.cls
  have hcd : PySem.W.clsIn K C = some { name := cnm, bases := cbs, mro := .ref C :: cbm, ns := cN, qualname := cq, hasDict := true, slotNames := csn, subclasses := csub, abstract := cab, collection := ccol, hasDel := false } := by
    unfold PySem.W.clsIn
    rw [hC] <;> rfl
  obtain ⟨g1, g2, vsC, g3, fl, tf, hfc, hvs, hfl⟩ := T.file
  obtain ⟨t0, hoa⟩ := exo_at I.hok ha
  have KI : K.In h₀ := I.kIn
  have hself : (fun y => List.lookup y (ps.zip (Value.ref a :: ur)).reverse) ar.arg = some (.ref a) := by
    have ndP : ps.Nodup := by
      have z := S.nd.sublist (List.take_sublist (ps.length + 1) N)
      have e : N.take (ps.length + 1) = ps ++ (["__class__"] : List Str) := S.pre
      rw [e] at z
      exact z.sublist (List.sublist_append_left _ _)
    cases ps with
    | nil => simp at hp0
    | cons p0 pr =>
      simp at hp0
      subst hp0
      show List.lookup _ (List.reverse ((_, Value.ref a) :: pr.zip ur)) = _
      rw [List.reverse_cons]
      have nm : ∀ v, (ar.arg, v) ∉ pr.zip ur := fun v hv => (List.nodup_cons.mp ndP).1 (List.of_mem_zip hv).1
      have nl : List.lookup ar.arg (pr.zip ur).reverse = none := by
        cases z : List.lookup ar.arg (pr.zip ur).reverse with
        | none => rfl
        | some v => exact absurd (List.mem_reverse.mp (PySem.mem_of_lookup z)) (nm v)
      rw [List.lookup_append, nl]
      simp [List.lookup]
  obtain ⟨pl, hev1⟩ := hev s.heap.objs.size
  refine PySem.ks_wpAt_execs_cons (PySem.ks_wpAt_Expr_any (PySem.ks_wpAt_MethodCall ?_ hev1) (show interactive (envF F f s.heap.objs.size) = false from I.quiet) rfl)
  refine PySem.ks_wpAt_super_base (env := envF F f s.heap.objs.size) hks hkc (by decide) rfl (KI _ _ lk) rfl hp rfl (KI _ _ hfc) rfl hvs hfl htop ?_
  obtain ⟨mb, hmb1, hmb2⟩ := I.mod.blt
  refine PySem.W.ks_loadName_global S.kind hks (Calls.loadGlobal_builtin (env := envF F f s.heap.objs.size) (I.mod.glob.keeps I.bk) T.sup (hmb1.keeps I.bk) ((hmb2 _ (by decide)).trans (by decide +kernel)) ⟨rfl, ?_⟩)
  refine wpAny_loadName_free S.kind hkc (by show List.lookup _ F.cl = _; rw [T.cl]; rfl) ⟨_, KI _ _ hcc, rfl⟩ ?_
  refine wpAny_loadName_local S.kind hka hns hself ?_
  refine PySem.ks_wpAny_isType_cls (KI _ _ hC) rfl ⟨rfl, ?_⟩
  refine PySem.ks_wpAny_call_super (KI _ _ hC) rfl hoa rfl (fun c e => by cases e) (PySem.W.looks_mroIn KI T.self) (fun h1 e1 k1 => ?_)
  have K1 : K.In h1 := fun b o e => k1 b o (KI b o e)
  have up := T.up
  unfold PySem.W.ks_superIn at up
  rw [hcd, Option.bind_some] at up
  have hoa1 := k1 _ _ hoa
  have IA : PySem.W.InstAt h1 a { cls := .ref C, dict := none, data := .fields #[.ref t0, .none, .none, .none, .bool false, .none] } C none := ⟨hoa1, rfl, rfl, True.intro⟩
  have naC : a ≠ C := fun z => by
    have q := K1 _ _ hC
    rw [← z, hoa1] at q
    cases q
  refine PySem.W.kxs_getMethod PySem.W.kxs_ValueError e1 (PySem.W.looks_opaque K1 T.tp) (l₀ := .ref C :: cbm) (fun A Q E s k q => wpAny_bind ((PySem.W.looks_clsIn K1 hcd) A _ E s k (wpAny_pure q))) rfl K1 up (IA.type.andThen (PySem.W.looks_subIn K1 T.ve)) naC (by decide) ?_
  have hu : (h1.push (PySem.W.kxs_mw "ValueError.__init__" a)).get? h1.objs.size = some (PySem.W.kxs_mw "ValueError.__init__" a) := Heap.get?_push_at rfl rfl
  have k2 : ∀ b o, h₀.get? b = some o → (h1.push (PySem.W.kxs_mw "ValueError.__init__" a)).get? b = some o := fun b o e => Heap.get?_push_of_some _ (k1 b o e)
  have he : starEach [.Constant (.str m) j p5] (envF F f s.heap.objs.size) = (false, eval (.Constant (.str m) j p5) (envF F f s.heap.objs.size)) :: starEach [] (envF F f s.heap.objs.size) := rfl
  rw [he]
  refine PySem.W.kxs_callWith (i := "ValueError.__init__") (x := a) rfl (PySem.Calls.evalArgs_plain ?_)
  refine Calls.spliced_cons (Calls.Constant_str (pos := p5) (k := j) ?_)
  refine Calls.spliced_nil ⟨hu, ?_⟩
  refine sup_bound (k2 _ _ (KI _ _ hC)) (k2 _ _ hoa) hu (by show 1 ≤ sizeLine; decide) (fun h2 t1 k3 hx => ?_)
  have I1 := (I.kept (h' := h1.push (PySem.W.kxs_mw "ValueError.__init__" a)) (t' := s.toks + (ps.zip (Value.ref a :: ur)).length + 1 + 1) k2)
  have J := I1.write (t' := s.toks + (ps.zip (Value.ref a :: ur)).length + 1 + 1) (x := a) (e := a) (o := exo a C none) (h' := h2) (by rw [ha]; exact True.intro) (.inl rfl) k3 ⟨_, hx⟩ (exo_ok hx)
  have eu : upd H a (exo a C none) = H := by
    funext b
    by_cases hb : b = a
    · rw [hb, upd_same, ha]
    · rw [upd_ne hb]
  rw [eu] at J
  refine wpAt_of_wpAny (wpAny_mono (ht.run [] _ _ H _ J hq) (fun fl s' hs => ?_) fun e s' hs => hs)
  have fin : ∀ {σ' : L2.St} {H' : Hp} {v : V} {u : Value}, L2.Inv (ncx CX P w K mg base N F f A outer s H E) [] σ' H' s' → L2.RelV v u → Q v H' → CE outer P w H s Q u s' :=
    fun {σ' H' v u} J rv q => ⟨v, H', J.os, J.bare, J.base, J.hok, rv, q⟩
  cases fl with
  | ret u =>
    obtain ⟨v, σ', H', J, rv, q⟩ := hs
    exact fin J rv q
  | next =>
    obtain ⟨σ', H', J, q⟩ := hs
    exact fin (v := V.non) (u := Value.none) J rfl q
  | brk =>
    obtain ⟨_, _, _, q⟩ := hs
    exact False.elim q
  | cont =>
    obtain ⟨_, _, _, q⟩ := hs
    exact False.elim q
end

/-! ### an error kept as a value -/
/-- at a: an error of the class cls, its own dict at d -/
def ExV (cls : Value) (d : Option Addr) (a : Addr) : HO := .ext fun h => ∃ (o : Obj) (vs : Array Value), h.get? a = some o ∧ Zc cls d o ∧ o.data = .fields vs
theorem exV_ok {P : Program} {w : World} {H : Hp} {h : Heap} {a : Addr} {cls : Value} {d : Option Addr} {o : Obj} {vs : Array Value} (e : h.get? a = some o) (z : Zc cls d o) (v : o.data = .fields vs) : ObjOk P w H h a (ExV cls d a) :=
  ⟨⟨o, vs, e, z, v⟩, ⟨o, e⟩, fun _ _ ⟨o', v', q, r⟩ k => ⟨o', v', k _ q, r⟩⟩
theorem exV_at {P : Program} {w : World} {H : Hp} {h : Heap} {a : Addr} {cls : Value} {d : Option Addr} (ok : HOk P w H h) (e : H a = some (ExV cls d a)) : ∃ (o : Obj) (vs : Array Value), h.get? a = some o ∧ Zc cls d o ∧ o.data = .fields vs := by
  have x : ObjOk P w H h a (.ext fun h => ∃ (o : Obj) (vs : Array Value), h.get? a = some o ∧ Zc cls d o ∧ o.data = .fields vs) := ok a _ e
  exact x.1
section
variable {X : Cx} {pins : List (Addr × Obj)} {σ : L2.St} {H : Hp} {s : Shared}
/-- an object that came behind the entry is tracked from now on -/
theorem inv_track {a : Addr} {o : HO} (I : L2.Inv X pins σ H s) (hn : H a = none) (h0 : X.s_0.heap.get? a = none) (hL : a ≠ X.env.locals) (hc : ∀ x c, X.env.cells.lookup x = some c → c ≠ a) (hp : ∀ p ∈ X.pn ++ pins, p.1 ≠ a)
    (new : ObjOk X.prog X.w (upd H a o) s.heap a o) : L2.Inv X pins σ (upd H a o) s := by
  have n0 : ∀ {b : Addr} {u : Obj}, X.s_0.heap.get? b = some u → b ≠ a := fun {b u} e z => by rw [z, h0] at e; cases e
  refine ⟨I.ok, I.os, I.bare, ⟨I.base.keep, I.base.slot, fun b u e n hx => ?_, I.base.there, fun b xs e => ?_, fun b u xs e => ?_, fun b ps e => ?_⟩, I.loc, I.cell, ?_, fun x c e => ?_, fun p hq => ?_, fun b u e => ?_, I.len⟩
  · rw [upd_ne (n0 e)]; exact I.base.free b u e n hx
  · have q := I.base.tups b xs e
    rw [upd_ne (ne_of_none q hn)]; exact q
  · have q := I.base.frzs b u xs e
    rw [upd_ne (ne_of_none q hn)]; exact q
  · obtain ⟨m, q⟩ := I.base.tbls b ps e
    exact ⟨m, by rw [upd_ne (ne_of_none q hn)]; exact q⟩
  · rw [upd_ne (Ne.symm hL)]; exact I.free
  · rw [upd_ne (hc x c e)]; exact I.freeC x c e
  · obtain ⟨q1, q2, q3, q4, q5⟩ := I.pin p hq
    exact ⟨q1, by rw [upd_ne (hp p hq)]; exact q2, q3, q4, q5⟩
  · by_cases hb : b = a
    · subst hb
      rw [upd_same] at e
      cases e
      exact new
    · rw [upd_ne hb] at e
      exact (I.hok b u e).stay (fun c v _ q => q) (fun c q => by rw [upd_ne (ne_of_none q hn)]; exact q) fun c xs q => by rw [upd_ne (ne_of_none q hn)]; exact q
/-- the context of an except suite; the error is tracked, not pinned -/
abbrev sk (X : Cx) (a : Addr) : Cx := { X with A := X.A.mark (some (.ref a)), calm := false, xe := fun _ _ => False }
theorem sk_ok {X : Cx} (ok : X.Ok) (a : Addr) : (sk X a).Ok :=
  ⟨ok.mod, ok.kind, ok.glob, ok.blt, ok.above, ok.inj, ok.has, ok.cab, (fun z => absurd (show false = true from z) Bool.false_ne_true), ok.frames, ok.stk, ok.exf, ok.bs, ok.bsz, ok.noex, ok.exfs, ok.funs, ok.frf⟩
theorem sk_in (I : L2.Inv X pins σ H s) (a : Addr) : L2.Inv (sk X a) pins σ H s := ⟨sk_ok I.ok a, I.os, I.bare, I.base, I.loc, I.cell, I.free, I.freeC, I.pin, I.hok, I.len⟩
theorem sk_out {a : Addr} (I : L2.Inv (sk X a) pins σ H s) (ok : X.Ok) : L2.Inv X pins σ H s := ⟨ok, I.os, I.bare, I.base, I.loc, I.cell, I.free, I.freeC, I.pin, I.hok, I.len⟩
end
/-- what the clause «except x as n» wishes: the error is tracked in the suite and behind it -/
def wTry (K : PySem.W.Frag) (c : Value) (i : Nat) (ts : TS) (Wout : WX) (D : Ends) : WX := fun cls d σ H =>
  ∃ b, PySem.W.exmOne K cls c = some b ∧
    (b = true → ∀ a, H a = none → ts { nx := fun σ' H' => D.nx (σ'.set i none) H', rt := D.rt, bk := fun σ' H' => D.bk (σ'.set i none) H', ct := fun σ' H' => D.ct (σ'.set i none) H' } (σ.set i (some (.ref a))) (upd H a (ExV cls d a))) ∧
    (b = false → Wout cls d σ H)
section
open HandSPX
variable {X : Cx} {x n : Str} {c : Value} {i : Nat} {body suite : List Stmt} {b₀ : Stmt} {np pos pos' : Pos} {tb : WX → TS} {ts : TS} {Wout : WX}
theorem ps_tryK (hs : X.stack = X.env :: X.outer) (hf : X.env.frame = some X.env.locals) (hex : X.ex = []) (hN : X.N.Nodup) (hi : X.N[i]? = some n) (hln : X.env.kindOf n = some .local) (hc : Names X x c) (tk : Takes X Wout)
    (hb : ∀ (W : WX) (pn : List (Addr × Obj)) (xe : Value → Shared → Prop), Takes (X.tr pn xe) W → PassesOwn (model X.prog X.w) X.A X.env xe → PSs (X.tr pn xe) body (tb W))
    (hsu : ∀ a : Addr, PSs (sk X a) (b₀ :: suite) ts) :
    PS X (.Try body [.ExceptHandler (some (.Name x np)) (some n) (b₀ :: suite) pos'] [] [] pos) (fun D σ H => tb (wTry X.K c i ts Wout D) D σ H) := by
  refine ⟨fun pins s σ H D I h => ?_⟩
  have xok := I.ok
  have fr : X.A.frames = some (X.env :: X.outer) := xok.frames.trans (congrArg some hs)
  refine wpAny_Try_except (wpAny_mono ((hb (wTry X.K c i ts Wout D) (X.pn ++ pins) (fun e s₁ => wpAny (model X.prog X.w) X.A (noteFrame e X.env) (fun _ s₂ =>
    wpAny (model X.prog X.w) X.A (setFlight e none) (fun _ s₃ => wpAny (model X.prog X.w) X.A (handleBy e X.env [.ExceptHandler (some (.Name x np)) (some n) (b₀ :: suite) pos']) (SP X pins D) X.xe s₃) X.xe s₂) X.xe s₁)
    (fun u s1 hx => ?_) PassesOwn.looking).run [] s σ H D (I.toTry _) h) (fun fl s1 hsp => ?_) fun e s1 he => he)
  · obtain ⟨a, B, sI, pinz, τ, G, cls, d, rfl, J0, inB, up, sky, nG, eos, eag, b, hb1, hyes, hno⟩ := hx
    have J := J0.ofTry xok
    rw [hs] at sky
    refine Sky.land Zc.steady fr hf sky fun g3 fl3 up3 => ?_
    obtain ⟨o3, v3, ho3, hz3, hd3⟩ := fl3.there
    have offFr : ∀ {g : Heap} {o : Obj} {vs : Array Value}, g.FunFrames B (X.env :: X.outer) → g.get? a = some o → o.data = .fields vs → a ∉ frs (X.env :: X.outer) := by
      intro g o vs ff e dd hm
      obtain ⟨_, o', q, nf⟩ := ff.mem hm
      rw [e] at q
      cases q
      exact nf _ dd
    have aFr := offFr fl3.2.2.1 ho3 hd3
    have aL : a ≠ X.env.locals := fun z => aFr (List.mem_filterMap.mpr ⟨X.env, List.mem_cons_self, by rw [hf, z]⟩)
    have aB : B.get? a = none := fl3.2.1
    have notI : ∀ {o : Obj}, sI.heap.get? a ≠ some o := fun {o} q => by
      have z := inB a o q (by rw [hs]; exact aFr)
      rw [aB] at z
      cases z
    have a0 : X.s_0.heap.get? a = none := by
      cases e : X.s_0.heap.get? a with
      | none => rfl
      | some o =>
        obtain ⟨o', q⟩ := J.base.there a o e (by rw [hex]; exact fun z => nomatch z)
        exact absurd q notI
    have aC : ∀ y cc, X.env.cells.lookup y = some cc → cc ≠ a := fun y cc e z => by
      obtain ⟨v, o, q, _⟩ := J.cell y cc e
      rw [z] at q
      exact notI q
    have aP : ∀ p ∈ X.pn ++ pins, p.1 ≠ a := fun p hp z => by
      obtain ⟨q, _⟩ := J.pin p hp
      rw [z] at q
      exact notI q
    have land : ∀ g4, FlyingZ B (X.env :: X.outer) a (Zc cls d) g4 → s1.heap.UpToSlots g4 → L2.Inv X pins τ (upd G a (ExV cls d a)) { s1 with heap := g4 } := fun g4 fl4 up4 => by
      obtain ⟨o4, v4, ho4, hz4, hd4⟩ := fl4.there
      exact inv_track (J.landed inB fl4.1 (up.trans up4) eos eag) nG a0 aL aC aP (exV_ok ho4 hz4 hd4)
    have J3 := land g3 fl3 up3
    refine wpAny_handleBy_cons (codeAny_handlers_test ?_) (by intro q; cases q)
    have LM := PySem.W.exm_one (M := model X.prog X.w) J3.kIn (show PySem.W.Looks (model X.prog X.w) g3 (typeOf (.ref a)) cls from fun A Q E s k q => wpAny_typeOf_ref (k _ _ ho3) (by rw [hz3.1]; exact q)) hb1
    have S3 := sk_in J3 a
    have asks : ∀ {Q : Value → Shared → Prop} {E : Value → Shared → Prop}, Q c { s1 with heap := g3 } → wpAny (model X.prog X.w) (X.A.mark (some (.ref a))) (eval (.Name x np) X.env) Q E { s1 with heap := g3 } := by
      intro Q E q
      obtain ⟨hg, hdbg, hm | ⟨hm, hv, hnn⟩⟩ := hc
      · exact ld_glob (X := sk X a) S3 hg hm q hdbg
      · exact ld_blt (X := sk X a) S3 hg hm hv q hnn hdbg
    refine asks (LM.here ?_)
    cases b with
    | true =>
      refine codeAny_handlers_suite_as (lands_againZ fl3 fun g4 fl4 up4 => ?_)
      have J4 := sk_in (land g4 fl4 (up3.trans up4)) a
      refine store_ok (X := sk X a) (v := .ref a) J4 hN hi (.inl hln) rfl (fun s5 J5 => ?_) (.inr hln)
      refine wpAny_mono ((hsu a).run pins s5 _ _ _ J5 (hyes rfl a nG)) (fun f6 s6 h6 => ?_) fun _ _ z => False.elim z
      cases f6 with
      | next =>
        obtain ⟨τ6, H6, J6, q6⟩ := h6
        exact gone_ok (sk_out J6 xok) hN hi hln fun s7 J7 => ⟨_, _, J7, q6⟩
      | brk =>
        obtain ⟨τ6, H6, J6, q6⟩ := h6
        exact gone_ok (sk_out J6 xok) hN hi hln fun s7 J7 => ⟨_, _, J7, q6⟩
      | cont =>
        obtain ⟨τ6, H6, J6, q6⟩ := h6
        exact gone_ok (sk_out J6 xok) hN hi hln fun s7 J7 => ⟨_, _, J7, q6⟩
      | ret u =>
        obtain ⟨v6, τ6, H6, J6, r6, q6⟩ := h6
        exact gone_ok (sk_out J6 xok) hN hi hln fun s7 J7 => ⟨_, _, _, J7, r6, q6⟩
    | false =>
      refine wpAny_handleBy_nil ?_
      obtain ⟨_, _, _, oe, vs, T, oT, tv, he, hz, hd, h1, hr⟩ := id fl3
      unfold PySem.passOn
      refine wpAny_bind (wpAny_field he hd h1 ?_)
      rw [if_neg (show ¬ ((Value.ref T == Value.none) = true) from by simp)]
      have fin : wpAny (model X.prog X.w) X.A (setFlight (.ref a) X.env.frame) (fun _ s4 => wpAny (model X.prog X.w) X.A (throw (.ref a) : Sem Flow) (SP X pins D) X.xe s4) X.xe { s1 with heap := g3 } := by
        rw [hf]
        exact setFlight_upZ fl3 fun g4 hh4 up4 => wpAny_throw (tk _ _ ⟨a, B, sI, pins, τ, G, cls, d, rfl, J, inB, (up.trans up3).trans up4, .inr (.inr (by rw [hs]; exact hh4)), nG, eos, eag, hno rfl⟩)
      first
        | exact wpAny_bind (wpAny_pure (wpAny_bind fin))
        | exact wpAny_bind fin
  · cases fl with
    | next =>
      obtain ⟨τ, G, J, q⟩ := hsp
      exact wpAny_execs_nil ⟨τ, G, J.ofTry xok, q⟩
    | brk =>
      obtain ⟨τ, G, J, q⟩ := hsp
      exact ⟨τ, G, J.ofTry xok, q⟩
    | cont =>
      obtain ⟨τ, G, J, q⟩ := hsp
      exact ⟨τ, G, J.ofTry xok, q⟩
    | ret u =>
      obtain ⟨v, τ, G, J, r, q⟩ := hsp
      exact ⟨v, τ, G, J.ofTry xok, r, q⟩
end

/-! ### asked: its fields, its class -/
/-- the own dict's object of an error -/
def DcV (H : Hp) (d : Option Addr) : Prop := d = none ∨ ∃ dd fs, d = some dd ∧ H dd = some (.xd fs)
/-- what an own error class must say -/
structure ErrC (K : PySem.W.Frag) (C : Addr) : Prop where
  ga : PySem.W.findIn K (.ref C) "__getattribute__" = some (some (.builtin "BaseException.__getattribute__"))
  gg : PySem.W.findIn K (.ref C) "__getattr__" = some none
  ex : PySem.W.subIn K (.ref C) (.type "BaseException") = some true
  hd : PySem.W.hasDictIn K C = true
  ca : PySem.W.findIn K (.ref C) "__class__" = some (some (.builtin "object.__class__"))
  hn : PySem.W.specialIn K (.builtin "object.__class__") "__get__" = some (some (.builtin "getset_descriptor.__get__"))
  tk : PySem.W.takesIn K (.builtin "object.__class__") = some true
  ob : PySem.W.mroIn K C (.type "object") = some true
  ty : PySem.W.typeIn K (.ref C) = some (.type "type")
theorem ErrC.cls {K : PySem.W.Frag} {C : Addr} (T : ErrC K C) : (PySem.W.clsIn K C).isSome = true := by
  obtain ⟨cd, hc, _⟩ := PySem.W.any_some T.hd
  rw [hc]
  rfl
/-- isinstance(e, D) of two classes of the program -/
theorem ErrC.one {K : PySem.W.Frag} {C D : Addr} {b : Bool} (T : ErrC K D) (h : PySem.W.subIn K (.ref C) (.ref D) = some b) (hb : C = D → b = true) : PySem.W.kitOne K (.ref C) (.ref D) = some b := by
  unfold PySem.W.kitOne
  by_cases e : C = D
  · subst e
    rw [if_pos (by simp), hb rfl]
  · rw [if_neg (by simp [e])]
    have q : ((PySem.W.clsIn K D).isSome && PySem.W.typeIn K (.ref D) == some (.type "type")) = true := by rw [T.cls, T.ty] <;> rfl
    show (if ((PySem.W.clsIn K D).isSome && PySem.W.typeIn K (.ref D) == some (.type "type")) = true then PySem.W.subIn K (.ref C) (.ref D) else none) = some b
    rw [if_pos q]
    exact h
section
variable {X : Cx} {pins : List (Addr × Obj)} {σ : L2.St} {H : Hp} {s : Shared}
theorem exv_inst {a C : Addr} {d : Option Addr} (I : L2.Inv X pins σ H s) (ha : H a = some (ExV (.ref C) d a)) (hd : DcV H d) : ∃ ox od, PySem.W.InstAt s.heap a ox C od := by
  obtain ⟨⟨oc, odd, oda, osl⟩, vs, e, ⟨z1, z2⟩, z3⟩ := exV_at I.hok ha
  dsimp only at z1 z2 z3
  subst z1 z2 z3
  rcases hd with rfl | ⟨dd, fs, rfl, hf⟩
  · exact ⟨_, none, e, rfl, rfl, True.intro⟩
  · obtain ⟨mA, ⟨oD, es, ep, hD, _⟩, _⟩ := (show ObjOk X.prog X.w H s.heap dd (.xd fs) from I.hok dd _ hf)
    exact ⟨_, some oD, e, rfl, rfl, hD⟩
/-- isinstance(e, c) of an error that is kept -/
def rIsV (K : PySem.W.Frag) : List V → Hp → VK → Prop := fun xs H Q => ∃ (a C : Addr) (d : Option Addr) (c : V) (u : Value) (b : Bool), xs = [.ref a, c] ∧ H a = some (ExV (.ref C) d a) ∧ DcV H d ∧ ErrC K C ∧ ClsV c u ∧ PySem.W.kitOne K (.ref C) u = some b ∧ Q (.bl b) H
theorem call_isV : CallR X (.builtin "isinstance") (rIsV X.K) := by
  intro pins s σ H xs us Q I r h
  obtain ⟨a, C, d, c, u, b, rfl, ha, hd, T, k, e, q⟩ := h
  obtain ⟨u1, u2, rfl, r1, r2⟩ := vals2 r
  have e2 := k.eq r2
  subst e2
  obtain rfl : u1 = Value.ref a := r1
  obtain ⟨ox, od, IA⟩ := exv_inst I ha hd
  exact PySem.W.kia_one (PySem.W.kitx_exc T.cls T.ga T.gg T.ex T.ca T.hn T.tk T.ob) I.kIn IA e (fun z => nomatch z) fun tk => ⟨.bl b, H, I.tok tk, rfl, q⟩
/-- e.f of an error that is kept -/
def tXa (K : PySem.W.Frag) (f : Str) (te : TE) : TE := fun σ H Q => te σ H fun x H1 => ∃ (a C dd : Addr) (fs : List (Str × V)) (v : V), x = .ref a ∧ H1 a = some (ExV (.ref C) (some dd) a) ∧ H1 dd = some (.xd fs) ∧ ErrC K C ∧ PySem.W.findIn K (.ref C) f = some none ∧ fs.lookup f = some v ∧ Q v H1
theorem pe_xa {e : Expr} {te : TE} {pos : Pos} {n : Str} (he : PE X e te) (hb : attributeBase e n X.env (eval e X.env) = eval e X.env := by rfl) : PE X (.Attribute e n pos) (tXa X.K n te) := by
  refine ⟨fun pins s σ H Q I h => ?_⟩
  refine attr_of hb (thn (he.run pins s σ H _ I h) fun u s1 hh => ?_)
  obtain ⟨x, H1, I1, rx, a, C, dd, fs, v, ex, ea, ed, T, hno, l, q⟩ := hh
  subst ex
  obtain rfl : u = Value.ref a := rx
  obtain ⟨o, vs, e1, ⟨z1, z2⟩, z3⟩ := exV_at I1.hok ea
  obtain ⟨mA, hns, hr⟩ := (show ObjOk X.prog X.w H1 s1.heap dd (.xd fs) from I1.hok dd _ ed)
  obtain ⟨od, ho, hl⟩ := lookIn_ns hns
  obtain ⟨u, hu, ru⟩ := RelO.some_of (v := v) (o := mA n) (by rw [← l]; exact hr n)
  have J : PySem.W.InstAt s1.heap a o C (some od) := ⟨e1, z1, by unfold PySem.W.notCls; rw [z3] <;> rfl, by rw [z2]; exact ho⟩
  exact HandSPX.exc_get I1.kIn J T.ga T.gg T.ex (PySem.W.findObj_own T.hd hno rfl (by rw [hl, hu])) (handed_of ru) ⟨v, H1, I1.tok _, ru, q⟩
end

/-! ### repr of data, where no repr is under way -/
section
variable {X : Cx}
def rRepr (K : PySem.W.Frag) : List V → Hp → VK → Prop := fun xs H Q => ∃ (x : V) (d : PyData), xs = [x] ∧ Dp K H x d ∧ (∃ a, x = .ref a) ∧ d.showable = true ∧ d.hasDict = false ∧ d.depth ≤ 64 ∧ d.shown.length ≤ sizeLine ∧ Q (.str d.shown) H
theorem call_repr (hg : X.A.guards = some []) (hu : X.A.units + 65 < cLine) : CallR X (.builtin "repr") (rRepr X.K) := by
  intro pins s σ H xs us Q I r h
  obtain ⟨x, d, rfl, hd, ⟨a, rfl⟩, h1, h2, h3, h4, q⟩ := h
  cases r with
  | @cons _ u0 _ ur ra rr =>
  cases rr
  obtain rfl : u0 = Value.ref a := ra
  obtain ⟨as, rds⟩ := Dp.reads I d (.ref a) (.ref a) hd rfl
  exact PySem.repr_of_reads' rds h1 (fun z => by rw [h2] at z; cases z) hg (by omega) (fun _ _ e => e) (fun h' u tk k => ⟨.str d.shown, H, I.kept (t' := tk) k, ⟨_, rfl⟩, q⟩) h4
end
section
variable {X : Cx} {CX : CXT} {k : Nat} {x : Str} {ps : List Str} {sp : Sp} {p pos : Pos} {e : Expr} {es : List Expr} {t : TA} {E : L2.St → XK}
theorem pe_fS (F : FnAt X.prog X.w X.K X.mg X.base CX k x ps sp) (hr : Room k X.A) (hg : Gl X x) (hx : ∀ σ, PassesAt CX X σ (E σ)) (ha : PA X (e :: es) t) (hdb : (x == ("__debug__" : Str)) = false := by decide)
    (he : starEach (e :: es) X.env = (false, eval e X.env) :: starEach es X.env := by rfl) (hpl : (backTo pos (starEach es X.env)).any (·.1) = false := by rfl) :
    PE X (.Call (.Name x p) (e :: es) [] pos) (tCallS sp E t) := by
  obtain ⟨f, fd, e1, e2, e3, e4, _⟩ := F
  exact pe_callS e4 hr hg e1 e2 e3 hx ha hdb he hpl
end
end My

set_option Elab.async false
set_option linter.all false
set_option maxRecDepth 100000
set_option maxHeartbeats 4000000
/-! Defs that are called where no repr is under way (repr asks that of the stack). -/
namespace My
open PySem L2 PyProof.Rows
/-- as FnOk, for calls where no repr is under way -/
structure FnG (P : Program) (w : World) (K : PySem.W.Frag) (mg : Str → Option Value) (base : Heap) (CX : CXT) (k : Nat) (f : Addr) (fd : FuncData) (ps : List Str) (sp : Sp) : Prop where
  len : ∀ vs H Q E, sp vs H Q E → vs.length = ps.length
  run : ∀ (A : Around) (outer : List Env) (s : Shared) (H : Hp) (args : Args) (us : List Value) (vs : List V) (Q : VK) (E : XK), A.guards = some [] → Room k A → Env0 P w K mg base A outer s H → BindsTo s fd args (ps.zip us) → Vals vs us → sp vs H Q E →
    codeAny (model P w) A (.call (.ref f) args) (CR CX outer P w H s Q E) s
section
variable {P : Program} {w : World} {K : PySem.W.Frag} {mg : Str → Option Value} {base : Heap} {CX : CXT}
theorem FnG.of {k : Nat} {f : Addr} {fd : FuncData} {ps : List Str} {sp : Sp} (F : FnOk P w K mg base CX k f fd ps sp) : FnG P w K mg base CX k f fd ps sp := ⟨F.len, fun A o s H a us vs Q E _ hr => F.run A o s H a us vs Q E hr⟩
theorem fn_g {x qual : Str} {st : Stmt} {f : Addr} {fd : FuncData} {N ps : List Str} {k : Nat} {sp : Sp} (F : Fun K x qual st f fd) (S : FnScope N ps (defScope st)) (len : ∀ vs H Q E, sp vs H Q E → vs.length = ps.length)
    (hbody : ∀ (cdv : Value) (A : Around) (outer : List Env) (s : Shared) (H : Hp) (vs : List V) (Q : VK) (E : XK), (A.deeper (envOfC qual (defScope st) s.heap.objs.size f cdv)).guards = some [] → Room k (A.deeper (envOfC qual (defScope st) s.heap.objs.size f cdv)) → sp vs H Q E →
      ∃ t, PSs (cxOf CX0 P w K mg base N qual (defScope st) f cdv A outer s H E).nox (defBody st) t ∧ t { nx := fun _ H' => Q .non H', rt := Q } (L2.start N vs) H) : FnG P w K mg base CX0 (k + 1) f fd ps sp := by
  obtain ⟨oc, od, kV, doc, pm, an, cdv, ct, osl, rfl, lk, hcd⟩ := F.ex
  refine ⟨len, fun A outer s H args us vs Q E hg hr e0 hb r hsp => ?_⟩
  have hl := len _ _ _ _ hsp
  have st0 : base.StaysIn s.heap := fun b o e => (e0.bs b o e).1
  have kin := e0.mod.kin.keeps st0
  refine codeAny_call_function hr.depth (kin _ _ lk) rfl S.co S.gen rfl (PySem.W.codeRec_of kin hcd) (hb _ _ _ _ (wpAny_newFunctionEnv_cells S.kind (fun ⟨n, v⟩ hy => ?_) fun env he s1 x => ?_))
  · rcases S.par n (List.of_mem_zip hy).1 with q | q
    · exact .inl q
    · exact .inr ⟨q, PySem.W.cellsFrom_some _ _ _ (.inl q)⟩
  subst he
  refine ⟨(e0.mod.nolimit.keeps st0).keeps x.toInCall.keep, codeAny_func ?_⟩
  obtain ⟨t, ht, hq⟩ := hbody cdv A outer s H vs Q E hg (hr.deeper _) hsp
  have I0 := inv_start (CX := CX0) (E := E) (cd := cdv) (f := f) (qual := qual) S hr.hd e0 hl r x
  refine wpAny_mono (ht.nox.run [] s1 _ H _ I0 hq) (fun fl s' hs => ?_) fun e s' hs => hs
  have out : ∀ {τ : L2.St} {G : Hp} {v : V} {u : Value}, L2.Inv (cxOf CX0 P w K mg base N qual (defScope st) f cdv A outer s H E) [] τ G s' → RelV v u → Q v G → CE outer P w H s Q u s' := by
    intro τ G v u J rv q
    exact ⟨v, G, J.os, J.bare, J.base, J.hok, rv, q⟩
  cases fl with
  | next =>
    obtain ⟨τ, G, J, q⟩ := hs
    exact out (v := V.non) (u := Value.none) J rfl q
  | ret u =>
    obtain ⟨v, τ, G, J, rv, q⟩ := hs
    exact out J rv q
  | brk =>
    obtain ⟨_, _, _, q⟩ := hs
    exact q.elim
  | cont =>
    obtain ⟨_, _, _, q⟩ := hs
    exact q.elim
def FnAtG (P : Program) (w : World) (K : PySem.W.Frag) (mg : Str → Option Value) (base : Heap) (CX : CXT) (k : Nat) (x : Str) (ps : List Str) (sp : Sp) : Prop :=
  ∃ (f : Addr) (fd : FuncData), mg x = some (.ref f) ∧ PySem.W.keepIn K (.ref f) = true ∧ Binds K fd ps [] ∧ FnG P w K mg base CX k f fd ps sp ∧ ∃ oc od osl, K.lookup f = some ⟨oc, od, .func fd, osl⟩
theorem FnAtG.mk {k : Nat} {x : Str} {ps : List Str} {sp : Sp} {st : Stmt} (D : DefAt K mg x st) (hb : ∀ (kV doc pm : Value) (an : Option Addr) (cdv ct : Value) (us : List Value), us.length = ps.length → bindArgs (PySem.W.fnOf x x (defArgs st) (defBody st) (defScope st) .none kV doc pm an cdv ct) ⟨us, []⟩ = pure (ps.zip us))
    (h : ∀ f fd, Fun K x x st f fd → FnG P w K mg base CX k f fd ps sp) : FnAtG P w K mg base CX k x ps sp := by
  obtain ⟨f, fd, e, F⟩ := D
  refine ⟨f, fd, e, F.kp, F.binds hb, h f fd F, ?_⟩
  obtain ⟨oc, od, kV, doc, pm, an, cdv, ct, osl, rfl, lk, hcd⟩ := F.ex
  exact ⟨oc, od, osl, lk⟩
end
section
variable {X : Cx} {CX : CXT} {k : Nat} {x : Str} {ps : List Str} {sp : Sp} {p pos : Pos} {e : Expr} {es : List Expr} {t : TA}
theorem pe_fG (hg : X.A.guards = some []) (F : FnAtG X.prog X.w X.K X.mg X.base CX0 k x ps sp) (hr : Room k X.A) (hgl : Gl X x) (ha : PA X (e :: es) t) (hdb : (x == ("__debug__" : Str)) = false := by decide)
    (he : starEach (e :: es) X.env = (false, eval e X.env) :: starEach es X.env := by rfl) (hpl : (backTo pos (starEach es X.env)).any (·.1) = false := by rfl) :
    PE X (.Call (.Name x p) (e :: es) [] pos) (tCall sp [] E0 t) := by
  obtain ⟨f, fd, hm, hk, hb, F, _⟩ := F
  refine ⟨fun pins s σ H Q I h => wpAny_Call_Name_kw (ld_glob I hgl hm ?_ hdb)⟩
  refine PySem.W.callWith_K (h₀ := X.base) I.ok.mod.kin hk (thn (ha.run pos pins s σ H _ I h) fun us s1 ⟨vs, H1, I1, r, q⟩ => ⟨I1.kIn, ?_⟩) he hpl
  have q : sp vs H1 Q E0 := by
    have z : sp (vs ++ []) H1 Q E0 := q
    rw [List.append_nil] at z
    exact z
  have hl : us.length = ps.length := by
    rw [← r.length]
    exact F.len _ _ _ _ q
  have hb2 := hb s1 us I1.kIn (by rw [List.append_nil]; exact hl)
  rw [List.append_nil] at hb2
  refine wpAny_call (codeAny_mono (F.run X.A X.stack s1 H1 ⟨us, []⟩ us vs Q E0 hg hr I1.env0 hb2 r q) fun rr s' hq => ?_)
  cases rr with
  | error e => exact hq.elim
  | ok fl =>
    cases fl with
    | ret u => exact I1.after hq
    | next => exact hq.elim
    | brk => exact hq.elim
    | cont => exact hq.elim
end

/-! ### the law's own call -/
section
variable {P : Program} {w : World} {K : PySem.W.Frag} {mg mb : Str → Option Value} {k : Nat} {fa a : Addr} {fd : FuncData} {x : Str} {sp : Sp} {s1 : Shared} {vs : List Value} {ns : List Int}
theorem law_callG (kin : K.In s1.heap) (hns : s1.heap.Ns mainGlobals mg) (hb : s1.heap.Ns builtinsNs mb) (hbb : ∀ x : Str, x ≠ "__name__" → mb x = bootBuiltins x) (lim : s1.heap.NoLimit) (hg : s1.gens = #[])
    (ha : s1.heap.get? a = some { cls := .type "list", data := .seq vs.toArray }) (hi : IntsAre vs ns) (hl : ns.length ≤ sizeLine) (hr : Room k callerA)
    (F : ∀ base : Heap, K.In base → base.Ns mainGlobals mg → FnG P w K mg base CX0 k fa fd [x] sp) (hbd : ∀ (s : Shared) (u : Value), BindsTo s fd ⟨[u], []⟩ [(x, u)])
    (hsp : ∀ H : Hp, Only H → SqL K H a (ns.map V.int) → sp [.ref a] H (fun v _ => v = .bl true) fun _ _ _ => False) :
    codeAny (model P w) callerA (.call (.ref fa) ⟨[.ref a], []⟩) (fun r s' => r = .ok (.ret (.bool true)) ∧ OldK s1.heap s'.heap ∧ s'.os = s1.os ∧ AllBare s'.gens) s1 := by
  have rv := vals_ints hi
  have core : ∀ H : Hp, Only H → SqL K H a (ns.map V.int) → HOk P w H s1.heap → (∀ b, H b ≠ none → b = a) → (H a ≠ none → K.lookup a = none) →
      codeAny (model P w) callerA (.call (.ref fa) ⟨[.ref a], []⟩) (fun r s' => r = .ok (.ret (.bool true)) ∧ OldK s1.heap s'.heap ∧ s'.os = s1.os ∧ AllBare s'.gens) s1 := by
    intro H hO hS ok only knone
    have free : ∀ {b : Addr} {o : Obj}, s1.heap.get? b = some o → (b = a → False) → H b = none := fun {b o} _ n => by
      cases q : H b with
      | none => rfl
      | some u => exact (n (only b (by rw [q]; simp))).elim
    have dictFree : ∀ {b : Addr} {o : Obj} {es : Array DictEntry} {ep : Nat}, s1.heap.get? b = some o → o.data = .dict es ep → H b = none := fun {b o es ep} e d => free e fun z => by
      rw [z, ha] at e
      cases e
      cases (d : Data.seq vs.toArray _ = Data.dict es ep)
    have nsB : ∀ {b : Addr} {m : Str → Option Value}, s1.heap.Ns b m → (hidT s1.heap H).Ns b m := fun {b m} ⟨o, es, ep, e, d, r⟩ => ⟨o, es, ep, hidT_get e (dictFree e d), d, r⟩
    have kinB : K.In (hidT s1.heap H) := fun b o e => hidT_get (kin b o e) (by
      cases q : H b with
      | none => rfl
      | some u =>
        have z := only b (by rw [q]; simp)
        subst z
        rw [knone (by rw [q]; simp)] at e
        cases e)
    have md : Mod K mg (hidT s1.heap H) := ⟨kinB, nsB hns, ⟨mb, nsB hb, hbb⟩, let ⟨mc, h1, h2⟩ := lim; ⟨mc, nsB h1, h2⟩⟩
    have nofr : ∀ b : Addr, b ∉ frs ([] : List Env) := fun b z => nomatch (show b ∈ ([] : List Addr) from z)
    have e0 : Env0 P w K mg (hidT s1.heap H) callerA [] s1 H := ⟨rfl, md, fun b o e => of_hidT e, Nat.le_of_eq (hidT_size _ _), trivial, fun b z => (nofr b z).elim, ok, .of_eq hg⟩
    refine codeAny_mono ((F _ kinB (nsB hns)).run callerA [] s1 H ⟨[.ref a], []⟩ [.ref a] [.ref a] _ _ rfl hr e0 (hbd s1 (.ref a)) (.cons rfl .nil) (hsp H hO hS)) fun r s' h => ?_
    cases r with
    | error e => exact False.elim (show False from h)
    | ok fl =>
      cases fl with
      | next => exact h.elim
      | brk => exact h.elim
      | cont => exact h.elim
      | ret u =>
        obtain ⟨v, H2, os2, bare2, un2, ok2, r2, q2⟩ := h
        obtain rfl : v = V.bl true := q2
        obtain rfl : u = Value.bool true := r2
        refine ⟨rfl, OldK.of_keep fun b o e => ?_, os2, bare2⟩
        rcases hO b with z | ⟨ob, xs, z⟩
        · exact un2.keep b o e z (nofr b) (fun z => nomatch z)
        · obtain ⟨q1, _⟩ := ok b _ z
          obtain ⟨q2, _⟩ := ok2 b _ (un2.frzs b ob _ z)
          rw [e] at q1
          cases q1
          exact q2
  cases hk : K.lookup a with
  | some o =>
    have e := kin a o hk
    rw [ha] at e
    cases e
    refine core (fun _ => none) (fun _ => .inl rfl) (.inr ⟨_, vs.toArray, _, hk, rfl, rfl, rfl, by rw [List.size_toArray, hi.length]; exact hl, by simpa using rv⟩) (fun b u z => nomatch (show (none : Option HO) = some u from z)) (fun b z => absurd rfl z) fun z => absurd rfl z
  | none =>
    obtain ⟨G, hG⟩ : ∃ G : Hp, G = fun b => if b = a then some (.frz { cls := .type "list", data := .seq vs.toArray } (.lst (ns.map V.int))) else none := ⟨_, rfl⟩
    have ga : G a = some (.frz { cls := .type "list", data := .seq vs.toArray } (.lst (ns.map V.int))) := by rw [hG]; exact if_pos rfl
    have gn : ∀ b, b ≠ a → G b = none := fun b n => by rw [hG]; exact if_neg n
    refine core G (fun b => ?_) (.inl (.inr ⟨_, ga⟩)) (fun b u z => ?_) (fun b z => ?_) fun _ => hk
    · by_cases hb : b = a
      · exact .inr ⟨_, _, hb ▸ ga⟩
      · exact .inl (gn b hb)
    · by_cases hb : b = a
      · subst hb
        rw [ga] at z
        cases z
        exact ⟨ha, by rw [List.length_map]; exact hl, vs, _, rv, ha⟩
      · rw [gn b hb] at z
        cases z
    · by_cases hb : b = a
      · exact hb
      · exact absurd (gn b hb) z
end
theorem walk_g {l : PySem.W.OpenLaw} {n k : Nat} {q : Program} {loose : List Str} {XP : (Str → Option Value) → Heap → Prop} {YP : World → Heap → Prop} {d : DefRec} {K : Params → PySem.W.Frag} {sp : PySem.W.Frag → Sp} {x : Str}
    (hn : l.most = some n) (hn2 : n ≤ sizeLine) (hdf : d.params.defaults = []) (hr : Room k callerA) (hY : ∀ (w : World) (h : Heap), YP w h → (K w.params).In h)
    (F : ∀ (w : World) (mg : Str → Option Value) (fa : Addr) (h : Heap), (K w.params).In h → h.Ns mainGlobals mg → mg d.name = some (.ref fa) →
      ∃ fd : FuncData, (∀ (s : Shared) (u : Value), BindsTo s fd ⟨[u], []⟩ [(x, u)]) ∧ ∀ base : Heap, (K w.params).In base → base.Ns mainGlobals mg → FnG l.prog w (K w.params) mg base CX0 k fa fd [x] (sp (K w.params)))
    (hsp : ∀ (K : PySem.W.Frag) (H : Hp) (a : Addr) (ns : List Int), ns.length ≤ n → Only H → SqL K H a (ns.map V.int) → sp K [.ref a] H (fun v _ => v = .bl true) fun _ _ _ => False) :
    PySem.W.WalkO q loose XP YP l.row.toRowW d [] (fun f vs => PySem.call f vs) := by
  refine Att.attach_call hn hdf fun w s0 s1 mg mb fa o pm cd doc a vs ns G Y ho hd hcd hmg hobj hints hlen hg => ?_
  obtain ⟨fd, hb, hF⟩ := F w mg fa _ (hY w _ Y) G.T.g hmg
  exact law_callG (hY w _ Y) G.T.g G.T.b G.T.builtins G.T.nolimit hg hobj hints (Nat.le_trans hlen hn2) hr hF hb fun H hO hS => hsp _ H a ns hlen hO hS
end My

set_option Elab.async false
set_option linter.all false
set_option maxRecDepth 100000
set_option maxHeartbeats 4000000
/-! The head by one kernel run: what the top has written, told by a Bool of one's own over the written part. -/
namespace My
open PySem L2 PyProof.Rows
/-- the function of an __init__ that says super() -/
def nfI (st : Stmt) (q : Str) (cc c : Addr) : NdefX.NF := ⟨"__init__", q, defArgs st, defBody st, defScope st, [("__class__", cc)], c⟩
abbrev FnC : Type := Option (Str × Str × Arguments × FuncBody × Scope × Addr × List Str × Addr)
def fnC (K : PySem.W.Frag) (a : Addr) : FnC := match K.lookup a with
  | some ⟨_, _, .func fd, _⟩ => some (fd.name, fd.qualname, fd.params, fd.body, fd.scope, fd.globals, fd.closure.map (·.1), fd.builtins)
  | _ => none
/-- the __init__ of the class cls -/
structure IniD where
  cls : Str
  qual : Str
  st : Stmt
def IniD.val (d : IniD) : FnC := some ("__init__", d.qual, defArgs d.st, .stmts (defBody d.st), defScope d.st, mainGlobals, ["__class__"], builtinsNs)
def IniD.f (K : PySem.W.Frag) (d : IniD) : Addr := He.ma K (He.ga K d.cls) "__init__"
def ccOf (K : PySem.W.Frag) (f : Addr) : Addr := match K.lookup f with
  | some ⟨_, _, .func fd, _⟩ => (match fd.closure with
    | (_, c) :: _ => c
    | _ => 0)
  | _ => 0
def cdOf (K : PySem.W.Frag) (f : Addr) : Addr := match K.lookup f with
  | some ⟨_, _, .func fd, _⟩ => (match fd.code with
    | .ref c => c
    | _ => 0)
  | _ => 0
def eqV (a b : Option Value) : Bool := decide (a = b)
def eqB (a b : Option Bool) : Bool := decide (a = b)
def plainB (K : PySem.W.Frag) (f : Addr) : Bool := match K.lookup f with
  | some ⟨_, _, .func fd, _⟩ => decide (fd.defaults = .none) && (decide (fd.kwdefaults = .none) && (decide (fd.annotations = none) && decide (fd.code = .ref (cdOf K f))))
  | _ => false
def cellB (K : PySem.W.Frag) (cc C : Addr) : Bool := match K.lookup cc with
  | some ⟨_, _, .cell (some (.ref D)), _⟩ => decide (D = C)
  | _ => false
def fileB (K : PySem.W.Frag) (file : Str) (c : Addr) : Bool := match K.lookup c with
  | some ⟨_, _, .fields vs, _⟩ => (match vs[2]? with
    | some (Value.str fl _) => file == fl
    | _ => false)
  | _ => false
def oexB (K : PySem.W.Frag) (C : Addr) : Bool := match K.lookup C with
  | some ⟨.type "type", _, .cls cd, sl⟩ => (match cd.mro, sl.toList with
    | .ref C' :: bm, [_, _, _, _, some (.builtin n), _] => decide (C' = C) && (decide (n = "ValueError.__new__") && (!cd.hasDel && (cd.hasDict && PySem.HandSPX.refsVE bm)))
    | _, _ => false)
  | _ => false
/-- what an own error class must say, as a Bool -/
def errB (K : PySem.W.Frag) (C : Addr) : Bool :=
  He.eqO (PySem.W.findIn K (.ref C) "__getattribute__") (some (some (.builtin "BaseException.__getattribute__"))) && (He.eqO (PySem.W.findIn K (.ref C) "__getattr__") (some none) &&
  (eqB (PySem.W.subIn K (.ref C) (.type "BaseException")) (some true) && (PySem.W.hasDictIn K C && (He.eqO (PySem.W.findIn K (.ref C) "__class__") (some (some (.builtin "object.__class__"))) &&
  (He.eqO (PySem.W.specialIn K (.builtin "object.__class__") "__get__") (some (some (.builtin "getset_descriptor.__get__"))) && (eqB (PySem.W.takesIn K (.builtin "object.__class__")) (some true) &&
  (eqB (PySem.W.mroIn K C (.type "object")) (some true) && eqV (PySem.W.typeIn K (.ref C)) (some (.type "type")))))))))
def supB (file : Str) (K : PySem.W.Frag) (d : IniD) : Bool :=
  oexB K (He.ga K d.cls) && (He.eqO (PySem.W.findIn K (.ref (He.ga K d.cls)) "__setattr__") (some (some (.builtin "object.__setattr__"))) && (eqB (PySem.W.subIn K (.ref (He.ga K d.cls)) (.type "BaseException")) (some true) &&
  (eqV (PySem.W.typeIn K (.ref (He.ga K d.cls))) (some (.type "type")) && (PySem.W.keepIn K (.ref (He.ga K d.cls)) &&
  (plainB K (d.f K) && (PySem.W.codeIn K (.ref (cdOf K (d.f K))) d.qual && (cellB K (ccOf K (d.f K)) (He.ga K d.cls) && (fileB K file (cdOf K (d.f K)) &&
  (eqB (PySem.W.mroIn K (He.ga K d.cls) (.ref (He.ga K d.cls))) (some true) && (eqB (PySem.W.subIn K (.ref (He.ga K d.cls)) (.type "ValueError")) (some true) &&
  (decide (PySem.W.ks_superIn K (He.ga K d.cls) (He.ga K d.cls) "__init__" = some (some (.builtin "ValueError.__init__"))) && (He.eqO (PySem.W.nsIn K cStatics "thirdparty.any") (some none) &&
  (He.eqO (PySem.W.findIn K (.ref (He.ga K d.cls)) "__init__") (some (some (.ref (d.f K)))) && eqV (PySem.W.typeIn K (.ref (d.f K))) (some (.type "function")))))))))))))))
theorem ba {a b : Bool} (h : (a && b) = true) : a = true ∧ b = true := Bool.and_eq_true_iff.mp h
theorem oexB_ok {K : PySem.W.Frag} {C : Addr} (h : oexB K C = true) : ∃ nm q N bs bm sn sub ab col dd k0 k1 k2 k3 k5, K.lookup C = some (excClassObj nm q C N bs bm true sn sub ab col dd k0 k1 k2 k3 k5 "ValueError.__new__") ∧ PySem.HandSPX.refsVE bm = true := by
  unfold oexB at h
  split at h
  · rename_i dd cd sl ho
    split at h
    · rename_i C' bm k0 k1 k2 k3 n k5 hm hs
      simp only [Bool.and_eq_true, decide_eq_true_eq, Bool.not_eq_true'] at h
      obtain ⟨rfl, rfl, hdel, hdi, ht⟩ := h
      obtain ⟨nm, bs, mro, ns, qn, hd, sn, sub, ab, col, del⟩ := cd
      dsimp only at hm hdel hdi
      subst hm hdel hdi
      have hsl : sl = #[k0, k1, k2, k3, some (.builtin "ValueError.__new__"), k5] := by
        obtain ⟨l⟩ := sl
        simp only at hs
        rw [hs]
      subst hsl
      exact ⟨nm, qn, ns, bs, bm, sn, sub, ab, col, dd, k0, k1, k2, k3, k5, ho, ht⟩
    · cases h
  · cases h
theorem errB_ok {K : PySem.W.Frag} {C : Addr} (h : errB K C = true) : ErrC K C := by
  obtain ⟨h1, h⟩ := ba h
  obtain ⟨h2, h⟩ := ba h
  obtain ⟨h3, h⟩ := ba h
  obtain ⟨h4, h⟩ := ba h
  obtain ⟨h5, h⟩ := ba h
  obtain ⟨h6, h⟩ := ba h
  obtain ⟨h7, h⟩ := ba h
  obtain ⟨h8, h9⟩ := ba h
  exact ⟨of_decide_eq_true h1, of_decide_eq_true h2, of_decide_eq_true h3, h4, of_decide_eq_true h5, of_decide_eq_true h6, of_decide_eq_true h7, of_decide_eq_true h8, of_decide_eq_true h9⟩
theorem supB_ok {P : Program} {K : PySem.W.Frag} {mg : Str → Option Value} {d : IniD} (e : fnC K (d.f K) = d.val) (h : supB P.main.file K d = true) (hs : mg "super" = none) :
    SupC P K mg (He.ga K d.cls) (nfI d.st d.qual (ccOf K (d.f K)) (cdOf K (d.f K))) (d.f K) (ccOf K (d.f K)) ∧ PySem.W.findIn K (.ref (He.ga K d.cls)) "__init__" = some (some (.ref (d.f K))) ∧ PySem.W.typeIn K (.ref (d.f K)) = some (.type "function") := by
  obtain ⟨h1, h⟩ := ba h
  obtain ⟨h2, h⟩ := ba h
  obtain ⟨h3, h⟩ := ba h
  obtain ⟨h4, h⟩ := ba h
  obtain ⟨h5, h⟩ := ba h
  obtain ⟨h6, h⟩ := ba h
  obtain ⟨h7, h⟩ := ba h
  obtain ⟨h8, h⟩ := ba h
  obtain ⟨h9, h⟩ := ba h
  obtain ⟨h10, h⟩ := ba h
  obtain ⟨h11, h⟩ := ba h
  obtain ⟨h12, h⟩ := ba h
  obtain ⟨h13, h⟩ := ba h
  obtain ⟨h14, h15⟩ := ba h
  refine ⟨⟨⟨oexB_ok h1, of_decide_eq_true h2, of_decide_eq_true h3, of_decide_eq_true h4, h5⟩, ?_, h7, rfl, ?_, ?_, of_decide_eq_true h10, of_decide_eq_true h11, of_decide_eq_true h12, of_decide_eq_true h13, hs⟩, of_decide_eq_true h14, of_decide_eq_true h15⟩
  · unfold fnC at e
    unfold plainB at h6
    cases q : K.lookup (d.f K) with
    | none =>
      rw [q] at e
      cases e
    | some o =>
      obtain ⟨oc, od, dt, osl⟩ := o
      rw [q] at e h6
      cases dt with
      | func fd =>
        obtain ⟨n1, n2, n3, n4, n5, n6, n7, n8, n9, n10, n11, n12, n13, n14, n15⟩ := fd
        have e2 : (some (n1, n2, n3, n4, n5, n6, n7.map (·.1), n15) : FnC) = IniD.val d := e
        simp only [IniD.val, Option.some.injEq, Prod.mk.injEq] at e2
        obtain ⟨g1, g2, g3, g4, g5, g6, g7, g8⟩ := e2
        obtain ⟨p1, p⟩ := ba h6
        obtain ⟨p2, p⟩ := ba p
        obtain ⟨p3, p4⟩ := ba p
        replace p1 := of_decide_eq_true p1
        replace p2 := of_decide_eq_true p2
        replace p3 := of_decide_eq_true p3
        replace p4 := of_decide_eq_true p4
        have hcc : n7 = [(("__class__" : Str), ccOf K (d.f K))] := by
          cases n7 with
          | nil => cases g7
          | cons y r =>
            obtain ⟨y1, y2⟩ := y
            cases r with
            | cons z r' => cases g7
            | nil =>
              have : y1 = ("__class__" : Str) := by
                have g7' : [y1] = [("__class__" : Str)] := g7
                exact (List.cons.inj g7').1
              subst this
              unfold ccOf
              rw [q]
        dsimp only at p1 p2 p3 p4
        exact ⟨oc, od, osl, n10, n11, n14, by subst g1 g2 g3 g4 g5 g6 g8 p1 p2 p3; rw [hcc, p4]; rfl⟩
      | _ => cases e
  · unfold cellB at h8
    split at h8
    · rename_i c1 c2 D c3 ho
      exact ⟨c1, c2, c3, by rw [ho, of_decide_eq_true h8]⟩
    · cases h8
  · unfold fileB at h9
    split at h9
    · rename_i c1 c2 vs c3 ho
      split at h9
      · rename_i fl tf hv
        exact ⟨c1, c2, vs, c3, fl, tf, ho, hv, h9⟩
      · cases h9
    · cases h9
/-! the Hook -/
abbrev AlM : Type := He.AlD × (Bool × List FnC)
def obsM (fa : List He.Fa) (fn : List He.DefD) (fi : List IniD) (ex : PySem.W.Frag → Bool) (K : PySem.W.Frag) : AlM := (He.obsD fa fn K, (ex K, fi.map fun d => fnC K (d.f K)))
def valM (fn : List He.DefD) (fi : List IniD) : AlM := (He.valD fn, (true, fi.map IniD.val))
/-- what is told of the written part -/
structure Says (fa : List He.Fa) (fn : List He.DefD) (fi : List IniD) (ex : PySem.W.Frag → Bool) (K : PySem.W.Frag) : Prop where
  d : He.SaysD fa fn K
  ex : ex K = true
  i : fi.map (fun d => fnC K (d.f K)) = fi.map IniD.val
/-- what is read: what the module's names reach, and the runtime's own names -/
def asM (g : Addr → Option Obj) (n : Nat) : List Addr := cStatics :: He.asD g n
def obsMG (n : Nat) (fa : List He.Fa) (fn : List He.DefD) (fi : List IniD) (ex : PySem.W.Frag → Bool) (g : Addr → Option Obj) : AlM := obsM fa fn fi ex (He.frG g (asM g n))
def hookM (n : Nat) (fa : List He.Fa) (fn : List He.DefD) (fi : List IniD) (ex : PySem.W.Frag → Bool) : PySem.W.Hook where
  α := AlM
  obs := fun s => obsMG n fa fn fi ex s.heap.get?
  val := fun _ => valM fn fi
  says := fun _ h => ∃ K : PySem.W.Frag, K.In h ∧ Says fa fn fi ex K
  of := fun _ _ e => ⟨_, He.frG_in, ⟨congrArg (fun z : AlM => z.1) e, congrArg (fun z : AlM => z.2.1) e, congrArg (fun z : AlM => z.2.2) e⟩⟩
  keeps := fun _ _ _ ⟨K, hK, c⟩ k => ⟨K, PySem.W.Frag.In.keeps hK k, c⟩
theorem obsMG_eq {n : Nat} {fa : List He.Fa} {fn : List He.DefD} {fi : List IniD} {ex : PySem.W.Frag → Bool} {g : Addr → Option Obj} {s : Shared} (h : ∀ a, g a = s.heap.get? a) : obsMG n fa fn fi ex g = (hookM n fa fn fi ex).obs s := by
  have e : g = s.heap.get? := funext h
  rw [e] <;> rfl
section
variable {fa : List He.Fa} {fn : List He.DefD} {fi : List IniD} {ex : PySem.W.Frag → Bool} {K : PySem.W.Frag} {h : Heap} {mg : Str → Option Value}
theorem Says.ini (c : Says fa fn fi ex K) (i : Nat) {d : IniD} (e : fi[i]? = some d := by rfl) : fnC K (d.f K) = d.val := by
  have e2 : (fi.map fun d => fnC K (d.f K))[i]? = (fi.map IniD.val)[i]? := by rw [c.i]
  rw [List.getElem?_map, List.getElem?_map, e] at e2
  exact Option.some.inj e2
/-- a def of the top, as the promises want it -/
def dfD (x : Str) (st : Stmt) : He.DefD := ⟨(x, none), x, x, defArgs st, defBody st, defScope st, [], []⟩
theorem fun_of {x : Str} {st : Stmt} {f : Addr} {fd : FuncData} (F : FunD K x x (defArgs st) (defBody st) (defScope st) [] [] f fd) : Fun K x x st f fd := by
  obtain ⟨oc, od, dV, kV, doc, pm, an, cdv, ct, osl, rfl, lk, hcd, hD, hK⟩ := F.ex
  rcases hD with ⟨_, rfl⟩ | ⟨e, _⟩
  · exact ⟨⟨oc, od, kV, doc, pm, an, cdv, ct, osl, rfl, lk, hcd⟩, F.kp⟩
  · exact absurd rfl e
theorem Says.def_ (c : Says fa fn fi ex K) (X : K.In h) (G : h.Ns mainGlobals mg) (i j : Nat) {x : Str} {st : Stmt} (e : fn[i]? = some (dfD x st) := by rfl) (e2 : fa[j]? = some (.glo x) := by rfl) : DefAt K mg x st := by
  obtain ⟨fd, F⟩ := c.d.def_ i e
  exact ⟨_, fd, He.glo_ok X G (c.d.fact j e2), fun_of F⟩
theorem Says.free (c : Says fa fn fi ex K) (X : K.In h) (G : h.Ns mainGlobals mg) (j : Nat) {x : Str} (e2 : fa[j]? = some (.free x) := by rfl) : mg x = none := He.free_ok X G (c.d.fact j e2)
theorem Says.glo (c : Says fa fn fi ex K) (X : K.In h) (G : h.Ns mainGlobals mg) (j : Nat) {x : Str} (e2 : fa[j]? = some (.glo x) := by rfl) : mg x = some (.ref (He.ga K x)) := He.glo_ok X G (c.d.fact j e2)
theorem Says.str (c : Says fa fn fi ex K) (X : K.In h) (G : h.Ns mainGlobals mg) (j : Nat) {x z : Str} (e2 : fa[j]? = some (.str x z) := by rfl) : ∃ t, mg x = some (.str z t) := He.str_ok X G (c.d.fact j e2)
end
/-! the law's end -/
theorem law_end {P : Program} {w : World} {K : PySem.W.Frag} {mg : Str → Option Value} {st : Stmt} {sp : Sp} {k : Nat} {fa : Addr} {x y : Str} (D : DefAt K mg y st)
    (hb : ∀ (kV doc pm : Value) (an : Option Addr) (cdv ct : Value) (us : List Value), us.length = 1 → bindArgs (PySem.W.fnOf y y (defArgs st) (defBody st) (defScope st) .none kV doc pm an cdv ct) ⟨us, []⟩ = pure ([x].zip us))
    (G : ∀ base : Heap, FnAtG P w K mg base CX0 k y [x] sp) (hm : mg y = some (.ref fa)) : ∃ fd : FuncData, (∀ (s : Shared) (u : Value), BindsTo s fd ⟨[u], []⟩ [(x, u)]) ∧ ∀ base : Heap, FnG P w K mg base CX0 k fa fd [x] sp := by
  obtain ⟨f, fd, e, F⟩ := D
  rw [hm] at e
  cases e
  obtain ⟨oc, od, kV, doc, pm, an, cdv, ct, osl, rfl, lk, hcd⟩ := F.ex
  refine ⟨_, fun s u => .of_eq (hb kV doc pm an cdv ct [u] rfl), fun base => ?_⟩
  obtain ⟨f', fd', e1, e2, e3, e4, oc', od', osl', lk'⟩ := G base
  rw [hm] at e1
  cases e1
  rw [lk] at lk'
  cases lk'
  exact e4
theorem walk_gE {l : PySem.W.OpenLaw} {n k : Nat} {q : Program} {loose : List Str} {XP : (Str → Option Value) → Heap → Prop} {YP : World → Heap → Prop} {d : DefRec} {x : Str}
    (hn : l.most = some n) (hn2 : n ≤ sizeLine) (hdf : d.params.defaults = []) (hr : Room k callerA)
    (F : ∀ (w : World) (mg : Str → Option Value) (fa : Addr) (h : Heap), YP w h → h.Ns mainGlobals mg → mg d.name = some (.ref fa) →
      ∃ (K : PySem.W.Frag) (fd : FuncData) (sp : Sp), K.In h ∧ (∀ (s : Shared) (u : Value), BindsTo s fd ⟨[u], []⟩ [(x, u)]) ∧
        (∀ (H : Hp) (a : Addr) (ns : List Int), ns.length ≤ n → Only H → SqL K H a (ns.map V.int) → sp [.ref a] H (fun v _ => v = .bl true) fun _ _ _ => False) ∧
        ∀ base : Heap, K.In base → base.Ns mainGlobals mg → FnG l.prog w K mg base CX0 k fa fd [x] sp) :
    PySem.W.WalkO q loose XP YP l.row.toRowW d [] (fun f vs => PySem.call f vs) := by
  refine Att.attach_call hn hdf fun w s₀ s₁ mg mb fa o pm cd doc a vs ns G Y ho hd hcd hmg hobj hints hlen hg => ?_
  obtain ⟨K, fd, sp, KX, hb, hsp, hF⟩ := F w mg fa _ Y G.T.g hmg
  exact law_callG KX G.T.g G.T.b G.T.builtins G.T.nolimit hg hobj hints (Nat.le_trans hlen hn2) hr hF hb fun H hO hS => hsp H a ns hlen hO hS
end My

set_option Elab.async false
set_option linter.all false
set_option maxRecDepth 100000
set_option maxHeartbeats 4000000
/-! k00, the plain law: the words of a text, cut by split, are the words as a walk over its signs finds them. -/
namespace My
open PySem L2 TL
abbrev W3 := List Nat × Nat × Nat
def wfl (cur : List Nat) (r c : Nat) : List W3 := if cur = [] then [] else [(cur, r, c - cur.length)]
/-- the words of the signs ahead: row r, column c, cur the open word -/
def wW : List Nat → Nat → Nat → List Nat → List W3
  | [], r, c, cur => wfl cur r c
  | s :: l, r, c, cur => if s = 10 then wfl cur r c ++ wW l (r + 1) 1 [] else if s = 32 then wfl cur r c ++ wW l r (c + 1) [] else wW l r (c + 1) (cur ++ [s])
/-- of one line -/
def wV : List Nat → Nat → Nat → List Nat → List W3
  | [], r, c, cur => wfl cur r c
  | s :: l, r, c, cur => if s = 32 then wfl cur r c ++ wV l r (c + 1) [] else wV l r (c + 1) (cur ++ [s])
def wLn : List (List Nat) → Nat → Nat → List W3
  | [], _, _ => []
  | w :: ws, r, c => (if w = [] then [] else [(w, r, c)]) ++ wLn ws r (c + w.length + 1)
def wPg : List (List Nat) → Nat → List W3
  | [], _ => []
  | l :: ls, r => wLn (spl [32] 0 [] l) r 1 ++ wPg ls (r + 1)
theorem pre1 (s c : Nat) (r : List Nat) : pre [s] (c :: r) = decide (c = s) := by
  unfold pre
  by_cases h : c = s <;> simp [h]
theorem wLn_spl : ∀ (l cur : List Nat) (r c : Nat), wLn (spl [32] 0 cur l) r c = wV l r (c + cur.length) cur
  | [], cur, r, c => by
    rw [spl_nil]
    simp only [wLn, wV, wfl, List.append_nil, Nat.add_sub_cancel]
  | s :: l, cur, r, c => by
    by_cases h : s = 32
    · subst h
      rw [spl_hit (by rw [pre1]; simp)]
      have ih := wLn_spl l [] r (c + cur.length + 1)
      simp only [wLn, wV, wfl, if_true, Nat.add_sub_cancel]
      show _ ++ wLn (spl [32] 0 [] l) r (c + cur.length + 1) = _
      rw [ih]
      simp
    · rw [spl_miss (by rw [pre1]; simp [h])]
      have ih := wLn_spl l (cur ++ [s]) r c
      rw [ih]
      simp only [wV, if_neg h, List.length_append, List.length_cons, List.length_nil]
      rfl
theorem wW_V : ∀ (p : List Nat) (r c : Nat) (cur : List Nat), 10 ∉ p → wW p r c cur = wV p r c cur
  | [], _, _, _, _ => rfl
  | s :: l, r, c, cur, h => by
    have h1 : s ≠ 10 := fun z => h (by simp [z])
    have h2 : 10 ∉ l := fun z => h (by simp [z])
    simp only [wW, wV, if_neg h1, wW_V l _ _ _ h2]
theorem wW_app : ∀ (p rest : List Nat) (r c : Nat) (cur : List Nat), 10 ∉ p → wW (p ++ 10 :: rest) r c cur = wV p r c cur ++ wW rest (r + 1) 1 []
  | [], rest, r, c, cur, _ => by simp only [List.nil_append, wW, wV, if_true]
  | s :: l, rest, r, c, cur, h => by
    have h1 : s ≠ 10 := fun z => h (by simp [z])
    have h2 : 10 ∉ l := fun z => h (by simp [z])
    simp only [List.cons_append, wW, wV, if_neg h1, wW_app l _ _ _ _ h2]
    by_cases h3 : s = 32
    · simp only [if_pos h3, List.append_assoc]
    · simp only [if_neg h3]
theorem wPg_spl : ∀ (n : Nat) (l : List Nat) (r : Nat), l.length ≤ n → wPg (spl [10] 0 [] l) r = wW l r 1 []
  | n, l, r, hn => by
    by_cases h : 10 ∈ l
    · obtain ⟨p, rest, rfl, hp⟩ := List.eq_append_cons_of_mem h
      have e : p ++ 10 :: rest = p ++ (10 :: [] ++ rest) := rfl
      cases n with
      | zero => simp at hn
      | succ n =>
        have hl : rest.length ≤ n := by simp at hn; omega
        rw [e, spl_part1 hp, ← e, wW_app p rest r 1 [] hp]
        simp only [wPg, List.nil_append]
        rw [wPg_spl n rest (r + 1) hl, wLn_spl]
        rfl
    · rw [spl_last1 h, wW_V _ _ _ _ h]
      simp only [wPg, List.nil_append, List.append_nil]
      rw [wLn_spl]
      rfl
/-- the words of a text -/
def wl (z : Str) : List W3 := wW (tl z) 1 1 []
theorem lines_spl (z : Str) : wPg ((Txt.split z "\n").map tl) 1 = wl z := by
  have e : (tl ("\n" : Str)) = [10] := by first | rfl | decide +kernel
  rw [split_spl z "\n" (by rw [e]; simp) (kind_ok (by first | rfl | decide +kernel)), e]
  exact wPg_spl _ _ _ (Nat.le_refl _)
theorem words_spl (z : Str) : (Txt.split z " ").map tl = spl [32] 0 [] (tl z) := by
  have e : (tl (" " : Str)) = [32] := by first | rfl | decide +kernel
  rw [split_spl z " " (by rw [e]; simp) (kind_ok (by first | rfl | decide +kernel)), e]
/-! bounds -/
structure WOk (N : Nat) (q : W3) : Prop where
  len : q.1.length ≤ N
  row : q.2.1 ≤ N
  col : q.2.2 ≤ N
  asc : ∀ x ∈ q.1, x < 128
theorem wfl_ok {N r c : Nat} {cur : List Nat} (h1 : r ≤ N) (h2 : c ≤ N) (h3 : cur.length ≤ N) (h4 : ∀ x ∈ cur, x < 128) : ∀ q ∈ wfl cur r c, WOk N q := by
  intro q hq
  unfold wfl at hq
  split at hq
  · cases hq
  · simp only [List.mem_singleton] at hq
    subst hq
    exact ⟨h3, h1, by show c - _ ≤ N; omega, h4⟩
theorem wW_ok {N : Nat} : ∀ (l : List Nat) (r c : Nat) (cur : List Nat), 1 + l.length ≤ N → r + l.length ≤ N → c + l.length ≤ N → cur.length + l.length ≤ N → (∀ x ∈ cur, x < 128) → (∀ x ∈ l, x < 128) → ∀ q ∈ wW l r c cur, WOk N q
  | [], r, c, cur, _, h1, h2, h3, h4, _ => wfl_ok (by simpa using h1) (by simpa using h2) (by simpa using h3) h4
  | s :: l, r, c, cur, h0, h1, h2, h3, h4, h5 => by
    rw [List.length_cons] at h0 h1 h2 h3
    have h6 : ∀ x ∈ l, x < 128 := fun x hx => h5 x (by simp [hx])
    have hf := wfl_ok (N := N) (r := r) (c := c) (cur := cur) (by omega) (by omega) (by omega) h4
    intro q hq
    simp only [wW] at hq
    split at hq
    · rcases List.mem_append.mp hq with hq | hq
      · exact hf q hq
      · exact wW_ok l (r + 1) 1 [] (by omega) (by omega) (by omega) (by simp; omega) (by simp) h6 q hq
    · split at hq
      · rcases List.mem_append.mp hq with hq | hq
        · exact hf q hq
        · exact wW_ok l r (c + 1) [] (by omega) (by omega) (by omega) (by simp; omega) (by simp) h6 q hq
      · refine wW_ok l r (c + 1) (cur ++ [s]) (by omega) (by omega) (by omega) (by simp; omega) (fun x hx => ?_) h6 q hq
        rcases List.mem_append.mp hx with hx | hx
        · exact h4 x hx
        · exact h5 x (by simp at hx; simp [hx])
theorem wfl_len (cur : List Nat) (r c : Nat) : (wfl cur r c).length ≤ 1 := by
  unfold wfl
  split <;> simp
theorem wW_len : ∀ (l : List Nat) (r c : Nat) (cur : List Nat), (wW l r c cur).length ≤ l.length + 1
  | [], r, c, cur => by
    have := wfl_len cur r c
    simpa [wW] using this
  | s :: l, r, c, cur => by
    have h0 := wfl_len cur r c
    have h1 := wW_len l (r + 1) 1 []
    have h2 := wW_len l r (c + 1) []
    have h3 := wW_len l r (c + 1) (cur ++ [s])
    simp only [wW, List.length_cons]
    split
    · rw [List.length_append]; omega
    · split
      · rw [List.length_append]; omega
      · omega
/-- a text of plain signs -/
def Asc (z : Str) : Prop := ∀ x ∈ tl z, x < 128
theorem wl_ok {z : Str} {N : Nat} (h : Asc z) (hn : z.length + 1 ≤ N) : ∀ q ∈ wl z, WOk N q := by
  rw [len_tl] at hn
  exact wW_ok (tl z) 1 1 [] (by omega) (by omega) (by omega) (by rw [List.length_nil]; omega) (by simp) h
theorem wl_len (z : Str) : (wl z).length ≤ z.length + 1 := by
  rw [len_tl]
  exact wW_len _ _ _ _
def sMk (l : List Nat) : Str := ⟨l.toArray⟩
def wd (q : W3) : PyData := .tuple [.str (sMk q.1), .int q.2.1, .int q.2.2]
theorem strOk_asc {z : Str} (h : Asc z) : PyData.strOk z = true := by
  unfold PyData.strOk
  rw [Array.all_eq_true_iff_forall_mem]
  intro x hx
  have := h x (by simpa [tl] using hx)
  simp
  omega
theorem Asc.mk {l : List Nat} (h : ∀ x ∈ l, x < 128) : Asc (sMk l) := fun x hx => h x (by simpa [sMk, tl] using hx)
theorem wd_sh {N : Nat} {q : W3} (h : WOk N q) {n : Nat} : Sh (n + 1) (wd q) := by
  refine Sh.tup fun d hd => ?_
  simp only [List.mem_cons, List.not_mem_nil, or_false] at hd
  rcases hd with rfl | rfl | rfl
  · exact Sh.str (strOk_asc (Asc.mk h.asc))
  · exact Sh.int _
  · exact Sh.int _
def dat (qs : List W3) : PyData := .list (qs.map wd)
theorem dat_sh {N : Nat} {qs : List W3} (h : ∀ q ∈ qs, WOk N q) : Sh 2 (dat qs) := Sh.lst fun d hd => by
  obtain ⟨q, hq, rfl⟩ := List.mem_map.mp hd
  exact wd_sh (h q hq)
theorem log2_lt {n : Nat} (h : n ≤ 1000000) : n.log2 < 1920 := by
  rcases Nat.eq_zero_or_pos n with rfl | hp
  · decide
  · have h2 : n.log2 < 20 := by
      rw [Nat.log2_lt (by omega)]
      exact Nat.lt_of_le_of_lt h (by decide)
    omega
theorem dat_show {N : Nat} (hN : N ≤ 1000) : ∀ {qs : List W3}, (∀ q ∈ qs, WOk N q) → PyData.showableAll (qs.map wd) = true
  | [], _ => by simp [PyData.showableAll]
  | q :: qs, h => by
    have ih := dat_show hN (qs := qs) fun q hq => h q (by simp [hq])
    have hq := h q (by simp)
    have h1 := log2_lt (n := q.2.1) (by have := hq.row; omega)
    have h2 := log2_lt (n := q.2.2) (by have := hq.col; omega)
    simp only [List.map_cons, PyData.showableAll, wd, PyData.showable, ih, Bool.and_true, Int.natAbs_natCast, h1, h2, decide_true]
theorem dat_leaves {N : Nat} (hN : N ≤ 1000) : ∀ {qs : List W3}, (∀ q ∈ qs, WOk N q) → PyData.leavesShortAll 13 (qs.map wd) = true
  | [], _ => by simp [PyData.leavesShortAll]
  | q :: qs, h => by
    have ih := dat_leaves hN (qs := qs) fun q hq => h q (by simp [hq])
    have hq := h q (by simp)
    have h1 := PyData.shown_int_le (i := (q.2.1 : Int)) (by have := hq.row; simp; omega)
    have h2 := PyData.shown_int_le (i := (q.2.2 : Int)) (by have := hq.col; simp; omega)
    have h3 : ((sMk q.1).cps.toList.all fun c => decide (c < 16 ^ 8)) = true := by
      simp only [sMk, List.all_eq_true, decide_eq_true_eq]
      intro x hx
      have := hq.asc x (by simpa using hx)
      omega
    simp only [List.map_cons, PyData.leavesShortAll, wd, PyData.leavesShort, ih, Bool.and_true, h1, h2, h3, decide_true]
theorem dat_bulk {N : Nat} (hN : N ≤ 1000) : ∀ {qs : List W3}, (∀ q ∈ qs, WOk N q) → PyData.bulkAll (qs.map wd) ≤ qs.length * 1010
  | [], _ => by simp [PyData.bulkAll]
  | q :: qs, h => by
    have ih := dat_bulk hN (qs := qs) fun q hq => h q (by simp [hq])
    have hq := (h q (by simp)).len
    have e : (sMk q.1).cps.size = q.1.length := by simp [sMk]
    simp only [List.map_cons, PyData.bulkAll, wd, PyData.bulk, e, List.length_cons]
    omega
theorem dat_fits {N : Nat} {qs : List W3} (hN : N ≤ 1000) (h : ∀ q ∈ qs, WOk N q) (hl : qs.length ≤ 1000) : (dat qs).shown.length ≤ sizeLine := by
  refine PyData.shown_fits_bulk (B := 13) (by decide) (by decide) (by simp only [dat, PyData.leavesShort]; exact dat_leaves hN h) ?_
  simp only [dat, PyData.bulk]
  have := dat_bulk hN h
  omega
theorem dat_nodict {N : Nat} {qs : List W3} (h : ∀ q ∈ qs, WOk N q) : (dat qs).hasDict = false := PyData.hasDict_of_canLay _ (dat_sh h).1
/-! on the heap -/
def Wt (H : Hp) (x : V) (q : W3) : Prop := ∃ p, x = .ref p ∧ H p = some (.tup [.str (sMk q.1), .int q.2.1, .int q.2.2])
def WtL (H : Hp) : List V → List W3 → Prop
  | [], [] => True
  | x :: xs, q :: qs => Wt H x q ∧ WtL H xs qs
  | _, _ => False
/-- tuples stand -/
def Kt (H H' : Hp) : Prop := ∀ p xs, H p = some (.tup xs) → H' p = some (.tup xs)
theorem Wt.keep {H H' : Hp} {x : V} {q : W3} (k : Kt H H') (h : Wt H x q) : Wt H' x q := by
  obtain ⟨p, rfl, e⟩ := h
  exact ⟨p, rfl, k _ _ e⟩
theorem WtL.keep {H H' : Hp} (k : Kt H H') : ∀ {xs : List V} {qs : List W3}, WtL H xs qs → WtL H' xs qs
  | [], [], _ => trivial
  | x :: xs, q :: qs, h => ⟨h.1.keep k, WtL.keep k h.2⟩
  | [], _ :: _, h => h.elim
  | _ :: _, [], h => h.elim
theorem WtL.snoc {H : Hp} {x : V} {q : W3} (h1 : Wt H x q) : ∀ {xs : List V} {qs : List W3}, WtL H xs qs → WtL H (xs ++ [x]) (qs ++ [q])
  | [], [], _ => ⟨h1, trivial⟩
  | _ :: _, _ :: _, h => ⟨h.1, WtL.snoc h1 h.2⟩
  | [], _ :: _, h => h.elim
  | _ :: _, [], h => h.elim
theorem WtL.len {H : Hp} : ∀ {xs : List V} {qs : List W3}, WtL H xs qs → xs.length = qs.length
  | [], [], _ => rfl
  | _ :: _, _ :: _, h => by simp [WtL.len h.2]
  | [], _ :: _, h => h.elim
  | _ :: _, [], h => h.elim
theorem WtL.unsnoc {H : Hp} {q : W3} : ∀ {xs : List V} {qs : List W3}, WtL H xs (qs ++ [q]) → ∃ ys y, xs = ys ++ [y] ∧ WtL H ys qs ∧ Wt H y q
  | [], [], h => h.elim
  | [], _ :: _, h => h.elim
  | x :: xs, [], h => by
    obtain ⟨h1, h2⟩ := h
    cases xs with
    | nil => exact ⟨[], x, rfl, trivial, h1⟩
    | cons y ys => exact h2.elim
  | x :: xs, q' :: qs, h => by
    obtain ⟨h1, h2⟩ := h
    obtain ⟨ys, y, e, h3, h4⟩ := WtL.unsnoc h2
    exact ⟨x :: ys, y, by rw [e] <;> rfl, ⟨h1, h3⟩, h4⟩
theorem WtL.dp {K : PySem.W.Frag} {H : Hp} : ∀ {xs : List V} {qs : List W3}, WtL H xs qs → DpAll K H xs (qs.map wd)
  | [], [], _ => .nil
  | _ :: _, q :: _, h => by
    obtain ⟨⟨p, rfl, e⟩, h2⟩ := h
    exact .cons (.tup (SqT.of e) (.cons (.str _) (.cons (.int _) (.cons (.int _) .nil)))) (WtL.dp h2)
  | [], _ :: _, h => h.elim
  | _ :: _, [], h => h.elim
theorem WtL.dat {K : PySem.W.Frag} {H : Hp} {p : Addr} {xs : List V} {qs : List W3} (e : H p = some (.lst xs)) (h : WtL H xs qs) : Dp K H (.ref p) (dat qs) := .lst (SqL.of e) h.dp
theorem Kt.refl {H : Hp} : Kt H H := fun _ _ e => e
theorem Kt.trans {H H1 H2 : Hp} (a : Kt H H1) (b : Kt H1 H2) : Kt H H2 := fun p xs e => b p xs (a p xs e)
theorem Kt.nw {H : Hp} {p : Addr} {o : HO} (n : H p = none) : Kt H (upd H p o) := fun x xs e => by rw [upd_ne (ne_of_none e n)]; exact e
theorem Kt.lst {H : Hp} {p : Addr} {ys : List V} {o : HO} (n : H p = some (.lst ys)) : Kt H (upd H p o) := fun x xs e => by
  rw [upd_ne (ne_of e n (by intro z; cases z))]
  exact e
theorem Kx.kt {H H' : Hp} (k : Kx [] H H') : Kt H H' := fun p xs e => k _ _ e (by simp)
theorem Kx.kt1 {H H' : Hp} {l : Addr} {ys : List V} (k : Kx [l] H H') (n : H l = some (.lst ys)) : Kt H H' := fun p xs e => k _ _ e (by
  have := ne_of e n (by intro z; cases z)
  simp [this])
/-! one sign -/
theorem sgn_eq {s : Str} {c d : Nat} (h : tl s = [d]) : (V.str (sgn c) = V.str s) ↔ c = d := by
  constructor
  · intro e
    have e2 : sgn c = s := V.str.inj e
    have e3 : tl (sgn c) = tl s := by rw [e2]
    rw [h] at e3
    have e4 : [c] = [d] := e3
    exact List.cons.inj e4 |>.1
  · intro e
    subst e
    exact congrArg V.str (ext_tl h.symm)
theorem sgn_lt {s : Str} {c d : Nat} (h : tl s = [d]) : decide ((sgn c).cps.toList < s.cps.toList) = decide (c < d) := by
  have e1 : (sgn c).cps.toList = [c] := rfl
  have e2 : s.cps.toList = [d] := h
  rw [e1, e2, decide_eq_decide]
  simp [List.cons_lt_cons_iff]
theorem sgn_gt {s : Str} {c d : Nat} (h : tl s = [d]) : decide (s.cps.toList < (sgn c).cps.toList) = decide (d < c) := by
  have e1 : (sgn c).cps.toList = [c] := rfl
  have e2 : s.cps.toList = [d] := h
  rw [e1, e2, decide_eq_decide]
  simp [List.cons_lt_cons_iff]
theorem tl_nl : tl ("\n" : Str) = [10] := by first | rfl | decide +kernel
theorem tl_sp : tl (" " : Str) = [32] := by first | rfl | decide +kernel
theorem tl_tilde : tl ("~" : Str) = [126] := by first | rfl | decide +kernel
end My

set_option Elab.async false
set_option linter.all false
set_option maxRecDepth 100000
set_option maxHeartbeats 4000000
namespace My
open PySem L2 TL
def keptL : List Str := [("ahead" : Str), ("anew" : Str), ("ask" : Str), ("body" : Str), ("call" : Str), ("do" : Str), ("document" : Str), ("down" : Str), ("each" : Str), ("else" : Str), ("ever" : Str), ("fill" : Str), ("group" : Str), ("if" : Str), ("left" : Str), ("less" : Str), ("minus" : Str), ("none" : Str), ("order" : Str), ("over" : Str), ("part" : Str), ("place" : Str), ("plus" : Str), ("program" : Str), ("reads" : Str), ("right" : Str), ("run" : Str), ("same" : Str), ("set" : Str), ("show" : Str), ("then" : Str), ("times" : Str), ("up" : Str), ("walk" : Str), ("while" : Str), ("whole" : Str), ("width" : Str)]
def smallS : Str := "abcdefghijklmnopqrstuvwxyz"
/-- what k00's text asks of the top -/
structure TxK (P : Program) (K : PySem.W.Frag) (mg : Str → Option Value) (kept : Addr) (smt : Tok) (M C fI cc : Addr) (F : NdefX.NF) : Prop where
  D : TxD K mg
  b_abs : mg "abs" = none
  b_isinstance : mg "isinstance" = none
  b_str : mg "str" = none
  b_len : mg "len" = none
  b_all : mg "all" = none
  b_enumerate : mg "enumerate" = none
  b_range : mg "range" = none
  b_min : mg "min" = none
  b_repr : mg "repr" = none
  b_tuple : mg "tuple" = none
  g_SMALL : mg "SMALL" = some (.str smallS smt)
  g_KEPT : mg "KEPT" = some (.ref kept)
  kq : ∀ H : Hp, SqT K H kept (keptL.map V.str)
  d_law : DefAt K mg "law" s_law
  g_MakerError : mg "MakerError" = some (.ref M)
  g_BadText : mg "BadText" = some (.ref C)
  sup : SupC P K mg C F fI cc
  eC : ErrC K C
  iC : PySem.W.findIn K (.ref C) "__init__" = some (some (.ref fI))
  tI : PySem.W.typeIn K (.ref fI) = some (.type "function")
  no1 : PySem.W.findIn K (.ref C) "line" = some none
  no2 : PySem.W.findIn K (.ref C) "column" = some none
  no3 : PySem.W.findIn K (.ref C) "wanted" = some none
  exM : PySem.W.exmOne K (.ref C) (.ref M) = some true
  kit : PySem.W.kitOne K (.ref C) (.ref C) = some true
  nf : F = nfI s_BadText___init__ "BadText.__init__" cc F.c
  d_is_name : DefAt K mg "is_name" s_is_name
  d_is_text : DefAt K mg "is_text" s_is_text
  d_words_of : DefAt K mg "words_of" s_words_of
  d__law_is_name : DefAt K mg "_law_is_name" s__law_is_name
  d__law_reserved : DefAt K mg "_law_reserved" s__law_reserved
  d__law_any_name : DefAt K mg "_law_any_name" s__law_any_name
  d__law_walked : DefAt K mg "_law_walked" s__law_walked
  d__law_piece : DefAt K mg "_law_piece" s__law_piece
  d__law_names_right : DefAt K mg "_law_names_right" s__law_names_right
theorem TxK.r_SMALL {P : Program} {K : PySem.W.Frag} {mg : Str → Option Value} {kept : Addr} {smt : Tok} {M C fI cc : Addr} {F : NdefX.NF} (_ : TxK P K mg kept smt M C fI cc F) : RelV (.str smallS) (.str smallS smt) := ⟨smt, rfl⟩
theorem TxK.r_KEPT {P : Program} {K : PySem.W.Frag} {mg : Str → Option Value} {kept : Addr} {smt : Tok} {M C fI cc : Addr} {F : NdefX.NF} (_ : TxK P K mg kept smt M C fI cc F) : RelV (.ref kept) (.ref kept) := rfl
theorem sc_is_name : FnScope ["thing", "letter"] ["thing"] (defScope s_is_name) := ⟨rfl, rfl, rfl, by decide +kernel, rfl, by decide +kernel, by decide +kernel⟩
theorem sc_is_text : FnScope ["thing", "sign"] ["thing"] (defScope s_is_text) := ⟨rfl, rfl, rfl, by decide +kernel, rfl, by decide +kernel, by decide +kernel⟩
theorem sc_words_of : FnScope ["text", "found", "at", "line", "column", "word"] ["text"] (defScope s_words_of) := ⟨rfl, rfl, rfl, by decide +kernel, rfl, by decide +kernel, by decide +kernel⟩
theorem sc__law_is_name : FnScope ["_law_thing", "_law_letter"] ["_law_thing"] (defScope s__law_is_name) := ⟨rfl, rfl, rfl, by decide +kernel, rfl, by decide +kernel, by decide +kernel⟩
theorem sc__law_reserved : FnScope ["_law_some"] [] (defScope s__law_reserved) := ⟨rfl, rfl, rfl, by decide +kernel, rfl, by decide +kernel, by decide +kernel⟩
theorem sc__law_any_name : FnScope ["_law_draw", "_law_letters", "_law_way", "_law_word", "_law_k"] ["_law_draw"] (defScope s__law_any_name) := ⟨rfl, rfl, rfl, by decide +kernel, rfl, by decide +kernel, by decide +kernel⟩
theorem sc__law_walked : FnScope ["_law_text", "_law_found", "_law_line", "_law_column", "_law_is_open", "_law_sign", "_law_word", "_law_row", "_law_place"] ["_law_text"] (defScope s__law_walked) := ⟨rfl, rfl, rfl, by decide +kernel, rfl, by decide +kernel, by decide +kernel⟩
theorem sc__law_piece : FnScope ["_law_draw", "_law_signs", "_law_way"] ["_law_draw"] (defScope s__law_piece) := ⟨rfl, rfl, rfl, by decide +kernel, rfl, by decide +kernel, by decide +kernel⟩
theorem sc__law_names_right : FnScope ["_law_draw", "_law_word", "_law_kept", "_law_some", "_law_one", "_law_odd"] ["_law_draw"] (defScope s__law_names_right) := ⟨rfl, rfl, rfl, by decide +kernel, rfl, by decide +kernel, by decide +kernel⟩
/-- is it a text? -/
def isS : V → Bool
  | .str _ => true
  | _ => false
/-- may be asked -/
def Tst (K : PySem.W.Frag) (H : Hp) (x : V) : Prop := ∃ t, TyX K H x t ∧ PySem.W.kitOne K t (.type "str") = some (isS x) ∧ ∀ z, x = .str z → z.length ≤ 100000 ∧ Asc z
def nameS (z : Str) : Bool := decide (1 ≤ z.length) && decide (z.length ≤ 8) && !(keptL.contains z) && (tl z).all fun c => decide (c ∈ tl smallS)
def nameV : V → Bool
  | .str z => nameS z
  | _ => false
def textS (z : Str) : Bool := (tl z).all fun c => c == 10 || (decide (32 ≤ c) && decide (c ≤ 126))
def textV : V → Bool
  | .str z => textS z
  | _ => false
def sp_name (K : PySem.W.Frag) : Sp := fun vs H Q _ => ∃ x, vs = [x] ∧ Tst K H x ∧ ∀ H', Kx [] H H' → Q (.bl (nameV x)) H'
def sp_text (K : PySem.W.Frag) : Sp := fun vs H Q _ => ∃ x, vs = [x] ∧ Tst K H x ∧ ∀ H', Kx [] H H' → Q (.bl (textV x)) H'
def sp_reserved : Sp := fun vs H Q _ => vs = [] ∧ ∀ H' p, Kx [] H H' → H p = none → H' p = some (.lst (keptL.map V.str)) → Q (.ref p) H'
theorem isS_no {x : V} (h : isS x = false) : nameV x = false ∧ textV x = false := by
  cases x <;> first | exact ⟨rfl, rfl⟩ | cases h
theorem isS_yes {x : V} (h : isS x = true) : ∃ z, x = .str z := by
  cases x <;> first | exact ⟨_, rfl⟩ | cases h
theorem inV_strs (z : Str) (ys : List Str) : inV (.str z) (ys.map V.str) = ys.contains z := by
  unfold inV
  induction ys with
  | nil => rfl
  | cons y r ih =>
    rw [List.map_cons, List.any_cons, ih, List.contains_cons]
    show ((y == z) || _) = _
    rw [Bool.beq_comm]
theorem all_take {z : Str} {f : Nat → Bool} : ((tl z).take z.cps.size).map (fun c => V.bl (f c)) = ((tl z).map f).map V.bl := by
  rw [List.take_of_length_le (by simp [tl]), List.map_map]
  rfl
theorem get_tl {z : Str} {i c : Nat} (h : z.cps[i]? = some c) : (tl z)[i]? = some c := by
  rw [← h]
  simp [tl]
section
variable {P : Program} {w : World} {K : PySem.W.Frag} {mg : Str → Option Value} {base : Heap} {kept : Addr} {smt : Tok} {M C fI cc : Addr} {F : NdefX.NF}
theorem ok_is_name (T : TxK P K mg kept smt M C fI cc F) : FnAt P w K mg base CX0 1 "is_name" ["thing"] (sp_name K) := by
  refine FnAt.mk T.d_is_name (fun _ _ _ _ _ _ us hl => match us, hl with | [_], _ => rfl) fun f fd F => ?_
  refine F.ok sc_is_name (fun vs H Q E h => by obtain ⟨x, rfl, _⟩ := h; rfl) (fun cdv A outer s H vs Q E hr h => ?_)
  obtain ⟨x, rfl, ⟨t, ht, hk, hx⟩, k⟩ := h
  refine ⟨_, (pss_cons (ps_if (PW.pt (pw_or (pt_not (pt_val (pe_callB call_isi rfl T.b_isinstance (by decide +kernel) (pa_cons (pv 0) (pa_cons (pe_bltn (v := .ty "str") rfl T.b_str (by decide +kernel) rfl) pa_nil))))) (pw_or (pt_not (pt_chain op_le op_le pe_int (pe_callB call_len_str rfl T.b_len (by decide +kernel) (pa_cons (pv 0) pa_nil)) pe_int)) (pw_or1 (pt_cmpR op_in_seq (pv 0) (pe_glob rfl T.g_KEPT T.r_KEPT) rfl))))) (pss_one (ps_ret pe_bl)) pss_nil)
    (pss_one (ps_ret (pe_callB (cr_all rfl) rfl T.b_all (by decide +kernel) (pa_cons (pe_lc (own := [("letter", 1)]) (by rfl) sc_is_name.nd (pi_str (pv 0)) (blkOk_by (own := [("letter", 1)]) (N := ["thing", "letter"]) (sc := defScope s_is_name) (by decide +kernel)) (fun _ _ _ _ _ => (pg_name (i := 1) sc_is_name.nd rfl (by first | exact Or.inl rfl | exact Or.inr rfl))) (fun _ _ _ _ _ => pts_nil) (fun _ _ _ _ _ => (pe_cmpR op_in_sign (pv 1) (pe_glob rfl T.g_SMALL T.r_SMALL) rfl))) pa_nil))))), ?_⟩
  walk_at "go"
  refine ⟨x, _, t, _, _, rfl, .ty _, ht, hk, ?_⟩
  walk_at "rd"
  cases hs : isS x with
  | false =>
    refine iteT ?_
    walk_at "rd"
    refine iteT ?_
    walk_at "rd"
    have q := k H Kx.refl
    rw [(isS_no hs).1] at q
    exact q
  | true =>
    obtain ⟨z, rfl⟩ := isS_yes hs
    obtain ⟨hz, _⟩ := hx z rfl
    have hz2 : z.length ≤ sizeLine := by rw [sizeLine_eq]; omega
    refine iteF ?_
    walk_at "rd"
    refine ⟨hz2, ?_⟩
    walk_at "rd"
    have no : nameS z = false → Q (.bl false) H := fun e => by
      have q := k H Kx.refl
      rw [show nameV (.str z) = nameS z from rfl, e] at q
      exact q
    refine ite2 (fun h1 => ?_) (fun h1 => ?_)
    · have g1 : 1 ≤ z.length := by have := of_decide_eq_true h1; omega
      walk_at "rd"
      refine ite2 (fun h2 => ?_) (fun h2 => ?_)
      · have g2 : ¬ z.length ≤ 8 := by simp at h2; omega
        refine iteT ?_
        walk_at "rd"
        exact no (by unfold nameS; simp [g2])
      · have g2 : z.length ≤ 8 := by simp at h2; omega
        walk_at "rd"
        refine ⟨kept, _, rfl, .inr (T.kq _), rfl, flat_strs _, ?_⟩
        rw [inV_strs]
        walk_at "rd"
        refine ite2 (fun h3 => ?_) (fun h3 => ?_)
        · walk_at "rd"
          exact no (by unfold nameS; rw [show keptL.contains z = true from h3]; simp)
        · walk_at "rd"
          refine ⟨z, rfl, ?_⟩
          intro D hD
          refine lc_src src_str (fun i H1 => PvF H D [] (((tl z).take i).map fun c => V.bl (decide (c ∈ tl smallS))) H1) (PvF.zero hD (by simp)) (fun _ _ _ _ => trivial) ?_ ?_
          · rintro i x H1 H2 hi ⟨rfl, c, hc, rfl⟩ p
            walk_at "lc"
            refine ⟨rfl, ?_⟩
            walk_at "rd"
            refine iteT ?_
            walk_at "rd"
            refine ⟨c, _, rfl, rfl, ?_⟩
            exact p.yes hD Kx.refl (by rw [List.length_map, List.length_take]; exact small1000 (by have : i < z.length := hi; omega)) (take_map (f := fun c => V.bl (decide (c ∈ tl smallS))) (get_tl hc))
          · intro H1 p
            walk_at "rd"
            refine ⟨D, _, rfl, SqL.of (by rw [p.at_, all_take]), ?_⟩
            have q := k H1 p.kx
            have e : nameV (.str z) = ((tl z).map fun c => decide (c ∈ tl smallS)).all id := by
              show nameS z = _
              unfold nameS
              have h3' : keptL.contains z = false := by simpa using h3
              rw [h3', List.all_map]
              simp [g1, g2]
              try rfl
            rw [e] at q
            exact q
    · have g1 : ¬ 1 ≤ z.length := fun z1 => h1 (decide_eq_true (by omega))
      walk_at "rd"
      refine iteT ?_
      walk_at "rd"
      refine iteT ?_
      walk_at "rd"
      exact no (by unfold nameS; simp [g1])
theorem ok_is_text (T : TxK P K mg kept smt M C fI cc F) : FnAt P w K mg base CX0 1 "is_text" ["thing"] (sp_text K) := by
  refine FnAt.mk T.d_is_text (fun _ _ _ _ _ _ us hl => match us, hl with | [_], _ => rfl) fun f fd F => ?_
  refine F.ok sc_is_text (fun vs H Q E h => by obtain ⟨x, rfl, _⟩ := h; rfl) (fun cdv A outer s H vs Q E hr h => ?_)
  obtain ⟨x, rfl, ⟨t, ht, hk, hx⟩, k⟩ := h
  refine ⟨_, (pss_one (ps_ret (pe_and (pe_callB call_isi rfl T.b_isinstance (by decide +kernel) (pa_cons (pv 0) (pa_cons (pe_bltn (v := .ty "str") rfl T.b_str (by decide +kernel) rfl) pa_nil))) (pe_one (pe_callB (cr_all rfl) rfl T.b_all (by decide +kernel) (pa_cons (pe_lc (own := [("sign", 1)]) (by rfl) sc_is_text.nd (pi_str (pv 0)) (blkOk_by (own := [("sign", 1)]) (N := ["thing", "sign"]) (sc := defScope s_is_text) (by decide +kernel)) (fun _ _ _ _ _ => (pg_name (i := 1) sc_is_text.nd rfl (by first | exact Or.inl rfl | exact Or.inr rfl))) (fun _ _ _ _ _ => pts_nil) (fun _ _ _ _ _ => (pe_or (pe_cmpR op_eq (pv 1) pe_str (nomark _)) (pe_one (pe_chain op_le_str op_le_str pe_str (pv 1) pe_str))))) pa_nil)))))), ?_⟩
  walk_at "go"
  refine ⟨x, _, t, _, _, rfl, .ty _, ht, hk, ?_⟩
  walk_at "rd"
  cases hs : isS x with
  | false =>
    refine iteF ?_
    have q := k H Kx.refl
    rw [(isS_no hs).2] at q
    exact q
  | true =>
    obtain ⟨z, rfl⟩ := isS_yes hs
    obtain ⟨hz, _⟩ := hx z rfl
    have hz2 : z.length < sizeLine := by rw [sizeLine_eq]; omega
    refine iteT ?_
    walk_at "rd"
    refine ⟨z, rfl, ?_⟩
    intro D hD
    refine lc_src src_str (fun i H1 => PvF H D [] (((tl z).take i).map fun c => V.bl (c == 10 || (decide (32 ≤ c) && decide (c ≤ 126)))) H1) (PvF.zero hD (by simp)) (fun _ _ _ _ => trivial) ?_ ?_
    · rintro i x H1 H2 hi ⟨rfl, c, hc, rfl⟩ p
      have fin : ∀ b : Bool, (c == 10 || (decide (32 ≤ c) && decide (c ≤ 126))) = b → ∃ acc, H2 D = some (.lst acc) ∧ acc.length < sizeLine ∧ PvF H D [] (((tl z).take (i + 1)).map fun c => V.bl (c == 10 || (decide (32 ≤ c) && decide (c ≤ 126)))) (upd H2 D (.lst (acc ++ [V.bl b]))) := fun b e => by
        rw [← e]
        exact p.yes hD Kx.refl (by rw [List.length_map, List.length_take]; have : i < z.length := hi; omega) (take_map (f := fun c => V.bl (c == 10 || (decide (32 ≤ c) && decide (c ≤ 126)))) (get_tl hc))
      walk_at "lc"
      refine ⟨rfl, ?_⟩
      walk_at "rd"
      refine iteT ?_
      walk_at "rd"
      refine ite2 (fun h1 => ?_) (fun h1 => ?_)
      · have e : c = 10 := (sgn_eq tl_nl).mp (of_decide_eq_true h1)
        exact fin true (by simp [e])
      · have e : ¬ c = 10 := fun z1 => h1 (decide_eq_true ((sgn_eq tl_nl).mpr z1))
        walk_at "rd"
        refine ⟨_, _, rfl, rfl, ?_⟩
        rw [sgn_lt tl_sp]
        walk_at "rd"
        refine ite2 (fun h2 => ?_) (fun h2 => ?_)
        · have e2 : 32 ≤ c := by simpa using h2
          walk_at "rd"
          refine ⟨_, _, rfl, rfl, ?_⟩
          rw [sgn_gt tl_tilde]
          exact fin _ (by
            rw [Bool.eq_iff_iff]
            simp [e, e2])
        · have e2 : ¬ 32 ≤ c := by simpa using h2
          exact fin false (by simp [e, e2])
    · intro H1 p
      walk_at "rd"
      refine ⟨D, _, rfl, SqL.of (by rw [p.at_, all_take]), ?_⟩
      have q := k H1 p.kx
      have e : textV (.str z) = ((tl z).map fun c => (c == 10 || (decide (32 ≤ c) && decide (c ≤ 126)))).all id := by
        show textS z = _
        unfold textS
        rw [List.all_map]
        rfl
      rw [e] at q
      exact q
theorem ok__law_reserved (T : TxK P K mg kept smt M C fI cc F) : FnAt P w K mg base CX0 1 "_law_reserved" [] sp_reserved := by
  refine FnAt.mk T.d__law_reserved (fun _ _ _ _ _ _ us hl => match us, hl with | [], _ => rfl) fun f fd F => ?_
  refine F.ok sc__law_reserved (fun vs H Q E h => by obtain ⟨rfl, _⟩ := h; rfl) (fun cdv A outer s H vs Q E hr h => ?_)
  obtain ⟨rfl, k⟩ := h
  refine ⟨_, (pss_cons (ps_set (i := 0) sc__law_reserved.nd rfl (by first | exact Or.inl rfl | exact Or.inr rfl) (pe_lst (pa_cons pe_str (pa_cons pe_str (pa_cons pe_str (pa_cons pe_str (pa_cons pe_str (pa_cons pe_str (pa_cons pe_str (pa_cons pe_str (pa_cons pe_str (pa_cons pe_str (pa_cons pe_str (pa_cons pe_str (pa_cons pe_str (pa_cons pe_str pa_nil))))))))))))))))
    (pss_cons (ps_set (i := 0) sc__law_reserved.nd rfl (by first | exact Or.inl rfl | exact Or.inr rfl) (pe_op op_cat (pv 0) (pe_lst (pa_cons pe_str (pa_cons pe_str (pa_cons pe_str (pa_cons pe_str (pa_cons pe_str (pa_cons pe_str (pa_cons pe_str (pa_cons pe_str (pa_cons pe_str (pa_cons pe_str (pa_cons pe_str (pa_cons pe_str pa_nil)))))))))))))))
    (pss_one (ps_ret (pe_op op_cat (pv 0) (pe_lst (pa_cons pe_str (pa_cons pe_str (pa_cons pe_str (pa_cons pe_str (pa_cons pe_str (pa_cons pe_str (pa_cons pe_str (pa_cons pe_str (pa_cons pe_str (pa_cons pe_str (pa_cons pe_str pa_nil))))))))))))))))), ?_⟩
  walk_at "go"
  refine ⟨by decide, fun p1 n1 => ?_⟩
  walk_at "rd"
  refine ⟨by decide, fun p2 n2 => ?_⟩
  have e12 : p1 ≠ p2 := fun z => by rw [← z, upd_same] at n2; cases n2
  refine ⟨p1, p2, _, _, rfl, rfl, (by rw [upd_ne e12]; exact upd_same), upd_same, by decide, fun p3 n3 => ?_⟩
  walk_at "rd"
  refine ⟨by decide, fun p4 n4 => ?_⟩
  have e34 : p3 ≠ p4 := fun z => by rw [← z, upd_same] at n4; cases n4
  refine ⟨p3, p4, _, _, rfl, rfl, (by rw [upd_ne e34]; exact upd_same), upd_same, by decide, fun p5 n5 => ?_⟩
  exact k _ p5 (((((Kx.refl.nw n1).nw n2).nw n3).nw n4).nw n5) (((((Kx.refl (S := [])).nw n1).nw n2).nw n3).nw n4 |>.back n5 (by simp)) upd_same
theorem ok__law_is_name (T : TxK P K mg kept smt M C fI cc F) : FnAt P w K mg base CX0 2 "_law_is_name" ["_law_thing"] (sp_name K) := by
  refine FnAt.mk T.d__law_is_name (fun _ _ _ _ _ _ us hl => match us, hl with | [_], _ => rfl) fun f fd F => ?_
  refine F.ok sc__law_is_name (fun vs H Q E h => by obtain ⟨x, rfl, _⟩ := h; rfl) (fun cdv A outer s H vs Q E hr h => ?_)
  obtain ⟨x, rfl, ⟨t, ht, hk, hx⟩, k⟩ := h
  refine ⟨_, (pss_cons (ps_if (PW.pt (pw_or (pt_not (pt_val (pe_callB call_isi rfl T.b_isinstance (by decide +kernel) (pa_cons (pv 0) (pa_cons (pe_bltn (v := .ty "str") rfl T.b_str (by decide +kernel) rfl) pa_nil))))) (pw_or (pt_not (pt_chain op_le op_le pe_int (pe_callB call_len_str rfl T.b_len (by decide +kernel) (pa_cons (pv 0) pa_nil)) pe_int)) (pw_or1 (pt_cmpR op_in_seq (pv 0) (pe_f0 (ok__law_reserved T) (hr.mono (by decide)) rfl) rfl))))) (pss_one (ps_ret pe_bl)) pss_nil)
    (pss_one (ps_ret (pe_cmpR (op_eqD hr.units) (pe_lc (own := [("_law_letter", 1)]) (by rfl) sc__law_is_name.nd (pi_str (pv 0)) (blkOk_by (own := [("_law_letter", 1)]) (N := ["_law_thing", "_law_letter"]) (sc := defScope s__law_is_name) (by decide +kernel)) (fun _ _ _ _ _ => (pg_name (i := 1) sc__law_is_name.nd rfl (by first | exact Or.inl rfl | exact Or.inr rfl))) (fun _ _ _ _ _ => (pts_one (pt_cmpR op_notIn_sign (pv 1) pe_str rfl))) (fun _ _ _ _ _ => (pv 1))) (pe_lst pa_nil) (nomark _))))), ?_⟩
  walk_at "go"
  refine ⟨x, _, t, _, _, rfl, .ty _, ht, hk, ?_⟩
  walk_at "rd"
  cases hs : isS x with
  | false =>
    refine iteT ?_
    walk_at "rd"
    refine iteT ?_
    walk_at "rd"
    have q := k H Kx.refl
    rw [(isS_no hs).1] at q
    exact q
  | true =>
    obtain ⟨z, rfl⟩ := isS_yes hs
    obtain ⟨hz, hA⟩ := hx z rfl
    have hz2 : z.length ≤ sizeLine := by rw [sizeLine_eq]; omega
    refine iteF ?_
    walk_at "rd"
    refine ⟨hz2, ?_⟩
    walk_at "rd"
    have no : nameS z = false → ∀ H', Kx [] H H' → Q (.bl false) H' := fun e H' kx => by
      have q := k H' kx
      rw [show nameV (.str z) = nameS z from rfl, e] at q
      exact q
    refine ite2 (fun h1 => ?_) (fun h1 => ?_)
    · have g1 : 1 ≤ z.length := by have := of_decide_eq_true h1; omega
      walk_at "rd"
      refine ite2 (fun h2 => ?_) (fun h2 => ?_)
      · have g2 : ¬ z.length ≤ 8 := by simp at h2; omega
        refine iteT ?_
        walk_at "rd"
        exact no (by unfold nameS; simp [g2]) _ Kx.refl
      · have g2 : z.length ≤ 8 := by simp at h2; omega
        walk_at "rd"
        refine ⟨rfl, fun H1 p kx hp0 hp => ?_⟩
        refine ⟨p, _, rfl, .inl (SqL.of hp), rfl, flat_strs _, ?_⟩
        rw [inV_strs]
        walk_at "rd"
        refine ite2 (fun h3 => ?_) (fun h3 => ?_)
        · walk_at "rd"
          exact no (by unfold nameS; rw [show keptL.contains z = true from h3]; simp) _ kx
        · walk_at "rd"
          refine ⟨z, rfl, ?_⟩
          intro D hD
          refine lc_src src_str (fun i H2 => PvF H1 D [] (((tl z).take i).filter (fun c => !decide (c ∈ tl smallS)) |>.map fun c => V.str (sgn c)) H2) (PvF.zero hD (by simp)) (fun _ _ _ _ => trivial) ?_ ?_
          · rintro i x H2 H3 hi ⟨rfl, c, hc, rfl⟩ q
            walk_at "lc"
            refine ⟨rfl, ?_⟩
            walk_at "rd"
            refine ⟨c, _, rfl, rfl, ?_⟩
            walk_at "rd"
            refine ite2 (fun h4 => ?_) (fun h4 => ?_)
            · walk_at "rd"
              refine q.yes hD Kx.refl ?_ ?_
              · rw [List.length_map]
                have := List.length_filter_le (fun c => !decide (c ∈ tl smallS)) ((tl z).take i)
                rw [List.length_take] at this
                exact small1000 (by have : i < z.length := hi; omega)
              · rw [← take_flt (p := fun c => !decide (c ∈ tl smallS)) (get_tl hc) h4, List.map_append]
                rfl
            · exact q.no Kx.refl (by rw [take_flt0 (p := fun c => !decide (c ∈ tl smallS)) (get_tl hc) (Bool.eq_false_iff.mpr h4)])
          · rintro H2 q
            walk_at "rd"
            refine ⟨by decide, fun p2 n2 => ?_⟩
            have hD2 : upd H2 p2 (.lst []) D = _ := (upd_ne (ne_of_none q.at_ n2)).trans q.at_
            have hs : ∀ c : Nat, c ∈ ((tl z).take z.cps.size).filter (fun c => !decide (c ∈ tl smallS)) → c < 128 := fun c hc => hA c (List.mem_of_mem_take (List.mem_filter.mp hc).1)
            refine ⟨_, _, .lst (SqL.of hD2) (dp_map (f := fun c => V.str (sgn c)) (g := fun c => PyData.str (sgn c)) (fun c => .str _) _), .lst (SqL.of upd_same) .nil, (Sh.lst (n := 0) fun d hd => ?_).ok (by decide), rfl, ?_⟩
            · obtain ⟨c, hc, rfl⟩ := List.mem_map.mp hd
              exact Sh.str (strOk_asc fun x hx => by
                have e : x = c := by simpa [sgn, tl] using hx
                rw [e]
                exact hs c hc)
            · rw [eqv_nil]
              have q2 := k _ ((kx.trans q.kx).nw (o := .lst []) n2)
              have e : nameV (.str z) = (List.map (fun c => PyData.str (sgn c)) (((tl z).take z.cps.size).filter (fun c => !decide (c ∈ tl smallS)))).isEmpty := by
                show nameS z = _
                unfold nameS
                have h3' : keptL.contains z = false := by simpa using h3
                rw [List.take_of_length_le (by simp [tl]), h3', List.isEmpty_map]
                simp only [g1, g2, decide_true, Bool.not_false, Bool.and_true, Bool.true_and]
                rw [Bool.eq_iff_iff, List.all_eq_true, List.isEmpty_iff, List.filter_eq_nil_iff]
                simp
              rw [e] at q2
              exact q2
    · have g1 : ¬ 1 ≤ z.length := fun z1 => h1 (decide_eq_true (by omega))
      walk_at "rd"
      refine iteT ?_
      walk_at "rd"
      refine iteT ?_
      walk_at "rd"
      exact no (by unfold nameS; simp [g1]) _ Kx.refl
end
end My

set_option Elab.async false
set_option linter.all false
set_option maxRecDepth 100000
set_option maxHeartbeats 4000000
namespace My
open PySem L2 TL
instance {z : Str} : Decidable (Asc z) := inferInstanceAs (Decidable (∀ x ∈ tl z, x < 128))
def okc (c : Nat) : Bool := c == 10 || (decide (32 ≤ c) && decide (c ≤ 126))
/-- a text -/
def Tx (z : Str) : Prop := ∀ x ∈ tl z, okc x = true
instance {z : Str} : Decidable (Tx z) := inferInstanceAs (Decidable (∀ x ∈ tl z, okc x = true))
theorem Tx.asc {z : Str} (h : Tx z) : Asc z := fun x hx => by
  have := h x hx
  simp only [okc, Bool.or_eq_true, beq_iff_eq, Bool.and_eq_true, decide_eq_true_eq] at this
  omega
theorem Tx.text {z : Str} (h : Tx z) : textS z = true := List.all_eq_true.mpr h
theorem kept_ok : ∀ z ∈ keptL, (1 ≤ z.length ∧ z.length ≤ 8) ∧ Tx z := by decide +kernel
theorem small_ok : tl smallS = (List.range 26).map (· + 97) := by decide +kernel
theorem strs_at {ys : List Str} {i : Nat} {x : V} (h : (ys.map V.str)[i]? = some x) : ∃ z, z ∈ ys ∧ x = .str z := by
  have hm := List.mem_of_getElem? h
  obtain ⟨z, hz, rfl⟩ := List.mem_map.mp hm
  exact ⟨z, hz, rfl⟩
theorem Draw.fresh {H : Hp} {d w c p : Addr} {n : Nat} (D : Draw H d w c n) (h : H p = none) : p ≠ d ∧ p ≠ w ∧ p ≠ c := by
  obtain ⟨ws, cs, r, t, h1, h2, h3, _⟩ := D.ex
  exact ⟨(ne_of_none h1 h).symm, (ne_of_none h2 h).symm, (ne_of_none h3 h).symm⟩
theorem Draw.there {H : Hp} {d w c : Addr} {n : Nat} (D : Draw H d w c n) : ∀ z ∈ [d, w], H z ≠ none := by
  obtain ⟨ws, cs, r, t, h1, h2, h3, _⟩ := D.ex
  intro z hz
  simp only [List.mem_cons, List.not_mem_nil, or_false] at hz
  rcases hz with rfl | rfl
  · rw [h1]; simp
  · rw [h2]; simp
/-- s * n -/
theorem op_mulS {X : Cx} : OpR X (binaryOp .Mult) (fun x y H Q => ∃ (a : Str) (n : Int), x = .str a ∧ y = .int n ∧ 1 < n ∧ n ≤ 1000 ∧ a.length ≤ 1000 ∧ a.length ≠ 0 ∧ Q (.str ⟨(List.replicate n.toNat a.cps).foldl (· ++ ·) #[]⟩) H) := by
  intro pins s σ H x y v u Q I rx ry h
  obtain ⟨a, n, rfl, rfl, h1, h2, h3, h4, q⟩ := h
  obtain ⟨t, rfl⟩ := rx
  obtain ⟨t', rfl⟩ := ry
  have e1 : ¬ n < 1 := by omega
  have e2 : (n == 1 || a.length == 0) = false := by
    have : ¬ n = 1 := by omega
    simp [this, h4]
  have hm : a.length * n.toNat ≤ 1000 * 1000 := Nat.mul_le_mul h3 (by omega)
  have hlen : ∀ (k : Nat) (acc : Array Nat), ((List.replicate k a.cps).foldl (· ++ ·) acc).size = acc.size + k * a.length := by
    intro k
    induction k with
    | zero => intro acc; simp
    | succ k ih =>
      intro acc
      rw [List.replicate_succ, List.foldl_cons, ih, Array.size_append, Nat.succ_mul]
      show acc.size + a.length + _ = _
      omega
  refine P.mul_str ?_ (fun _ _ => ?_) (fun _ _ => ?_) ?_
  · rw [decide_eq_false (by omega), decide_eq_false (by omega)]; rfl
  · have : (2 ^ 63 - 1 : Int) / n ≥ 1000 := by
      rw [ge_iff_le, Int.le_ediv_iff_mul_le (by omega)]
      have : 1000 * n ≤ 1000000 := by omega
      omega
    omega
  · unfold Builtin.Str.tooLong
    rw [decide_eq_false_iff_not, sizeLine_eq]
    omega
  · rw [if_neg e1, if_neg (by rw [e2]; simp)]
    refine ⟨?_, ⟨.str _, H, I.tok _, ⟨_, rfl⟩, q⟩⟩
    show ((List.replicate n.toNat a.cps).foldl (· ++ ·) #[]).size ≤ sizeLine
    rw [hlen, sizeLine_eq]
    have := Nat.mul_comm a.length n.toNat
    simp
    omega
theorem tx_app {a b : Str} (h1 : Tx a) (h2 : Tx b) : Tx (a ++ b) := fun x hx => by
  rw [tl_append] at hx
  rcases List.mem_append.mp hx with h | h
  · exact h1 x h
  · exact h2 x h
theorem tx_sgn {c : Nat} (h : okc c = true) : Tx (sgn c) := fun x hx => by
  have e : x = c := by simpa [sgn, tl] using hx
  rw [e]
  exact h
theorem tx_cut {z : Str} {lo hi : Option Int} (h : Tx z) : Tx (cutS z lo hi) := fun x hx => by
  refine h x ?_
  have e : tl (cutS z lo hi) = ((z.cps.toList.drop (HT.sIx z.length 0 lo)).take (HT.sIx z.length z.length hi - HT.sIx z.length 0 lo)) := by simp [tl, cutS]
  rw [e] at hx
  exact List.mem_of_mem_drop (List.mem_of_mem_take hx)
theorem len_cut {z : Str} {lo hi : Option Int} : (cutS z lo hi).length ≤ z.length := by
  show (cutS z lo hi).cps.size ≤ z.cps.size
  simp only [cutS, List.size_toArray, List.length_take, List.length_drop, Array.length_toList]
  omega
theorem asc_up : ∀ c : Nat, c < 128 → ∀ x ∈ Unicode.upperOf c, x < 128 := by decide +kernel
theorem asc_upper {z : Str} (h : Asc z) : Asc (Txt.upper z) := fun x hx => by
  have hx2 : x ∈ (placed z fun _ c => Unicode.upperOf c).toList := hx
  rw [Array.mem_toList_iff] at hx2
  unfold placed at hx2
  obtain ⟨ys, hys, hxy⟩ := Array.mem_flatten.mp hx2
  obtain ⟨i, hi, e⟩ := Array.mem_iff_getElem.mp hys
  rw [Array.getElem_mapIdx] at e
  subst e
  exact asc_up (z.cps[i]'(by simpa using hi)) (h _ (by simp [tl])) x (by simpa using hxy)
theorem joinL_nil : ∀ ps : List (List Nat), joinL [] ps = ps.flatten
  | [] => rfl
  | [p] => by simp [joinL]
  | p :: q :: r => by
    show p ++ ([] ++ joinL [] (q :: r)) = _
    rw [joinL_nil (q :: r)]
    simp
theorem tl_empty : tl ("" : Str) = [] := by first | rfl | decide +kernel
theorem tl_join0 (ys : List Str) : tl (Txt.join ("" : Str) ys) = (ys.map tl).flatten := by
  rw [join_eq, tl_join, tl_empty, joinL_nil]
theorem len_join0 {N : Nat} {ys : List Str} (h : ∀ y ∈ ys, y.length ≤ N) : (Txt.join ("" : Str) ys).length ≤ ys.length * N ∧ (ys.map (·.length)).sum ≤ ys.length * N := by
  rw [len_tl, tl_join0, List.length_flatten, List.map_map]
  have e : (List.length ∘ tl) = fun y : Str => y.length := by
    funext y
    exact (len_tl y).symm
  rw [e]
  have : (ys.map (·.length)).sum ≤ ys.length * N := by
    induction ys with
    | nil => simp
    | cons y r ih =>
      have h1 := h y (by simp)
      have h2 := ih fun z hz => h z (by simp [hz])
      simp only [List.map_cons, List.sum_cons, List.length_cons, Nat.succ_mul]
      omega
  exact ⟨this, this⟩
theorem tx_join {ys : List Str} (h : ∀ y ∈ ys, Tx y) : Tx (Txt.join ("" : Str) ys) := fun x hx => by
  rw [tl_join0] at hx
  obtain ⟨l, hl, hxl⟩ := List.mem_flatten.mp hx
  obtain ⟨y, hy, rfl⟩ := List.mem_map.mp hl
  exact h y hy x hxl
def sp_any : Sp := fun vs H Q _ => ∃ (d w c : Addr) (n : Nat), vs = [.ref d] ∧ Draw H d w c n ∧ w ≠ c ∧ n + 50 ≤ lim ∧ ∀ (H' : Hp) (z : Str), Kx [d, w] H H' → Draw H' d w c (n + 50) → Tx z → z.length ≤ 10 → Q (.str z) H'
def sp_piece : Sp := fun vs H Q _ => ∃ (d w c : Addr) (n : Nat), vs = [.ref d] ∧ Draw H d w c n ∧ w ≠ c ∧ n + 60 ≤ lim ∧ ∀ (H' : Hp) (z : Str), Kx [d, w] H H' → Draw H' d w c (n + 60) → Tx z → z.length ≤ 10 → Q (.str z) H'
section
variable {P : Program} {w : World} {K : PySem.W.Frag} {mg : Str → Option Value} {base : Heap} {kept : Addr} {smt : Tok} {M C fI cc : Addr} {F : NdefX.NF}
theorem ok__law_any_name (T : TxK P K mg kept smt M C fI cc F) : FnAt P w K mg base CX0 4 "_law_any_name" ["_law_draw"] sp_any := by
  refine FnAt.mk T.d__law_any_name (fun _ _ _ _ _ _ us hl => match us, hl with | [_], _ => rfl) fun f fd F => ?_
  refine F.ok sc__law_any_name (fun vs H Q E h => by obtain ⟨d, w, c, n, rfl, _⟩ := h; rfl) (fun cdv A outer s H vs Q E hr h => ?_)
  obtain ⟨d, w, c, n, rfl, D, hwc, hn, k⟩ := h
  refine ⟨_, (pss_cons (ps_asg (pe_tup (pa_cons pe_str (pa_cons (pe_f (ok__law_take T.D) (hr.mono (by decide)) rfl (pa_cons (pv 0) (pa_cons pe_int pa_nil))) pa_nil))) (pg_tup (by rfl) (pgs_cons (pg_name (i := 1) sc__law_any_name.nd rfl (by first | exact Or.inl rfl | exact Or.inr rfl)) (pgs_cons (pg_name (i := 2) sc__law_any_name.nd rfl (by first | exact Or.inl rfl | exact Or.inr rfl)) pgs_nil))))
    (pss_cons (ps_if (pt_cmpR op_lt (pv 2) pe_int (nomark _)) (pss_cons (ps_set (i := 3) sc__law_any_name.nd rfl (by first | exact Or.inl rfl | exact Or.inr rfl) (pe_f (ok__law_pick T.D) (hr.mono (by decide)) rfl (pa_cons (pv 0) (pa_cons (pe_f0 (ok__law_reserved T) (hr.mono (by decide)) rfl) pa_nil))))
    (pss_one (ps_ret (pe_ifExp (PW.pt (pw_or (pt_cmpR op_eq (pv 2) pe_int (nomark _)) (pw_or1 (pt_cmpR op_eq (pe_callB call_len_str rfl T.b_len (by decide +kernel) (pa_cons (pv 3) pa_nil)) pe_int (nomark _))))) (pe_slice sl_str (pv 3) po_none (po_some (pe_un un_neg pe_int))) (pe_op op_add_str (pv 3) (pe_ix ix_str (pv 1) (pe_f (ok__law_take T.D) (hr.mono (by decide)) rfl (pa_cons (pv 0) (pa_cons pe_int pa_nil))) (fun _ _ => rfl))))))) pss_nil)
    (pss_one (ps_ret (pe_join pe_str (pe_lc (own := [("_law_k", 4)]) (by rfl) sc__law_any_name.nd (pi_range1 rfl T.b_range (pa_cons (pe_f (ok__law_pick T.D) (hr.mono (by decide)) rfl (pa_cons (pv 0) (pa_cons (pe_lst (pa_cons pe_int (pa_cons pe_int (pa_cons pe_int (pa_cons pe_int (pa_cons pe_int (pa_cons pe_int (pa_cons pe_int (pa_cons pe_int (pa_cons pe_int (pa_cons pe_int (pa_cons pe_int pa_nil)))))))))))) pa_nil))) pa_nil)) (blkOk_by (own := [("_law_k", 4)]) (N := ["_law_draw", "_law_letters", "_law_way", "_law_word", "_law_k"]) (sc := defScope s__law_any_name) (by decide +kernel)) (fun _ _ _ _ _ => (pg_name (i := 4) sc__law_any_name.nd rfl (by first | exact Or.inl rfl | exact Or.inr rfl))) (fun _ _ _ _ _ => pts_nil) (fun _ _ _ _ _ => (pe_ix ix_str (pv 1) (pe_f (ok__law_take T.D) (hr.mono (by decide)) rfl (pa_cons (pv 0) (pa_cons pe_int pa_nil))) (fun _ _ => rfl))))))))), ?_⟩
  walk_at "go"
  refine ⟨d, w, c, n, 12, rfl, D, hwc, by unfold lim at *; omega, by decide, by decide, fun H1 r k1 D1 r0 r1 => ?_⟩
  walk_at "rd"
  intro H1b k1b
  replace D1 := D1.keep k1b (Nat.le_refl _)
  replace k1 := k1.trans (k1b.mono (by simp))
  walk_at "rd"
  refine ite2 (fun h1 => ?_) (fun h1 => ?_)
  · walk_at "rd"
    refine ⟨rfl, fun H2 p k2 hp0 hp => ?_⟩
    have fr := D1.fresh hp0
    refine ⟨d, w, c, p, n + 1, _, rfl, D1.keep k2 (Nat.le_refl _), hwc, by unfold lim at *; omega, SqL.of hp, fr.1, fr.2.1, by decide, by decide, fun H3 i x k3 D3 hx => ?_⟩
    obtain ⟨z, hz, rfl⟩ := strs_at hx
    obtain ⟨⟨hz1, hz2⟩, hz3⟩ := kept_ok z hz
    have hz4 : z.length ≤ sizeLine := by rw [sizeLine_eq]; omega
    have k03 : Kx [d, w] H H3 := (k1.trans (k2.mono (by simp))).trans k3
    have cut : ∀ hi, Q (.str (cutS z none hi)) H3 := fun hi => k _ _ k03 (D3.keep Kx.refl (by omega)) (tx_cut hz3) (by have := len_cut (z := z) (lo := none) (hi := hi); omega)
    walk_at "rd"
    refine ite2 (fun h2 => ?_) (fun h2 => ?_)
    · refine iteT ?_
      walk_at "rd"
      exact ⟨z, rfl, hz4, cut _⟩
    · walk_at "rd"
      refine ⟨hz4, ?_⟩
      walk_at "rd"
      refine ite2 (fun h3 => ?_) (fun h3 => ?_)
      · walk_at "rd"
        exact ⟨z, rfl, hz4, cut _⟩
      · walk_at "rd"
        refine ⟨d, w, c, n + 2, 26, rfl, D3.keep Kx.refl (by omega), hwc, by unfold lim at *; omega, by decide, by decide, fun H4 r2 k4 D4 r3 r4 => ?_⟩
        obtain ⟨j, rfl⟩ := Int.eq_ofNat_of_zero_le r3
        have hj : j < (tl smallS).length := by rw [small_ok]; simp; omega
        have e := List.getElem?_eq_getElem hj
        have hc : okc (tl smallS)[j] = true := by
          have : ∀ c ∈ tl smallS, okc c = true := by decide +kernel
          exact this _ (List.getElem_mem hj)
        refine ⟨smallS, _, (tl smallS)[j], rfl, rfl, by decide, atI_nat e, ?_⟩
        refine ⟨z, _, rfl, rfl, by rw [sizeLine_eq]; show z.length + 1 ≤ _; omega, ?_⟩
        refine k _ _ (k03.trans k4) (D4.keep Kx.refl (by omega)) (tx_app hz3 (tx_sgn hc)) ?_
        rw [Str.length_append]
        show z.length + 1 ≤ 10
        omega
  · walk_at "rd"
    refine ⟨by decide, fun p hp0 => ?_⟩
    have fr := D1.fresh hp0
    refine ⟨d, w, c, p, n + 1, _, rfl, D1.keep (Kx.refl.nw hp0) (Nat.le_refl _), hwc, by unfold lim at *; omega, SqL.of upd_same, fr.1, fr.2.1, by decide, by decide, fun H3 i x k3 D3 hx => ?_⟩
    obtain ⟨m, rfl, hm⟩ := pick_ints (ns := [1, 1, 1, 2, 2, 3, 4, 5, 6, 7, 8]) (fun j => decide (1 ≤ j) && decide (j ≤ 8)) (by decide) hx
    simp only [Bool.and_eq_true, decide_eq_true_eq] at hm
    have k03 : Kx [d, w] H H3 := (k1.nw hp0).trans k3
    walk_at "rd"
    refine ⟨by omega, by omega, fun L hL => ?_⟩
    refine lc_src src_range (fun i H4 => ∃ ys : List Str, PvF H3 L [d, w] (ys.map V.str) H4 ∧ ys.length = i ∧ Draw H4 d w c (n + 2 + i) ∧ ∀ y ∈ ys, Tx y ∧ y.length ≤ 1) ⟨[], PvF.zero hL D3.there, rfl, D3.keep (Kx.refl.nw hL) (by omega), by simp⟩ (fun _ _ _ _ => trivial) ?_ ?_
    · rintro i x H4 H5 hi ⟨rfl, rfl⟩ ⟨ys, p1, e1, D4, hys⟩
      walk_at "lc"
      refine ⟨rfl, ?_⟩
      walk_at "rd"
      refine iteT ?_
      walk_at "rd"
      refine ⟨d, w, c, n + 2 + i, 26, rfl, D4, hwc, by unfold lim at *; omega, by decide, by decide, fun H6 r2 k4 D6 r3 r4 => ?_⟩
      obtain ⟨j, rfl⟩ := Int.eq_ofNat_of_zero_le r3
      have hj : j < (tl smallS).length := by rw [small_ok]; simp; omega
      have e := List.getElem?_eq_getElem hj
      have hc : okc (tl smallS)[j] = true := by
        have : ∀ c ∈ tl smallS, okc c = true := by decide +kernel
        exact this _ (List.getElem_mem hj)
      refine ⟨smallS, _, (tl smallS)[j], rfl, rfl, by decide, atI_nat e, ?_⟩
      obtain ⟨acc, q1, q2, q3⟩ := p1.yes (L' := (ys ++ [sgn (tl smallS)[j]]).map V.str) hL k4 (by rw [List.length_map]; exact small1000 (by omega)) (by rw [List.map_append]; rfl)
      have frL := D6.ne
      have hLd := (D3.fresh hL)
      refine ⟨acc, q1, q2, _, q3, by simp [e1], ?_, ?_⟩
      · obtain ⟨ws, cs, r, t, h1, h2, h3, h4⟩ := D6.ex
        exact ⟨ws, cs, r, t, by rw [upd_ne hLd.1.symm]; exact h1, by rw [upd_ne hLd.2.1.symm]; exact h2, by rw [upd_ne hLd.2.2.symm]; exact h3, by omega⟩
      · intro y hy
        rcases List.mem_append.mp hy with hy | hy
        · exact hys y hy
        · have : y = sgn (tl smallS)[j] := by simpa using hy
          subst this
          exact ⟨tx_sgn hc, by show 1 ≤ 1; omega⟩
    · rintro H4 ⟨ys, p1, e1, D4, hys⟩
      have hn8 : ys.length ≤ 8 := by omega
      have hl := len_join0 (N := 1) fun y hy => (hys y hy).2
      refine ⟨_, L, ys, rfl, rfl, .inl (SqL.of p1.at_), ?_, ?_⟩
      · have : ("" : Str).length = 0 := by decide
        rw [this]
        omega
      · exact k _ _ (k03.trans p1.kx) (D4.keep Kx.refl (by omega)) (tx_join fun y hy => (hys y hy).1) (by omega)
def signS : Str := "!\"#$&'()*+,-./0123456789:;<=>?@ABCDEFGHIJKLMNOPQRSTUVWXYZ[\\]^_`abcdefghijklmnopqrstuvwxyz{|}~"
theorem sign_ok : (tl signS).length = 93 ∧ (∀ c ∈ tl signS, okc c = true) ∧ signS.length = 93 := by decide +kernel
theorem ok__law_piece (T : TxK P K mg kept smt M C fI cc F) : FnAt P w K mg base CX0 5 "_law_piece" ["_law_draw"] sp_piece := by
  refine FnAt.mk T.d__law_piece (fun _ _ _ _ _ _ us hl => match us, hl with | [_], _ => rfl) fun f fd F => ?_
  refine F.ok sc__law_piece (fun vs H Q E h => by obtain ⟨d, w, c, n, rfl, _⟩ := h; rfl) (fun cdv A outer s H vs Q E hr h => ?_)
  obtain ⟨d, w, c, n, rfl, D, hwc, hn, k⟩ := h
  refine ⟨_, (pss_cons (ps_set (i := 1) sc__law_piece.nd rfl (by first | exact Or.inl rfl | exact Or.inr rfl) pe_str)
    (pss_cons (ps_set (i := 2) sc__law_piece.nd rfl (by first | exact Or.inl rfl | exact Or.inr rfl) (pe_f (ok__law_take T.D) (hr.mono (by decide)) rfl (pa_cons (pv 0) (pa_cons pe_int pa_nil))))
    (pss_cons (ps_if (pt_cmpR op_lt (pv 2) pe_int (nomark _)) (pss_one (ps_ret (pe_f (ok__law_any_name T) (hr.mono (by decide)) rfl (pa_cons (pv 0) pa_nil)))) pss_nil)
    (pss_cons (ps_if (pt_cmpR op_lt (pv 2) pe_int (nomark _)) (pss_one (ps_ret (pe_f (ok__law_pick T.D) (hr.mono (by decide)) rfl (pa_cons (pv 0) (pa_cons (pe_lst (pa_cons pe_str (pa_cons pe_str (pa_cons pe_str (pa_cons pe_str (pa_cons pe_str (pa_cons pe_str (pa_cons pe_str pa_nil)))))))) pa_nil))))) pss_nil)
    (pss_cons (ps_if (pt_cmpR op_eq (pv 2) pe_int (nomark _)) (pss_one (ps_ret (pe_f (ok__law_pick T.D) (hr.mono (by decide)) rfl (pa_cons (pv 0) (pa_cons (pe_f0 (ok__law_reserved T) (hr.mono (by decide)) rfl) pa_nil))))) pss_nil)
    (pss_one (ps_ret (pe_op op_add_str (pe_ix ix_str (pv 1) (pe_f (ok__law_take T.D) (hr.mono (by decide)) rfl (pa_cons (pv 0) (pa_cons (pe_callB call_len_str rfl T.b_len (by decide +kernel) (pa_cons (pv 1) pa_nil)) pa_nil))) (fun _ _ => rfl)) (pe_ifExp (pt_cmpR op_eq (pv 2) pe_int (nomark _)) (pe_ix ix_str (pv 1) (pe_f (ok__law_take T.D) (hr.mono (by decide)) rfl (pa_cons (pv 0) (pa_cons (pe_callB call_len_str rfl T.b_len (by decide +kernel) (pa_cons (pv 1) pa_nil)) pa_nil))) (fun _ _ => rfl)) pe_str))))))))), ?_⟩
  walk_at "go"
  have hlim : n + 60 ≤ lim := hn
  refine ⟨d, w, c, n, 8, rfl, D, hwc, by omega, by decide, by decide, fun H1 r k1 D1 r0 r1 => ?_⟩
  walk_at "rd"
  refine ite2 (fun h1 => ?_) (fun h1 => ?_)
  · walk_at "rd"
    exact ⟨d, w, c, n + 1, rfl, D1, hwc, by omega, fun H2 z k2 D2 a1 a2 => k _ _ (k1.trans k2) (D2.keep Kx.refl (by omega)) a1 a2⟩
  · walk_at "rd"
    refine ite2 (fun h2 => ?_) (fun h2 => ?_)
    · walk_at "rd"
      refine ⟨by decide, fun p hp0 => ?_⟩
      have fr := D1.fresh hp0
      refine ⟨d, w, c, p, n + 1, _, rfl, D1.keep (Kx.refl.nw hp0) (Nat.le_refl _), hwc, by omega, SqL.of upd_same, fr.1, fr.2.1, by decide, by decide, fun H3 i x k3 D3 hx => ?_⟩
      obtain ⟨z, rfl, hz⟩ := pick_strs (ys := [" ", " ", "\n", "  ", " \n", "\n\n", "      "]) (fun z => decide (Tx z) && decide (z.length ≤ 10)) (by decide +kernel) hx
      simp only [Bool.and_eq_true, decide_eq_true_eq] at hz
      exact k _ _ ((k1.nw hp0).trans k3) (D3.keep Kx.refl (by omega)) hz.1 hz.2
    · walk_at "rd"
      refine ite2 (fun h3 => ?_) (fun h3 => ?_)
      · walk_at "rd"
        refine ⟨rfl, fun H2 p k2 hp0 hp => ?_⟩
        have fr := D1.fresh hp0
        refine ⟨d, w, c, p, n + 1, _, rfl, D1.keep k2 (Nat.le_refl _), hwc, by omega, SqL.of hp, fr.1, fr.2.1, by decide, by decide, fun H3 i x k3 D3 hx => ?_⟩
        obtain ⟨z, hz, rfl⟩ := strs_at hx
        obtain ⟨⟨hz1, hz2⟩, hz3⟩ := kept_ok z hz
        exact k _ _ ((k1.trans (k2.mono (by simp))).trans k3) (D3.keep Kx.refl (by omega)) hz3 (by omega)
      · walk_at "rd"
        have hs : signS.length ≤ sizeLine := by decide
        have pick : ∀ (r : Int), 0 ≤ r → r < 93 → ∃ c, atI signS.cps.toList r = some c ∧ okc c = true := fun r h0 h1 => by
          obtain ⟨j, rfl⟩ := Int.eq_ofNat_of_zero_le h0
          have hj : j < (tl signS).length := by rw [sign_ok.1]; omega
          exact ⟨_, atI_nat (List.getElem?_eq_getElem hj), sign_ok.2.1 _ (List.getElem_mem hj)⟩
        refine ⟨hs, ?_⟩
        walk_at "rd"
        refine ⟨d, w, c, n + 1, 93, rfl, D1, hwc, by omega, by decide, by decide, fun H2 r2 k2 D2 r3 r4 => ?_⟩
        obtain ⟨c1, e1, hc1⟩ := pick r2 r3 r4
        refine ⟨signS, _, c1, rfl, rfl, hs, e1, ?_⟩
        walk_at "rd"
        refine ite2 (fun h4 => ?_) (fun h4 => ?_)
        · walk_at "rd"
          refine ⟨hs, ?_⟩
          walk_at "rd"
          refine ⟨d, w, c, n + 2, 93, rfl, D2, hwc, by omega, by decide, by decide, fun H3 r5 k3 D3 r6 r7 => ?_⟩
          obtain ⟨c2, e2, hc2⟩ := pick r5 r6 r7
          refine ⟨signS, _, c2, rfl, rfl, hs, e2, ?_⟩
          refine ⟨_, _, rfl, rfl, by rw [sizeLine_eq]; show 1 + 1 ≤ _; decide, ?_⟩
          exact k _ _ ((k1.trans k2).trans k3) (D3.keep Kx.refl (by omega)) (tx_app (tx_sgn hc1) (tx_sgn hc2)) (by rw [Str.length_append]; show 1 + 1 ≤ 10; decide)
        · walk_at "rd"
          have e0 : ("" : Str).length = 0 := by decide
          refine ⟨_, _, rfl, rfl, by rw [e0, sizeLine_eq]; show 1 + 0 ≤ _; decide, ?_⟩
          exact k _ _ (k1.trans k2) (D2.keep Kx.refl (by omega)) (tx_app (tx_sgn hc1) (by decide)) (by rw [Str.length_append, e0]; show 1 + 0 ≤ 10; decide)
end
end My

set_option Elab.async false
set_option linter.all false
set_option maxRecDepth 100000
set_option maxHeartbeats 4000000
namespace My
open PySem L2 TL
/-- asked about texts of at most so many signs -/
def sp_walked : Sp := fun vs H Q _ => ∃ z : Str, vs = [.str z] ∧ z.length ≤ 900 ∧ ∀ (H' : Hp) (p : Addr) (xs : List V), Kx [] H H' → H p = none → H' p = some (.lst xs) → WtL H' xs (wl z) → Q (.ref p) H'
section
variable {P : Program} {w : World} {K : PySem.W.Frag} {mg : Str → Option Value} {base : Heap} {kept : Addr} {smt : Tok} {M C fI cc : Addr} {F : NdefX.NF}
/-- the state of the walk behind i signs -/
structure Wlk (z : Str) (H0 : Hp) (L : Addr) (i : Nat) (r c : Nat) (op : Bool) (H : Hp) : Prop where
  ex : ∃ (done : List W3) (cur : List Nat) (xs : List V), done ++ wW ((tl z).drop i) r c cur = wl z ∧ H L = some (.lst xs) ∧ WtL H xs (done ++ wfl cur r c) ∧ op = !cur.isEmpty ∧ cur.length ≤ i ∧ xs.length ≤ i
  kx : Kx [] H0 H
theorem ok__law_walked (T : TxK P K mg kept smt M C fI cc F) : FnAt P w K mg base CX0 1 "_law_walked" ["_law_text"] sp_walked := by
  refine FnAt.mk T.d__law_walked (fun _ _ _ _ _ _ us hl => match us, hl with | [_], _ => rfl) fun f fd F => ?_
  refine F.ok sc__law_walked (fun vs H Q E h => by obtain ⟨z, rfl, _⟩ := h; rfl) (fun cdv A outer s H vs Q E hr h => ?_)
  obtain ⟨z, rfl, hz, k⟩ := h
  refine ⟨_, (pss_cons (ps_asg (pe_tup (pa_cons (pe_lst pa_nil) (pa_cons pe_int (pa_cons pe_int (pa_cons pe_bl pa_nil))))) (pg_tup (by rfl) (pgs_cons (pg_name (i := 1) sc__law_walked.nd rfl (by first | exact Or.inl rfl | exact Or.inr rfl)) (pgs_cons (pg_name (i := 2) sc__law_walked.nd rfl (by first | exact Or.inl rfl | exact Or.inr rfl)) (pgs_cons (pg_name (i := 3) sc__law_walked.nd rfl (by first | exact Or.inl rfl | exact Or.inr rfl)) (pgs_cons (pg_name (i := 4) sc__law_walked.nd rfl (by first | exact Or.inl rfl | exact Or.inr rfl)) pgs_nil))))))
    (pss_cons (ps_for PassesOwn.never rfl (pi_str (pv 0)) (pg_name (i := 5) sc__law_walked.nd rfl (by first | exact Or.inl rfl | exact Or.inr rfl))
    (pss_cons (ps_cut (ps_if (pt_cmpR op_notIn_sign (pv 5) pe_str rfl) (pss_one (ps_if (pt_val (pv 4)) (pss_cons (ps_asg (pe_bm0 PySem.F.plainAttrs_list PySem.F.slot_list_pop PySem.F.type_list_pop mt_pop (pv 1)) (pg_tup (by rfl) (pgs_cons (pg_name (i := 6) sc__law_walked.nd rfl (by first | exact Or.inl rfl | exact Or.inr rfl)) (pgs_cons (pg_name (i := 7) sc__law_walked.nd rfl (by first | exact Or.inl rfl | exact Or.inr rfl)) (pgs_cons (pg_name (i := 8) sc__law_walked.nd rfl (by first | exact Or.inl rfl | exact Or.inr rfl)) pgs_nil)))))
    (pss_one (ps_expr (pe_bm PySem.F.plainAttrs_list PySem.F.slot_list_append PySem.F.type_list_append mt_append (pv 1) (pa_cons (pe_tup (pa_cons (pe_op op_add_str (pv 6) (pv 5)) (pa_cons (pv 7) (pa_cons (pv 8) pa_nil)))) pa_nil))))) (pss_one (ps_expr (pe_bm PySem.F.plainAttrs_list PySem.F.slot_list_append PySem.F.type_list_append mt_append (pv 1) (pa_cons (pe_tup (pa_cons (pv 5) (pa_cons (pv 2) (pa_cons (pv 3) pa_nil)))) pa_nil)))))) pss_nil))
    (pss_cons (ps_set (i := 4) sc__law_walked.nd rfl (by first | exact Or.inl rfl | exact Or.inr rfl) (pe_cmpR op_notIn_sign (pv 5) pe_str rfl))
    (pss_one (ps_asg (pe_ifExp (pt_cmpR op_eq (pv 5) pe_str (nomark _)) (pe_tup (pa_cons (pe_op op_add (pv 2) pe_int) (pa_cons pe_int pa_nil))) (pe_tup (pa_cons (pv 2) (pa_cons (pe_op op_add (pv 3) pe_int) pa_nil)))) (pg_tup (by rfl) (pgs_cons (pg_name (i := 2) sc__law_walked.nd rfl (by first | exact Or.inl rfl | exact Or.inr rfl)) (pgs_cons (pg_name (i := 3) sc__law_walked.nd rfl (by first | exact Or.inl rfl | exact Or.inr rfl)) pgs_nil))))))))
    (pss_one (ps_ret (pv 1))))), ?_⟩
  walk_at "go"
  refine ⟨by decide, fun L hL => ?_⟩
  walk_at "rd"
  intro H1 k1
  walk_at "rd"
  refine ⟨z, rfl, ?_⟩
  refine for_src src_str (fun i σ H' => ∃ (r c : Nat) (op : Bool) (a b e f : Option V), σ = [some (.str z), some (.ref L), some (.int r), some (.int c), some (.bl op), a, b, e, f] ∧ Wlk z H L i r c op H') ⟨1, 1, false, _, _, _, _, rfl, ⟨[], [], [], by simp [wl], k1 _ _ upd_same (by simp), trivial, rfl, Nat.le_refl _, Nat.le_refl _⟩, (Kx.refl.nw hL).trans k1⟩ (fun _ _ _ _ _ => trivial) ?_ ?_
  · rintro i x σ H3 H2 hi ⟨rfl, s0, hs, rfl⟩ ⟨r, c, op, a, b, e, f, rfl, ⟨done, cur, xs, e1, hx, hw, rfl, hc1, hc2⟩, kx⟩
    walk_at "rd"
    have hdrop : (tl z).drop i = s0 :: (tl z).drop (i + 1) := by
      obtain ⟨hlt, e⟩ := List.getElem?_eq_some_iff.mp (get_tl hs)
      rw [← e]
      exact List.drop_eq_getElem_cons hlt
    have hi' : i < z.length := hi
    have es : (" \n" : Str).cps.toList = [32, 10] := by decide +kernel
    have esep : decide (s0 ∈ (" \n" : Str).cps.toList) = (s0 == 32 || s0 == 10) := by
      rw [es, Bool.eq_iff_iff]
      simp
    refine ⟨fun σ H' => ∃ (a b e : Option V) (xs' : List V), σ = [some (.str z), some (.ref L), some (.int r), some (.int c), some (.bl (!cur.isEmpty)), some (.str (sgn s0)), a, b, e] ∧ Kx [] H H' ∧ H' L = some (.lst xs') ∧ xs'.length ≤ i + 1 ∧
      WtL H' xs' (if (s0 == 32 || s0 == 10) = true then done ++ wfl cur r c else done ++ [(cur ++ [s0], r, c - cur.length)]), ?_, ?_⟩
    · walk_at "rd"
      refine ⟨_, _, rfl, rfl, ?_⟩
      rw [esep]
      walk_at "rd"
      refine ite2 (fun h1 => ?_) (fun h1 => ?_)
      · have h1' : (s0 == 32 || s0 == 10) = false := by simpa using h1
        walk_at "rd"
        refine ite2 (fun h2 => ?_) (fun h2 => ?_)
        · have h2' : cur ≠ [] := by simpa using h2
          walk_at "rd"
          refine ⟨.inl ⟨rfl, _, SqL.of hx⟩, ?_⟩
          rw [show wfl cur r c = [(cur, r, c - cur.length)] from if_neg h2'] at hw
          obtain ⟨ys, y, rfl, hw1, ⟨p0, rfl, hp0⟩⟩ := hw.unsnoc
          refine ⟨L, _, .ref p0, rfl, rfl, hx, by simp, ?_⟩
          rw [List.dropLast_concat]
          have hp0L : p0 ≠ L := ne_of hp0 hx (by intro z; cases z)
          refine ⟨p0, _, rfl, SqT.of ((upd_ne hp0L).trans hp0), rfl, ?_⟩
          walk_at "rd"
          refine ⟨.inl ⟨rfl, _, SqL.of upd_same⟩, ?_⟩
          walk_at "rd"
          refine ⟨_, _, rfl, rfl, ?_, ?_⟩
          · rw [sizeLine_eq]
            show (sMk cur).cps.size + 1 ≤ _
            simp [sMk]
            omega
          walk_at "rd"
          refine ⟨lenOk rfl, fun p1 n1 => ?_⟩
          have hL1 : L ≠ p1 := fun z => by rw [← z, upd_same] at n1; cases n1
          have n1' : H2 p1 = none := by rw [upd_ne hL1.symm] at n1; exact n1
          refine ⟨L, ys, .ref p1, rfl, rfl, (upd_ne hL1).trans upd_same, ?_, ?_⟩
          · rw [List.length_append, List.length_singleton] at hc2
            exact small1000 (by omega)
          walk_at "rd"
          have eS : sMk cur ++ sgn s0 = sMk (cur ++ [s0]) := by
            show Str.mk _ = Str.mk _
            simp [sMk, sgn]
          have kt : Kt H2 (upd (upd (upd H2 L (.lst ys)) p1 (.tup [.str (sMk cur ++ sgn s0), .int r, .int ((c - cur.length : Nat) : Int)])) L (.lst (ys ++ [.ref p1]))) := ((Kt.lst hx).trans (Kt.nw n1)).trans (Kt.lst ((upd_ne hL1).trans upd_same))
          refine ⟨_, _, _, _, rfl, ((kx.mu hL).nw n1).mu hL, upd_same, ?_, ?_⟩
          · rw [List.length_append, List.length_singleton] at *
            omega
          · rw [if_neg (by rw [h1']; simp)]
            refine WtL.snoc ⟨p1, rfl, ?_⟩ (hw1.keep kt)
            rw [upd_ne hL1.symm, upd_same, eS]
        · have h2' : cur = [] := by simpa using h2
          subst h2'
          walk_at "rd"
          refine ⟨.inl ⟨rfl, _, SqL.of hx⟩, ?_⟩
          walk_at "rd"
          refine ⟨lenOk rfl, fun p1 n1 => ?_⟩
          have hL1 : L ≠ p1 := ne_of_none hx n1
          refine ⟨L, xs, .ref p1, rfl, rfl, (upd_ne hL1).trans hx, small1000 (by omega), ?_⟩
          walk_at "rd"
          have kt : Kt H2 (upd (upd H2 p1 (.tup [.str (sgn s0), .int r, .int c])) L (.lst (xs ++ [.ref p1]))) := (Kt.nw n1).trans (Kt.lst ((upd_ne hL1).trans hx))
          refine ⟨_, _, _, _, rfl, (kx.nw n1).mu hL, upd_same, ?_, ?_⟩
          · rw [List.length_append, List.length_singleton]
            omega
          · rw [if_neg (by rw [h1']; simp)]
            have hw' : WtL H2 xs done := by simpa [wfl] using hw
            refine WtL.snoc ⟨p1, rfl, ?_⟩ (hw'.keep kt)
            rw [upd_ne hL1.symm, upd_same]
            rfl
      · have h1' : (s0 == 32 || s0 == 10) = true := by
          cases hq : (s0 == 32 || s0 == 10) with
          | true => rfl
          | false => rw [hq] at h1; simp at h1
        walk_at "rd"
        exact ⟨_, _, _, _, rfl, kx, hx, by omega, by rw [if_pos h1']; exact hw⟩
    · rintro σ H3 ⟨a, b, e, xs', rfl, kx3, hx3, hl3, hw3⟩
      walk_at "rd"
      refine ⟨_, _, rfl, rfl, ?_⟩
      rw [esep]
      walk_at "rd"
      have next : ∀ (r' c' : Nat) (H4 : Hp) (σ4 : L2.St), Kx [] H3 H4 → (s0 = 10 → r' = r + 1 ∧ c' = 1) → (s0 ≠ 10 → r' = r ∧ c' = c + 1) → σ4 = [some (.str z), some (.ref L), some (.int r'), some (.int c'), some (.bl (!(s0 == 32 || s0 == 10))), some (.str (sgn s0)), a, b, e] →
          ∃ (r c : Nat) (op : Bool) (a b e f : Option V), σ4 = [some (.str z), some (.ref L), some (.int r), some (.int c), some (.bl op), a, b, e, f] ∧ Wlk z H L (i + 1) r c op H4 := fun r' c' H4 σ4 k4 q1 q2 e4 => by
        refine ⟨r', c', _, _, _, _, _, e4, ?_, kx3.trans k4⟩
        rw [hdrop] at e1
        have hx4 := k4 _ _ hx3 (by simp)
        have hw4 := hw3.keep k4.kt
        by_cases g : s0 = 10
        · obtain ⟨rfl, rfl⟩ := q1 g
          subst g
          refine ⟨done ++ wfl cur r c, [], xs', ?_, hx4, ?_, rfl, Nat.zero_le _, hl3⟩
          · rw [← e1]
            simp [wW]
          · simpa [wfl] using hw4
        · obtain ⟨rfl, rfl⟩ := q2 g
          by_cases g2 : s0 = 32
          · subst g2
            refine ⟨done ++ wfl cur r' c, [], xs', ?_, hx4, ?_, rfl, Nat.zero_le _, hl3⟩
            · rw [← e1]
              simp [wW]
            · simpa [wfl] using hw4
          · have g3 : (s0 == 32 || s0 == 10) = false := by simp [g, g2]
            rw [if_neg (by rw [g3]; simp)] at hw4
            refine ⟨done, cur ++ [s0], xs', ?_, hx4, ?_, by rw [g3]; simp, by rw [List.length_append, List.length_singleton]; omega, hl3⟩
            · rw [← e1]
              simp [wW, g, g2]
            · have : wfl (cur ++ [s0]) r' (c + 1) = [(cur ++ [s0], r', c - cur.length)] := by
                unfold wfl
                rw [if_neg (by simp), List.length_append, List.length_singleton]
                congr 3
                omega
              rw [this]
              exact hw4
      refine ite2 (fun h1 => ?_) (fun h1 => ?_)
      · have g : s0 = 10 := (sgn_eq tl_nl).mp (of_decide_eq_true h1)
        walk_at "rd"
        intro H4 k4
        walk_at "rd"
        exact next (r + 1) 1 _ _ k4 (fun _ => ⟨rfl, rfl⟩) (fun z => absurd g z) rfl
      · have g : s0 ≠ 10 := fun z1 => h1 (decide_eq_true ((sgn_eq tl_nl).mpr z1))
        walk_at "rd"
        intro H4 k4
        walk_at "rd"
        exact next r (c + 1) _ _ k4 (fun z => absurd z g) (fun _ => ⟨rfl, rfl⟩) rfl
  · rintro σ H2 ⟨r, c, op, a, b, e, f, rfl, ⟨done, cur, xs, e1, hx, hw, rfl, hc1, hc2⟩, kx⟩
    walk_at "rd"
    rw [List.drop_of_length_le (by simp [tl])] at e1
    rw [show wW [] r c cur = wfl cur r c from rfl] at e1
    rw [e1] at hw
    exact k _ L xs kx hL hx hw
end
end My

set_option Elab.async false
set_option linter.all false
set_option maxRecDepth 100000
set_option maxHeartbeats 4000000
namespace My
open PySem L2 TL
def sp_init (C : Addr) : Sp := fun vs H Q _ => ∃ (a : Addr) (x y z : V), vs = [.ref a, x, y, z] ∧ H a = some (exo a C none) ∧
  ∀ (H' : Hp) (d : Addr), Kx [a] H H' → H d = none → d ≠ a → H' a = some (exo a C (some d)) → H' d = some (exd d [("wanted", z), ("column", y), ("line", x)]) → Q .non H'
section
variable {P : Program} {w : World} {K : PySem.W.Frag} {mg : Str → Option Value} {base : Heap} {kept : Addr} {smt : Tok} {M C fI cc : Addr} {F : NdefX.NF}
theorem ok_init (T : TxK P K mg kept smt M C fI cc F) (htop : (P.main.scope.names.lookup ("super" : Str)).isSome = false) {oc : Value} {od : Option Addr} {osl : Array (Option Value)} {doc pm ctv : Value} (lk : K.lookup fI = some ⟨oc, od, .func (F.fd doc pm ctv), osl⟩) :
    FnOk P w K mg base CX0 1 fI (F.fd doc pm ctv) ["self", "line", "column", "wanted"] (sp_init C) := by
  obtain ⟨c, rfl⟩ : ∃ c, F = nfI s_BadText___init__ "BadText.__init__" cc c := ⟨_, T.nf⟩
  have hs : NdefX.NScope ["self", "line", "column", "wanted", "__class__"] ["self", "line", "column", "wanted"] ["__class__"] (defScope s_BadText___init__) := NdefX.nscope_by (by decide +kernel)
  have q1 : (defScope s_BadText___init__).names.lookup ("super" : Str) = some .globalImplicit := by decide +kernel
  have q2 : (defScope s_BadText___init__).names.lookup ("__class__" : Str) = some .free := by decide +kernel
  have q3 : (defScope s_BadText___init__).names.lookup ("self" : Str) = some .local := by decide +kernel
  have q4 : ∀ x ∈ (defScope s_BadText___init__).names, x.2 ≠ .cell := by decide +kernel
  refine fn_super (F := nfI s_BadText___init__ "BadText.__init__" cc c) hs T.sup lk (fun vs H Q E h => by obtain ⟨a, x, y, z, rfl, _⟩ := h; rfl) rfl rfl rfl q1 q2 q3 htop q4 (fun L => ⟨_, rfl⟩) (fun A outer s H vs Q E hr h => ?_)
  obtain ⟨a, x, y, z, rfl, ha, k⟩ := h
  refine ⟨⟨a, _, rfl, ha⟩, _, pss_cons (ps_ost (pv 0) (pv 1)) (pss_cons (ps_ost (pv 0) (pv 2)) (pss_one (ps_ost (pv 0) (pv 3)))), ?_⟩
  refine rd_seq ⟨x, rfl, _, rfl, a, C, rfl, T.sup.ox, T.no1, .inl ⟨ha, fun dx n1 n2 => ?_⟩⟩
  have g1 : upd (upd H dx (exd dx [("line", x)])) a (exo a C (some dx)) dx = some (exd dx [("line", x)]) := by rw [upd_ne n2, upd_same]
  refine rd_seq ⟨y, rfl, _, rfl, a, C, rfl, T.sup.ox, T.no2, .inr ⟨dx, _, upd_same, g1, Nat.le_of_ble_eq_true rfl, ?_⟩⟩
  refine ⟨z, rfl, _, rfl, a, C, rfl, T.sup.ox, T.no3, .inr ⟨dx, _, by rw [upd_ne n2.symm, upd_same], upd_same, Nat.le_of_ble_eq_true rfl, ?_⟩⟩
  refine k _ dx ?_ n1 n2 (by rw [upd_ne n2.symm, upd_ne n2.symm, upd_same]) upd_same
  exact ((((Kx.refl (S := [a])).nw n1).in (by simp)).mu n1).mu n1
end
end My

set_option Elab.async false
set_option linter.all false
set_option maxRecDepth 100000
set_option maxHeartbeats 4000000
namespace My
open PySem L2 TL
def sp_words : Sp := fun vs H Q _ => ∃ z : Str, vs = [.str z] ∧ z.length ≤ 900 ∧ Tx z ∧ ∀ (H' : Hp) (p : Addr) (xs : List V), Kx [] H H' → H p = none → H' p = some (.lst xs) → WtL H' xs (wl z) → Q (.ref p) H'
section
variable {P : Program} {w : World} {K : PySem.W.Frag} {mg : Str → Option Value} {base : Heap} {kept : Addr} {smt : Tok} {M C fI cc : Addr} {F : NdefX.NF}
theorem spl_le (d : Nat) : ∀ (l cur : List Nat), ∀ p ∈ spl [d] 0 cur l, p.length ≤ cur.length + l.length
  | [], cur, p, h => by
    rw [spl_nil] at h
    have e : p = cur := by simpa using h
    rw [e]
    simp
  | s :: l, cur, p, h => by
    by_cases g : s = d
    · subst g
      rw [spl_hit (by rw [pre1]; simp)] at h
      have h' : p ∈ cur :: spl [s] 0 [] l := h
      rcases List.mem_cons.mp h' with h' | h'
      · rw [h']
        omega
      · have := spl_le s l [] p h'
        rw [List.length_nil] at this
        rw [List.length_cons]
        omega
    · rw [spl_miss (by rw [pre1]; simp [g])] at h
      have := spl_le d l (cur ++ [s]) p h
      rw [List.length_append, List.length_singleton] at this
      rw [List.length_cons]
      omega
theorem line_le {z y : Str} (h : y ∈ Txt.split z "\n") : y.length ≤ z.length := by
  have e : (tl ("\n" : Str)) = [10] := tl_nl
  have q : tl y ∈ (Txt.split z "\n").map tl := List.mem_map.mpr ⟨y, h, rfl⟩
  rw [split_spl z "\n" (by rw [e]; simp) (kind_ok (by first | rfl | decide +kernel)), e] at q
  have := spl_le 10 _ _ _ q
  rw [len_tl, len_tl]
  simpa using this
theorem word_le {z y : Str} (h : y ∈ Txt.split z " ") : y.length ≤ z.length := by
  have q : tl y ∈ (Txt.split z " ").map tl := List.mem_map.mpr ⟨y, h, rfl⟩
  rw [words_spl] at q
  have := spl_le 32 _ _ _ q
  rw [len_tl, len_tl]
  simpa using this
theorem str_at {ys : List Str} {i : Nat} {x : V} (h : (ys.map V.str)[i]? = some x) : ∃ y, x = .str y ∧ ys[i]? = some y := by
  rw [List.getElem?_map] at h
  cases e : ys[i]? with
  | none => rw [e] at h; cases h
  | some y => rw [e] at h; exact ⟨y, (Option.some.inj h).symm, rfl⟩
theorem drop_at {α : Type} {l : List α} {i : Nat} {c : α} (h : l[i]? = some c) : l.drop i = c :: l.drop (i + 1) := by
  obtain ⟨hlt, e⟩ := List.getElem?_eq_some_iff.mp h
  rw [← e]
  exact List.drop_eq_getElem_cons hlt
theorem sMk_tl (z : Str) : sMk (tl z) = z := by
  obtain ⟨c⟩ := z
  show Str.mk _ = Str.mk _
  simp
theorem tst_str {H : Hp} {z : Str} (h1 : z.length ≤ 900) (h2 : Tx z) : Tst K H (.str z) := ⟨_, .base (.str z), kit_ty (by show kitB "str" "str" = some true; decide +kernel), fun z' e => by
  cases e
  exact ⟨by omega, h2.asc⟩⟩
theorem ok_words_of (T : TxK P K mg kept smt M C fI cc F) : FnAt P w K mg base CX0 3 "words_of" ["text"] sp_words := by
  refine FnAt.mk T.d_words_of (fun _ _ _ _ _ _ us hl => match us, hl with | [_], _ => rfl) fun f fd F => ?_
  refine F.ok sc_words_of (fun vs H Q E h => by obtain ⟨z, rfl, _⟩ := h; rfl) (fun cdv A outer s H vs Q E hr h => ?_)
  obtain ⟨z, rfl, hz, hA, k⟩ := h
  refine ⟨_, (pss_cons (ps_if (pt_not (pt_val (pe_f (ok_is_text T) (hr.mono (by decide)) rfl (pa_cons (pv 0) pa_nil)))) (pss_one ps_never) pss_nil)
    (pss_cons (ps_set (i := 1) sc_words_of.nd rfl (by first | exact Or.inl rfl | exact Or.inr rfl) (pe_lst pa_nil))
    (pss_cons (ps_for PassesOwn.never rfl (pi_enum rfl T.b_enumerate (pa_cons (pe_split (pv 0) pe_str) pa_nil)) (pg_tup (by rfl) (pgs_cons (pg_name (i := 2) sc_words_of.nd rfl (by first | exact Or.inl rfl | exact Or.inr rfl)) (pgs_cons (pg_name (i := 3) sc_words_of.nd rfl (by first | exact Or.inl rfl | exact Or.inr rfl)) pgs_nil)))
    (pss_cons (ps_set (i := 4) sc_words_of.nd rfl (by first | exact Or.inl rfl | exact Or.inr rfl) pe_int)
    (pss_one (ps_for PassesOwn.never rfl (pi_list (pe_split (pv 3) pe_str)) (pg_name (i := 5) sc_words_of.nd rfl (by first | exact Or.inl rfl | exact Or.inr rfl))
    (pss_cons (ps_cut (ps_if (pt_cmpR op_ne (pv 5) pe_str (nomark _)) (pss_one (ps_expr (pe_bm PySem.F.plainAttrs_list PySem.F.slot_list_append PySem.F.type_list_append mt_append (pv 1) (pa_cons (pe_tup (pa_cons (pv 5) (pa_cons (pe_op op_add (pv 2) pe_int) (pa_cons (pv 4) pa_nil)))) pa_nil)))) pss_nil))
    (pss_one (ps_aug (i := 4) sc_words_of.nd rfl (by first | exact Or.inl rfl | exact Or.inr rfl) (pe_op op_add (pe_callB call_len_str rfl T.b_len (by decide +kernel) (pa_cons (pv 5) pa_nil)) pe_int) ip_add)))))))
    (pss_one (ps_ret (pv 1)))))), ?_⟩
  walk_at "go"
  refine ⟨_, rfl, tst_str hz hA, fun H1 k1 => ?_⟩
  rw [show textV (.str z) = true from hA.text]
  walk_at "rd"
  refine iteF ?_
  walk_at "rd"
  refine ⟨by decide, fun L hL => ?_⟩
  walk_at "rd"
  refine ⟨z, _, rfl, rfl, by decide, by rw [sizeLine_eq]; omega, fun p np => ?_⟩
  walk_at "rd"
  refine ⟨p, _, rfl, SqL.of upd_same, ?_⟩
  have hLp : L ≠ p := fun e => by rw [← e, upd_same] at np; cases np
  have k2 : Kx [] H (upd (upd H1 L (.lst [])) p (.lst ((Txt.split z "\n").map V.str))) := (k1.nw hL).nw np
  have hL0 : H L = none := k1.back hL (by simp)
  have eLs := lines_spl z
  have hbd : ∀ y ∈ Txt.split z "\n", y.length ≤ z.length := fun y h => line_le h
  generalize Txt.split z "\n" = Ls at eLs hbd k2
  have hwl := wl_len z
  refine for_src src_enum (fun i σ H' => ∃ (done : List W3) (xs : List V) (a b c e : Option V), σ = [some (.str z), some (.ref L), a, b, c, e] ∧ done ++ wPg ((Ls.map tl).drop i) (i + 1) = wl z ∧ H' L = some (.lst xs) ∧ WtL H' xs done ∧ Kx [] H H' ∧ H' p = some (.lst (Ls.map V.str)))
    ⟨[], [], _, _, _, _, rfl, eLs, by rw [upd_ne hLp, upd_same], trivial, k2, upd_same⟩ (fun i σ H' _ ⟨_, _, _, _, _, _, _, _, _, _, _, h⟩ => SqL.of h) ?_ ?_
  · rintro i x σ H2 H3 hi ⟨T, y, rfl, hT, rfl, hy⟩ ⟨done, xs, a, b, c, e, rfl, e1, hx, hw, kx, hp⟩
    obtain ⟨line, rfl, hl⟩ := str_at hy
    refine ⟨T, _, rfl, SqT.of upd_same, rfl, ?_⟩
    walk_at "rd"
    have hlm := hbd line (List.mem_of_getElem? hl)
    refine ⟨line, _, rfl, rfl, by decide, by rw [sizeLine_eq]; omega, fun q nq => ?_⟩
    refine ⟨q, rfl, ⟨_, SqL.of upd_same⟩, ?_⟩
    have eW := words_spl line
    have hwd : ∀ y ∈ Txt.split line " ", y.length ≤ z.length := fun y h => Nat.le_trans (word_le h) hlm
    have hLT : L ≠ T := ne_of_none hx hT
    have hpT : p ≠ T := ne_of_none hp hT
    have hx1 : upd H2 T (.tup [.int (i : Nat), .str line]) L = some (.lst xs) := by rw [upd_ne hLT]; exact hx
    have hp1 : upd H2 T (.tup [.int (i : Nat), .str line]) p = some (.lst (Ls.map V.str)) := by rw [upd_ne hpT]; exact hp
    have k3 : Kx [] H2 (upd H2 T (.tup [.int (i : Nat), .str line])) := Kx.refl.nw hT
    have hw1 := hw.keep k3.kt
    have hLq : L ≠ q := ne_of_none hx1 nq
    have hpq : p ≠ q := ne_of_none hp1 nq
    have k4 : Kx [] (upd H2 T (.tup [.int (i : Nat), .str line])) (upd (upd H2 T (.tup [.int (i : Nat), .str line])) q (.lst ((Txt.split line " ").map V.str))) := Kx.refl.nw nq
    rw [drop_at (show (Ls.map tl)[i]? = some (tl line) by rw [List.getElem?_map, hl]; rfl)] at e1
    have e2 : done ++ (wLn (spl [32] 0 [] (tl line)) (i + 1) 1 ++ wPg ((Ls.map tl).drop (i + 1)) (i + 1 + 1)) = wl z := e1
    rw [← eW] at e2
    generalize Txt.split line " " = ws at eW hwd e2 k4
    refine for_src src_list (fun j σ H' => ∃ (done : List W3) (xs : List V) (col : Nat) (e : Option V), σ = [some (.str z), some (.ref L), some (.int (i : Nat)), some (.str line), some (.int (col : Int)), e] ∧
        done ++ (wLn ((ws.map tl).drop j) (i + 1) col ++ wPg ((Ls.map tl).drop (i + 1)) (i + 1 + 1)) = wl z ∧ H' L = some (.lst xs) ∧ WtL H' xs done ∧ Kx [] H H' ∧ H' p = some (.lst (Ls.map V.str)) ∧ H' q = some (.lst (ws.map V.str)))
      ⟨done, xs, 1, _, rfl, e2, by rw [upd_ne hLq]; exact hx1, hw1.keep k4.kt, (kx.trans k3).trans k4, by rw [upd_ne hpq]; exact hp1, upd_same⟩ (fun i σ H' _ ⟨_, _, _, _, _, _, _, _, _, _, h⟩ => SqL.of h) ?_ ?_
    · rintro j x σ H5 H4 hj ⟨rfl, hxx⟩ ⟨done, xs, col, e, rfl, e1, hx, hw, kx, hp, hq⟩
      obtain ⟨word, rfl, hwj⟩ := str_at hxx
      have hwm := hwd word (List.mem_of_getElem? hwj)
      rw [drop_at (show (ws.map tl)[j]? = some (tl word) by rw [List.getElem?_map, hwj]; rfl)] at e1
      walk_at "rd"
      have fin : ∀ (H6 : Hp) (done' : List W3) (xs' : List V), done' ++ (wLn ((ws.map tl).drop (j + 1)) (i + 1) (col + (tl word).length + 1) ++ wPg ((Ls.map tl).drop (i + 1)) (i + 1 + 1)) = wl z → H6 L = some (.lst xs') → WtL H6 xs' done' → Kx [] H H6 → H6 p = some (.lst (Ls.map V.str)) → H6 q = some (.lst (ws.map V.str)) →
          ∃ (done : List W3) (xs : List V) (col' : Nat) (e : Option V), ([some (.str z), some (.ref L), some (.int (i : Nat)), some (.str line), some (.int ((col : Int) + ((word.length : Int) + 1))), some (.str word)] : L2.St) = [some (.str z), some (.ref L), some (.int (i : Nat)), some (.str line), some (.int (col' : Int)), e] ∧
            done ++ (wLn ((ws.map tl).drop (j + 1)) (i + 1) col' ++ wPg ((Ls.map tl).drop (i + 1)) (i + 1 + 1)) = wl z ∧ H6 L = some (.lst xs) ∧ WtL H6 xs done ∧ Kx [] H H6 ∧ H6 p = some (.lst (Ls.map V.str)) ∧ H6 q = some (.lst (ws.map V.str)) := fun H6 done' xs' g1 g2 g3 g4 g5 g6 => by
        refine ⟨done', xs', col + (tl word).length + 1, some (.str word), ?_, g1, g2, g3, g4, g5, g6⟩
        have : ((col : Int) + ((word.length : Int) + 1)) = ((col + (tl word).length + 1 : Nat) : Int) := by
          rw [← len_tl]
          omega
        rw [this]
      refine ⟨fun σ H6 => σ = [some (.str z), some (.ref L), some (.int (i : Nat)), some (.str line), some (.int (col : Int)), some (.str word)] ∧ ∃ (done' : List W3) (xs' : List V), done' ++ (wLn ((ws.map tl).drop (j + 1)) (i + 1) (col + (tl word).length + 1) ++ wPg ((Ls.map tl).drop (i + 1)) (i + 1 + 1)) = wl z ∧ H6 L = some (.lst xs') ∧ WtL H6 xs' done' ∧ Kx [] H H6 ∧ H6 p = some (.lst (Ls.map V.str)) ∧ H6 q = some (.lst (ws.map V.str)), ?_, ?_⟩
      · walk_at "rd"
        refine ite2 (fun h1 => ?_) (fun h1 => ?_)
        · have h2 : tl word ≠ [] := fun z1 => by
            have : word = "" := ext_tl (by rw [z1, tl_empty])
            rw [this] at h1
            simp at h1
          walk_at "rd"
          refine ⟨.inl ⟨rfl, _, SqL.of hx⟩, ?_⟩
          walk_at "rd"
          refine ⟨lenOk rfl, fun p1 n1 => ?_⟩
          have hL1 : L ≠ p1 := ne_of_none hx n1
          have hp1 : p ≠ p1 := ne_of_none hp n1
          have hq1 : q ≠ p1 := ne_of_none hq n1
          have hlx := hw.len
          have hld : done.length ≤ 901 := by
            have := congrArg List.length e1
            rw [List.length_append] at this
            omega
          refine ⟨L, xs, .ref p1, rfl, rfl, (upd_ne hL1).trans hx, small1000 (by omega), ?_⟩
          walk_at "rd"
          have kt : Kt H4 (upd (upd H4 p1 (.tup [.str word, .int ((i : Int) + 1), .int (col : Int)])) L (.lst (xs ++ [.ref p1]))) := (Kt.nw n1).trans (Kt.lst ((upd_ne hL1).trans hx))
          refine ⟨rfl, done ++ [(tl word, i + 1, col)], xs ++ [.ref p1], ?_, upd_same, WtL.snoc ⟨p1, rfl, ?_⟩ (hw.keep kt), (kx.nw n1).mu hL0, ?_, ?_⟩
          · rw [← e1]
            simp [wLn, h2]
          · rw [upd_ne hL1.symm, upd_same]
            show some (HO.tup [.str word, .int ((i : Int) + 1), .int (col : Int)]) = some (HO.tup [.str (sMk (tl word)), .int ((i : Int) + 1), .int (col : Int)])
            rw [sMk_tl]
          · rw [upd_ne hLp.symm, upd_ne hp1]
            exact hp
          · rw [upd_ne hLq.symm, upd_ne hq1]
            exact hq
        · have h2 : tl word = [] := by
            have : word = "" := by simpa using h1
            rw [this, tl_empty]
          walk_at "rd"
          refine ⟨rfl, done, xs, ?_, hx, hw, kx, hp, hq⟩
          rw [← e1]
          simp [wLn, h2]
      · rintro σ H6 ⟨rfl, done', xs', g1, g2, g3, g4, g5, g6⟩
        walk_at "rd"
        refine ⟨_, rfl, ?_⟩
        walk_at "rd"
        refine ⟨by rw [sizeLine_eq]; omega, ?_⟩
        walk_at "rd"
        refine ⟨_, _, rfl, rfl, ?_⟩
        exact fin _ _ _ g1 g2 g3 g4 g5 g6
    · rintro σ H4 ⟨done, xs, col, e, rfl, e1, hx, hw, kx, hp, hq⟩
      rw [List.drop_of_length_le (by simp)] at e1
      exact ⟨done, xs, _, _, _, _, rfl, e1, hx, hw, kx, hp⟩
  · rintro σ H2 ⟨done, xs, a, b, c, e, rfl, e1, hx, hw, kx, hp⟩
    walk_at "rd"
    rw [List.drop_of_length_le (by simp)] at e1
    have e2 : done = wl z := by simpa [wPg] using e1
    rw [← e2] at k
    exact k _ L xs kx hL0 hx hw
end
end My

set_option Elab.async false
set_option linter.all false
set_option maxRecDepth 100000
set_option maxHeartbeats 4000000
namespace My
open PySem L2 TL
def badFs : List (Str × V) := [("wanted", .non), ("column", .non), ("line", .non)]
def sp_wordsX (K : PySem.W.Frag) (C : Addr) : Sp := fun vs H Q E => ∃ x : V, vs = [x] ∧ Tst K H x ∧ textV x = false ∧ ∀ (H' : Hp) (d : Addr), Kx [] H H' → H d = none → H' d = some (.xd badFs) → E (.ref C) (some d) H'
section
variable {P : Program} {w : World} {K : PySem.W.Frag} {mg : Str → Option Value} {base : Heap} {kept : Addr} {smt : Tok} {M C fI cc : Addr} {F : NdefX.NF}
theorem bindsI {F : NdefX.NF} {cc c : Addr} {doc pm ctv : Value} (e : F = nfI s_BadText___init__ "BadText.__init__" cc c) : Binds K (F.fd doc pm ctv) ["self", "line", "column", "wanted"] [] := by
  subst e
  intro s us hK hl
  match us, hl with
  | [_, _, _, _], _ => exact .of_eq rfl
theorem ok_words_ofX (T : TxK P K mg kept smt M C fI cc F) (htop : (P.main.scope.names.lookup ("super" : Str)).isSome = false) : FnAt P w K mg base (L2.CX P w) 3 "words_of" ["text"] (sp_wordsX K C) := by
  refine FnAt.mk T.d_words_of (fun _ _ _ _ _ _ us hl => match us, hl with | [_], _ => rfl) fun f fd F => ?_
  refine F.okX sc_words_of (fun vs H Q E h => by obtain ⟨z, rfl, _⟩ := h; rfl) (fun cdv A outer s H vs Q E hr h => ?_)
  obtain ⟨x, rfl, hx, hb, k⟩ := h
  obtain ⟨oc, od, osl, doc, pm, ctv, lk⟩ := T.sup.fn
  refine ⟨_, pss_cons (ps_if (pt_not (pt_val (pe_f (ok_is_text T) (hr.mono (by decide)) rfl (pa_cons (pv 0) pa_nil))))
      (pss_one (ps_raise rfl (takes_of rfl rfl rfl rfl) (pmk_oex T.sup.ox T.iC T.tI (ok_init T htop lk) (hr.mono (by decide)) (bindsI T.nf) .nil pass0 rfl T.g_BadText (pa_cons pe_non (pa_cons pe_non (pa_cons pe_non pa_nil)))))) pss_nil)
    (pss_cons ps_never (pss_cons ps_never (pss_one ps_never))), ?_⟩
  walk_at "go"
  refine ⟨_, rfl, hx, fun H1 k1 => ?_⟩
  rw [hb]
  walk_at "rd"
  refine iteT ?_
  refine ⟨by decide, fun a ha => ⟨a, .non, .non, .non, rfl, upd_same, fun H2 d k2 hd hda h1 h2 => ⟨rfl, d, _, h1, h2, ?_, ?_⟩⟩⟩
  · rw [upd_ne hda] at hd
    exact hd
  · have hd1 : H1 d = none := by rw [upd_ne hda] at hd; exact hd
    refine k _ d (fun b o e _ => ?_) (k1.back hd1 (by simp)) upd_same
    have e1 := k1 b o e (by simp)
    have nb : b ≠ d := ne_of_none e1 hd1
    have na : b ≠ a := ne_of_none e1 ha
    rw [upd_ne nb, del_ne na]
    exact k2 b o (by rw [upd_ne na]; exact e1) (by simp [na])
end
end My

set_option Elab.async false
set_option linter.all false
set_option maxRecDepth 100000
set_option maxHeartbeats 4000000
namespace My
open PySem L2 TL
theorem hu65 {A : Around} {k : Nat} (hr : Room k A) : A.units + 65 < cLine := by
  have := hr.un
  omega
def sp_names : Sp := fun vs H Q _ => ∃ (d w c : Addr) (n : Nat), vs = [.ref d] ∧ Draw H d w c n ∧ w ≠ c ∧ n + 60 ≤ lim ∧ ∀ (H' : Hp), Kx [d, w] H H' → Draw H' d w c (n + 60) → Q (.bl true) H'
section
variable {P : Program} {w : World} {K : PySem.W.Frag} {mg : Str → Option Value} {base : Heap} {kept : Addr} {smt : Tok} {M C fI cc : Addr} {F : NdefX.NF}
theorem tst_s {H : Hp} {z : Str} (h1 : z.length ≤ 100000) (h2 : Asc z) : Tst K H (.str z) := ⟨_, .base (.str z), kit_ty (by show kitB "str" "str" = some true; decide +kernel), fun z' e => by
  cases e
  exact ⟨h1, h2⟩⟩
theorem ite_ne_self {x : V} {A B : Prop} (q : B) : if (!decide (x = x)) = true then A else B := by
  rw [if_neg (by simp)]
  exact q
theorem two_ok (b : Bool) : (PyData.list [.bool b, .bool b]).showable = true ∧ (PyData.list [.bool b, .bool b]).hasDict = false ∧ (PyData.list [.bool b, .bool b]).depth ≤ 64 ∧ (PyData.list [.bool b, .bool b]).shown.length ≤ sizeLine := by
  cases b <;> decide +kernel
theorem ok__law_names_right (T : TxK P K mg kept smt M C fI cc F) : FnAtG P w K mg base CX0 5 "_law_names_right" ["_law_draw"] sp_names := by
  refine FnAtG.mk T.d__law_names_right (fun _ _ _ _ _ _ us hl => match us, hl with | [_], _ => rfl) fun f fd F => ?_
  refine fn_g F sc__law_names_right (fun vs H Q E h => by obtain ⟨d, w, c, n, rfl, _⟩ := h; rfl) (fun cdv A outer s H vs Q E hg hr h => ?_)
  obtain ⟨d, w, c, n, rfl, D, hwc, hn, k⟩ := h
  refine ⟨_, (pss_cons (ps_par (i := 1) (j := 2) (by rfl) sc__law_names_right.nd rfl rfl (by decide) rfl rfl (pa_cons (pe_f (ok__law_any_name T) (hr.mono (by decide)) rfl (pa_cons (pv 0) pa_nil)) (pa_cons (pe_f (ok__law_pick T.D) (hr.mono (by decide)) rfl (pa_cons (pv 0) (pa_cons (pe_f0 (ok__law_reserved T) (hr.mono (by decide)) rfl) pa_nil))) pa_nil)) (by rfl))
    (pss_cons (ps_set (i := 3) sc__law_names_right.nd rfl (by first | exact Or.inl rfl | exact Or.inr rfl) (pe_lst (pa_cons (pv 1) (pa_cons (pv 2) (pa_cons (pe_op op_add_str (pv 2) pe_str) (pa_cons (pe_slice sl_str (pv 2) (po_some pe_int) po_none) (pa_cons (pe_op op_add_str (pv 1) (pv 1)) (pa_cons (pe_op op_add_str (pv 1) (pe_op op_mulS pe_str pe_int)) (pa_cons (pe_upper (pv 1)) (pa_cons (pe_op op_add_str (pv 1) pe_str) (pa_cons (pe_op op_add_str pe_str (pv 1)) (pa_cons (pe_op op_add_str (pv 1) pe_str) (pa_cons pe_str pa_nil)))))))))))))
    (pss_cons (ps_for PassesOwn.never rfl (pi_list (pv 3)) (pg_name (i := 4) sc__law_names_right.nd rfl (by first | exact Or.inl rfl | exact Or.inr rfl))
    (pss_one (ps_if (pt_cmpR op_ne (pe_callB (call_repr hg (hu65 hr)) rfl T.b_repr (by decide +kernel) (pa_cons (pe_lst (pa_cons (pe_f (ok_is_name T) (hr.mono (by decide)) rfl (pa_cons (pv 4) pa_nil)) (pa_cons (pe_fw0 T.d_is_name (ok_is_name T) (ks := ["thing"]) (idx := [0]) (fun _ _ _ _ _ _ us ws h1 h2 => match us, ws, h1, h2 with | [], [_], _, _ => rfl) pass0 (hr.mono (by decide)) rfl (pk_cons (pv 4) pk_nil)) pa_nil))) pa_nil)) (pe_callB (call_repr hg (hu65 hr)) rfl T.b_repr (by decide +kernel) (pa_cons (pe_lst (pa_cons (pe_f (ok__law_is_name T) (hr.mono (by decide)) rfl (pa_cons (pv 4) pa_nil)) (pa_cons (pe_f (ok__law_is_name T) (hr.mono (by decide)) rfl (pa_cons (pv 4) pa_nil)) pa_nil))) pa_nil)) (nomark _)) (pss_one (ps_ret pe_bl)) pss_nil)))
    (pss_cons (ps_set (i := 5) sc__law_names_right.nd rfl (by first | exact Or.inl rfl | exact Or.inr rfl) (pe_lst (pa_cons pe_non (pa_cons pe_int (pa_cons pe_int (pa_cons pe_bl (pa_cons (pe_tup (pa_cons (pv 1) pa_nil)) (pa_cons (pe_lst (pa_cons (pv 1) pa_nil)) (pa_cons (pe_disp (pps_cons (pv 1) (pv 1) pps_nil) (by rfl) (by rfl) (fun z => by cases z) (by decide)) (pa_cons (pe_tup pa_nil) (pa_cons pe_dnewK pa_nil)))))))))))
    (pss_one (ps_ret (pe_and (pe_cmpR (op_eqD hr.units) (pe_lc (own := [("_law_one", 4)]) (by rfl) sc__law_names_right.nd (pi_list (pv 5)) (blkOk_by (own := [("_law_one", 4)]) (N := ["_law_draw", "_law_word", "_law_kept", "_law_some", "_law_one", "_law_odd"]) (sc := defScope s__law_names_right) (by decide +kernel)) (fun _ _ _ _ _ => (pg_name (i := 4) sc__law_names_right.nd rfl (by first | exact Or.inl rfl | exact Or.inr rfl))) (fun _ _ _ _ _ => (pts_one (pt_val (pe_f (ok_is_name T) (hr.mono (by decide)) rfl (pa_cons (pv 4) pa_nil))))) (fun _ _ _ _ _ => (pv 4))) (pe_lst pa_nil) (nomark _)) (pe_one (pe_cmpR (op_eqD hr.units) (pe_lc (own := [("_law_one", 4)]) (by rfl) sc__law_names_right.nd (pi_list (pe_f0 (ok__law_reserved T) (hr.mono (by decide)) rfl)) (blkOk_by (own := [("_law_one", 4)]) (N := ["_law_draw", "_law_word", "_law_kept", "_law_some", "_law_one", "_law_odd"]) (sc := defScope s__law_names_right) (by decide +kernel)) (fun _ _ _ _ _ => (pg_name (i := 4) sc__law_names_right.nd rfl (by first | exact Or.inl rfl | exact Or.inr rfl))) (fun _ _ _ _ _ => (pts_one (pt_val (pe_f (ok_is_name T) (hr.mono (by decide)) rfl (pa_cons (pv 4) pa_nil))))) (fun _ _ _ _ _ => (pv 4))) (pe_lst pa_nil) (nomark _)))))))))), ?_⟩
  walk_at "go"
  have hlim : n + 60 ≤ lim := hn
  refine ⟨d, w, c, n, rfl, D, hwc, by omega, fun H1 wd k1 D1 hT1 hl1 => ?_⟩
  walk_at "rd"
  refine ⟨rfl, fun H2 p k2 hp0 hp => ?_⟩
  have fr := D1.fresh hp0
  refine ⟨d, w, c, p, n + 50, _, rfl, D1.keep k2 (Nat.le_refl _), hwc, by omega, SqL.of hp, fr.1, fr.2.1, by decide, by decide, fun H3 i x k3 D3 hx => ?_⟩
  obtain ⟨kw, hkw, rfl⟩ := strs_at hx
  obtain ⟨⟨hk1, hk2⟩, hk3⟩ := kept_ok kw hkw
  have k03 : Kx [d, w] H H3 := (k1.trans (k2.mono (by simp))).trans k3
  have sz : ∀ m : Nat, m ≤ 1000 → m ≤ sizeLine := fun m hm => by rw [sizeLine_eq]; omega
  have l1 : ("s" : Str).length = 1 := by decide
  have l2 : ("1" : Str).length = 1 := by decide
  have l3 : (" " : Str).length = 1 := by decide
  have l4 : ("\n" : Str).length = 1 := by decide
  obtain ⟨q8, eq8⟩ : ∃ q8 : Str, q8 = ⟨(List.replicate (8 : Int).toNat ("q" : Str).cps).foldl (· ++ ·) #[]⟩ := ⟨_, rfl⟩
  have l5 : q8.length = 8 ∧ Asc q8 := by rw [eq8]; decide +kernel
  walk_at "rd"
  refine ⟨kw, _, rfl, rfl, sz _ (by omega), ?_⟩
  walk_at "rd"
  refine ⟨kw, rfl, sz _ (by omega), ?_⟩
  walk_at "rd"
  refine ⟨wd, wd, rfl, rfl, sz _ (by omega), ?_⟩
  walk_at "rd"
  refine ⟨_, _, rfl, rfl, by decide, by decide, by decide, by decide, ?_⟩
  rw [← eq8]
  refine ⟨wd, _, rfl, rfl, sz _ (by omega), ?_⟩
  walk_at "rd"
  refine ⟨wd, rfl, rfl, by omega, ?_⟩
  walk_at "rd"
  refine ⟨wd, _, rfl, rfl, sz _ (by omega), ?_⟩
  walk_at "rd"
  refine ⟨_, wd, rfl, rfl, sz _ (by omega), ?_⟩
  walk_at "rd"
  refine ⟨wd, _, rfl, rfl, sz _ (by omega), ?_⟩
  walk_at "rd"
  refine ⟨lenOk rfl, fun L hL => ?_⟩
  have hall : ∀ x ∈ [V.str wd, V.str kw, V.str (kw ++ "s"), V.str (cutS kw (some 1) none), V.str (wd ++ wd), V.str (wd ++ q8), V.str (Txt.upper wd), V.str (wd ++ "1"), V.str (" " ++ wd), V.str (wd ++ "\n"), V.str ""], ∃ z, x = .str z ∧ z.length ≤ 100 ∧ Asc z := by
    have a1 := hT1.asc
    have a2 := hk3.asc
    have c1 := len_cut (z := kw) (lo := some 1) (hi := none)
    have c2 := PyProof.Rows.len_upper wd
    have app : ∀ {a b : Str}, Asc a → Asc b → Asc (a ++ b) := fun {a b} h1 h2 x hx => by
      rw [tl_append] at hx
      rcases List.mem_append.mp hx with h | h
      · exact h1 x h
      · exact h2 x h
    intro x hx
    simp only [List.mem_cons, List.not_mem_nil, or_false] at hx
    rcases hx with rfl | rfl | rfl | rfl | rfl | rfl | rfl | rfl | rfl | rfl | rfl
    · exact ⟨_, rfl, by omega, a1⟩
    · exact ⟨_, rfl, by omega, a2⟩
    · exact ⟨_, rfl, by rw [Str.length_append]; omega, app a2 (by decide)⟩
    · exact ⟨_, rfl, by omega, (tx_cut hk3).asc⟩
    · exact ⟨_, rfl, by rw [Str.length_append]; omega, app a1 a1⟩
    · exact ⟨_, rfl, by rw [Str.length_append]; omega, app a1 l5.2⟩
    · exact ⟨_, rfl, by omega, asc_upper a1⟩
    · exact ⟨_, rfl, by rw [Str.length_append]; omega, app a1 (by decide)⟩
    · exact ⟨_, rfl, by rw [Str.length_append]; omega, app (by decide) a1⟩
    · exact ⟨_, rfl, by rw [Str.length_append]; omega, app a1 (by decide)⟩
    · exact ⟨_, rfl, by decide, by decide⟩
  obtain ⟨zs, ezs⟩ : ∃ zs, zs = [V.str wd, V.str kw, V.str (kw ++ "s"), V.str (cutS kw (some 1) none), V.str (wd ++ wd), V.str (wd ++ q8), V.str (Txt.upper wd), V.str (wd ++ "1"), V.str (" " ++ wd), V.str (wd ++ "\n"), V.str ""] := ⟨_, rfl⟩
  rw [← ezs] at hall ⊢
  have kL : Kx [] H3 (upd H3 L (.lst zs)) := Kx.refl.nw hL
  walk_at "rd"
  refine ⟨L, rfl, ⟨_, SqL.of upd_same⟩, ?_⟩
  refine for_src src_list (fun i σ H' => Kx [] H3 H' ∧ H' L = some (.lst zs) ∧ ∃ a b e, σ = [some (.ref d), some (.str wd), some (.str kw), a, b, e]) ⟨kL, upd_same, _, _, _, rfl⟩ (fun i σ H' _ ⟨_, h, _⟩ => SqL.of h) ?_ ?_
  · rintro i x σ H5 H4 hi ⟨rfl, hxx⟩ ⟨kx, hL4, a, b, e, rfl⟩
    obtain ⟨z, rfl, hz1, hz2⟩ := hall _ (List.mem_of_getElem? hxx)
    walk_at "rd"
    refine ⟨_, rfl, tst_s (by omega) hz2, fun H6 k6 => ?_⟩
    walk_at "rd"
    refine ⟨rfl, rfl, _, rfl, tst_s (by omega) hz2, fun H7 k7 => ?_⟩
    walk_at "rd"
    refine ⟨lenOk rfl, fun p1 n1 => ?_⟩
    obtain ⟨t1, t2, t3, t4⟩ := two_ok (nameV (.str z))
    refine ⟨_, .list [.bool (nameV (.str z)), .bool (nameV (.str z))], rfl, .lst (SqL.of upd_same) (.cons (.bl _) (.cons (.bl _) .nil)), ⟨_, rfl⟩, t1, t2, t3, t4, ?_⟩
    walk_at "rd"
    refine ⟨_, rfl, tst_s (by omega) hz2, fun H8 k8 => ?_⟩
    walk_at "rd"
    refine ⟨_, rfl, tst_s (by omega) hz2, fun H9 k9 => ?_⟩
    walk_at "rd"
    refine ⟨lenOk rfl, fun p2 n2 => ?_⟩
    refine ⟨_, .list [.bool (nameV (.str z)), .bool (nameV (.str z))], rfl, .lst (SqL.of upd_same) (.cons (.bl _) (.cons (.bl _) .nil)), ⟨_, rfl⟩, t1, t2, t3, t4, ?_⟩
    walk_at "rd"
    have kk : Kx [] H4 (upd H9 p2 (.lst [V.bl (nameV (.str z)), V.bl (nameV (.str z))])) := (((((k6.trans k7).nw n1).trans k8).trans k9).nw n2)
    refine ite_ne_self ?_
    walk_at "rd"
    exact ⟨kx.trans kk, kk _ _ hL4 (by simp), _, _, _, rfl⟩
  · rintro σ H4 ⟨kx, hL4, a, b, e, rfl⟩
    walk_at "rd"
    have nx : ∀ {G : Hp} {p q : Addr} {o : HO}, G p = some o → G q = none → p ≠ q := fun h1 h2 => ne_of_none h1 h2
    refine ⟨lenOk rfl, fun p1 n1 => ?_⟩
    have k41 : Kx [] H4 (upd H4 p1 (.tup [.str wd])) := Kx.refl.nw n1
    have e1 : upd H4 p1 (.tup [.str wd]) p1 = some (.tup [.str wd]) := upd_same
    generalize upd H4 p1 (.tup [.str wd]) = G1 at k41 e1 ⊢
    walk_at "rd"
    refine ⟨lenOk rfl, fun p2 n2 => ?_⟩
    have k12 : Kx [] G1 (upd G1 p2 (.lst [.str wd])) := Kx.refl.nw n2
    have e2 : upd G1 p2 (.lst [.str wd]) p2 = some (.lst [.str wd]) := upd_same
    generalize upd G1 p2 (.lst [.str wd]) = G2 at k12 e2 ⊢
    walk_at "rd"
    intro p3 n3
    dsimp only [tPairs]
    walk_at "rd"
    refine ⟨upd_same, [(Sum.inr wd, .str wd)], rfl, (by show 1 ≤ 15; decide), ?_⟩
    have k23 : Kx [] G2 (upd (upd G2 p3 (.dK [])) p3 (.dK (mergeK [] [(Sum.inr wd, .str wd)]))) := (Kx.refl.nw n3).mu n3
    have e3 : upd (upd G2 p3 (.dK [])) p3 (.dK (mergeK [] [(Sum.inr wd, .str wd)])) p3 = some (.dK (mergeK [] [(Sum.inr wd, .str wd)])) := upd_same
    generalize upd (upd G2 p3 (.dK [])) p3 (.dK (mergeK [] [(Sum.inr wd, .str wd)])) = G3 at k23 e3 ⊢
    walk_at "rd"
    refine ⟨lenOk rfl, fun p4 n4 => ?_⟩
    have k34 : Kx [] G3 (upd G3 p4 (.tup [])) := Kx.refl.nw n4
    have e4 : upd G3 p4 (.tup []) p4 = some (.tup []) := upd_same
    generalize upd G3 p4 (.tup []) = G4 at k34 e4 ⊢
    walk_at "rd"
    intro p5 n5
    have k45 : Kx [] G4 (upd G4 p5 (.dK [])) := Kx.refl.nw n5
    have e5 : upd G4 p5 (.dK []) p5 = some (.dK []) := upd_same
    generalize upd G4 p5 (.dK []) = G5 at k45 e5 ⊢
    walk_at "rd"
    refine ⟨lenOk rfl, fun p6 n6 => ?_⟩
    have k56 : Kx [] G5 (upd G5 p6 (.lst [.non, .int 5, .int 0, .bl true, .ref p1, .ref p2, .ref p3, .ref p4, .ref p5])) := Kx.refl.nw n6
    have e6 : upd G5 p6 (.lst [.non, .int 5, .int 0, .bl true, .ref p1, .ref p2, .ref p3, .ref p4, .ref p5]) p6 = some (.lst [.non, .int 5, .int 0, .bl true, .ref p1, .ref p2, .ref p3, .ref p4, .ref p5]) := upd_same
    generalize upd G5 p6 (.lst [.non, .int 5, .int 0, .bl true, .ref p1, .ref p2, .ref p3, .ref p4, .ref p5]) = G6 at k56 e6 ⊢
    have k46 := k45.trans k56
    have k36 := k34.trans k46
    have k26 := k23.trans k36
    have k16 := k12.trans k26
    have k06 : Kx [d, w] H G6 := (k03.trans (kx.mono (by simp))).trans ((k41.trans k16).mono (by simp))
    have hodd : ∀ G, Kx [] G6 G → ∀ x ∈ [V.non, .int 5, .int 0, .bl true, .ref p1, .ref p2, .ref p3, .ref p4, .ref p5], Tst K G x ∧ isS x = false := fun G kG x hx => by
      have f1 := (k16.trans kG) _ _ e1 (by simp)
      have f2 := (k26.trans kG) _ _ e2 (by simp)
      have f3 := (k36.trans kG) _ _ e3 (by simp)
      have f4 := (k46.trans kG) _ _ e4 (by simp)
      have f5 := (k56.trans kG) _ _ e5 (by simp)
      simp only [List.mem_cons, List.not_mem_nil, or_false] at hx
      rcases hx with rfl | rfl | rfl | rfl | rfl | rfl | rfl | rfl | rfl
      · exact ⟨⟨_, .base .non, kit_ty (by show kitB "NoneType" "str" = some false; decide +kernel), fun z e => by cases e⟩, rfl⟩
      · exact ⟨⟨_, .base (.int _), kit_ty (by show kitB "int" "str" = some false; decide +kernel), fun z e => by cases e⟩, rfl⟩
      · exact ⟨⟨_, .base (.int _), kit_ty (by show kitB "int" "str" = some false; decide +kernel), fun z e => by cases e⟩, rfl⟩
      · exact ⟨⟨_, .base (.bl _), kit_ty (by show kitB "bool" "str" = some false; decide +kernel), fun z e => by cases e⟩, rfl⟩
      · exact ⟨⟨_, .base (.tup f1), kit_ty (by show kitB "tuple" "str" = some false; decide +kernel), fun z e => by cases e⟩, rfl⟩
      · exact ⟨⟨_, .base (.lst f2), kit_ty (by show kitB "list" "str" = some false; decide +kernel), fun z e => by cases e⟩, rfl⟩
      · exact ⟨⟨_, .base (.dK f3), kit_ty (by show kitB "dict" "str" = some false; decide +kernel), fun z e => by cases e⟩, rfl⟩
      · exact ⟨⟨_, .base (.tup f4), kit_ty (by show kitB "tuple" "str" = some false; decide +kernel), fun z e => by cases e⟩, rfl⟩
      · exact ⟨⟨_, .base (.dK f5), kit_ty (by show kitB "dict" "str" = some false; decide +kernel), fun z e => by cases e⟩, rfl⟩
    walk_at "rd"
    refine ⟨p6, rfl, ⟨_, SqL.of e6⟩, ?_⟩
    intro L1 nL1
    refine lc_src src_list (fun i H' => PvF G6 L1 [] [] H') (PvF.zero nL1 (by simp)) (fun i H' _ pv => SqL.of (pv.kx _ _ e6 (by simp))) ?_ ?_
    · rintro i x H6 H5 hi ⟨rfl, hxx⟩ pv
      obtain ⟨h1, h2⟩ := hodd H5 pv.kx x (List.mem_of_getElem? hxx)
      walk_at "lc"
      refine ⟨rfl, ?_⟩
      walk_at "rd"
      refine ⟨_, rfl, h1, fun H7 k7 => ?_⟩
      rw [(isS_no h2).1]
      walk_at "rd"
      exact pv.no k7 rfl
    · intro H5 pv
      walk_at "rd"
      refine ⟨by decide, fun p7 n7 => ?_⟩
      have eL1 : upd H5 p7 (.lst []) L1 = _ := (upd_ne (ne_of_none pv.at_ n7)).trans pv.at_
      refine ⟨.list [], .list [], .lst (SqL.of eL1) .nil, .lst (SqL.of upd_same) .nil, by decide, by decide, ?_⟩
      rw [eqv_nil]
      walk_at "rd"
      refine iteT ?_
      walk_at "rd"
      refine ⟨rfl, fun H8 p8 k8 hp8 hl8 => ?_⟩
      refine ⟨p8, rfl, ⟨_, SqL.of hl8⟩, ?_⟩
      intro L2 nL2
      refine lc_src src_list (fun i H' => PvF H8 L2 [] [] H') (PvF.zero nL2 (by simp)) (fun i H' _ pv => SqL.of (pv.kx _ _ hl8 (by simp))) ?_ ?_
      · rintro i x H10 H9 hi ⟨rfl, hxx⟩ pv
        obtain ⟨z, hz, rfl⟩ := strs_at hxx
        obtain ⟨⟨hz1, hz2⟩, hz3⟩ := kept_ok z hz
        walk_at "lc"
        refine ⟨rfl, ?_⟩
        walk_at "rd"
        refine ⟨_, rfl, tst_s (by omega) hz3.asc, fun H11 k11 => ?_⟩
        have e : nameV (.str z) = false := by
          show nameS z = false
          unfold nameS
          have : keptL.contains z = true := by simpa using hz
          rw [this]
          simp
        rw [e]
        walk_at "rd"
        exact pv.no k11 rfl
      · intro H9 pv2
        walk_at "rd"
        refine ⟨by decide, fun p9 n9 => ?_⟩
        have eL2 : upd H9 p9 (.lst []) L2 = _ := (upd_ne (ne_of_none pv2.at_ n9)).trans pv2.at_
        refine ⟨.list [], .list [], .lst (SqL.of eL2) .nil, .lst (SqL.of upd_same) .nil, by decide, by decide, ?_⟩
        rw [eqv_nil]
        have kend : Kx [] G6 (upd H9 p9 (.lst [])) := (((pv.kx.nw n7).trans k8).trans pv2.kx).nw n9
        have k36' : Kx [] H3 G6 := kx.trans (k41.trans k16)
        exact k _ (k06.trans (kend.mono (by simp))) (D3.keep (k36'.trans kend) (by omega))
end
end My

set_option Elab.async false
set_option linter.all false
set_option maxRecDepth 100000
set_option maxHeartbeats 4000000
namespace My
open PySem L2 TL
def sp_law (K : PySem.W.Frag) : Sp := fun vs H Q _ => ∃ (a : Addr) (ns : List Int), vs = [.ref a] ∧ SqL K H a (ns.map V.int) ∧ ns.length ≤ 63 ∧ ∀ H', Q (.bl true) H'
section
variable {P : Program} {w : World} {K : PySem.W.Frag} {mg : Str → Option Value} {base : Heap} {kept : Addr} {smt : Tok} {M C fI cc : Addr} {F : NdefX.NF}
theorem sc_law : FnScope ["_law_script", "_law_draw", "_law_turn", "_law_text", "_law_told", "_law_odd", "_law_caught", "error", "_law_k"] ["_law_script"] (defScope s_law) := ⟨rfl, rfl, rfl, by decide +kernel, rfl, by decide +kernel, by decide +kernel⟩
theorem ok_law (T : TxK P K mg kept smt M C fI cc F) (htop : (P.main.scope.names.lookup ("super" : Str)).isSome = false) : FnAtG P w K mg base CX0 6 "law" ["_law_script"] (sp_law K) := by
  refine FnAtG.mk T.d_law (fun _ _ _ _ _ _ us hl => match us, hl with | [_], _ => rfl) fun f fd F => ?_
  refine fn_g F sc_law (fun vs H Q E h => by obtain ⟨a, ns, rfl, _⟩ := h; rfl) (fun cdv A outer s H vs Q E hg hr h => ?_)
  obtain ⟨a, ns, rfl, hS, hl, k⟩ := h
  refine ⟨_, (pss_cons (ps_set (i := 1) sc_law.nd rfl (by first | exact Or.inl rfl | exact Or.inr rfl) (pe_f (ok__law_begun T.D) (hr.mono (by decide)) rfl (pa_cons (pv 0) pa_nil)))
    (pss_cons (ps_if (pt_cmpR (op_neD hr.units) (pe_glob rfl T.g_KEPT T.r_KEPT) (pe_callTy call_tuple_of rfl T.b_tuple (by decide +kernel) (pa_cons (pe_f0 (ok__law_reserved T) (hr.mono (by decide)) rfl) pa_nil)) (nomark _)) (pss_one (ps_ret pe_bl)) pss_nil)
    (pss_cons (ps_for PassesOwn.never rfl (pi_range1 rfl T.b_range (pa_cons (pe_op op_add pe_int (pe_callB (call_min2 rfl) rfl T.b_min (by decide +kernel) (pa_cons (pe_callB call_len_seq rfl T.b_len (by decide +kernel) (pa_cons (pv 0) pa_nil)) (pa_cons pe_int pa_nil)))) pa_nil)) (pg_name (i := 2) sc_law.nd rfl (by first | exact Or.inl rfl | exact Or.inr rfl))
    (pss_cons (ps_set (i := 3) sc_law.nd rfl (by first | exact Or.inl rfl | exact Or.inr rfl) (pe_join pe_str (pe_lc (own := [("_law_k", 8)]) (by rfl) sc_law.nd (pi_range1 rfl T.b_range (pa_cons (pe_f (ok__law_pick T.D) (hr.mono (by decide)) rfl (pa_cons (pv 1) (pa_cons (pe_lst (pa_cons pe_int (pa_cons pe_int (pa_cons pe_int (pa_cons pe_int (pa_cons pe_int (pa_cons pe_int pa_nil))))))) pa_nil))) pa_nil)) (blkOk_by (own := [("_law_k", 8)]) (N := ["_law_script", "_law_draw", "_law_turn", "_law_text", "_law_told", "_law_odd", "_law_caught", "error", "_law_k"]) (sc := defScope s_law) (by decide +kernel)) (fun _ _ _ _ _ => (pg_name (i := 8) sc_law.nd rfl (by first | exact Or.inl rfl | exact Or.inr rfl))) (fun _ _ _ _ _ => pts_nil) (fun _ _ _ _ _ => (pe_f (ok__law_piece T) (hr.mono (by decide)) rfl (pa_cons (pv 1) pa_nil))))))
    (pss_cons (ps_set (i := 4) sc_law.nd rfl (by first | exact Or.inl rfl | exact Or.inr rfl) (pe_f (ok_words_of T) (hr.mono (by decide)) rfl (pa_cons (pv 3) pa_nil)))
    (pss_cons (ps_if (PW.pt (pw_or (pt_cmpR op_ne (pe_callB (call_repr hg (hu65 hr)) rfl T.b_repr (by decide +kernel) (pa_cons (pv 4) pa_nil)) (pe_callB (call_repr hg (hu65 hr)) rfl T.b_repr (by decide +kernel) (pa_cons (pe_f (ok__law_walked T) (hr.mono (by decide)) rfl (pa_cons (pv 3) pa_nil)) pa_nil)) (nomark _)) (pw_or1 (pt_not (pt_val (pe_fG hg (ok__law_names_right T) (hr.mono (by decide)) rfl (pa_cons (pv 1) pa_nil))))))) (pss_one (ps_ret pe_bl)) pss_nil)
    (pss_cons (ps_expr (pe_bm PySem.F.plainAttrs_list PySem.F.slot_list_append PySem.F.type_list_append mt_append (pv 4) (pa_cons (pe_tup (pa_cons pe_str (pa_cons pe_int (pa_cons pe_int pa_nil)))) pa_nil)))
    (pss_cons (ps_if (pt_cmpR (op_neD hr.units) (pe_fw0 T.d_words_of (ok_words_of T) (ks := ["text"]) (idx := [0]) (fun _ _ _ _ _ _ us ws h1 h2 => match us, ws, h1, h2 with | [], [_], _, _ => rfl) pass0 (hr.mono (by decide)) rfl (pk_cons (pv 3) pk_nil)) (pe_slice sl_list (pv 4) po_none (po_some (pe_un un_neg pe_int))) (nomark _)) (pss_one (ps_ret pe_bl)) pss_nil)
    (pss_cons (ps_par (i := 5) (j := 6) (by rfl) sc_law.nd rfl rfl (by decide) rfl rfl (pa_cons (pe_f (ok__law_pick T.D) (hr.mono (by decide)) rfl (pa_cons (pv 1) (pa_cons (pe_lst (pa_cons pe_non (pa_cons pe_int (pa_cons pe_bl (pa_cons (pe_lst (pa_cons (pv 3) pa_nil)) (pa_cons (pe_tup (pa_cons (pv 3) pa_nil)) (pa_cons pe_dnewK (pa_cons (pe_op op_add_str (pv 3) pe_str) (pa_cons (pe_op op_add_str pe_str (pv 3)) (pa_cons (pe_lst (pa_cons pe_str (pa_cons pe_str pa_nil))) (pa_cons pe_int pa_nil))))))))))) pa_nil))) (pa_cons pe_non pa_nil)) (by rfl))
    (pss_cons (ps_tryK (i := 7) (Wout := fun _ _ _ _ => False) rfl rfl rfl sc_law.nd rfl rfl ⟨rfl, by decide, .inl T.g_MakerError⟩ takes0 (fun W pn xe tk _ => (pss_one (ps_expr (pe_fS (ok_words_ofX T htop) (hr.mono (by decide)) rfl (fun σ => passAt tk σ) (pa_cons (pv 5) pa_nil))))) (fun a => (pss_one (ps_set (i := 6) sc_law.nd rfl (by first | exact Or.inl rfl | exact Or.inr rfl) (pv 7)))))
    (pss_one (ps_if (PW.pt (pw_or (pt_not (pt_val (pe_callB call_isV rfl T.b_isinstance (by decide +kernel) (pa_cons (pv 6) (pa_cons (pe_glob rfl T.g_BadText (show RelV (.ref _) _ from rfl)) pa_nil))))) (pw_or1 (pt_cmpR (op_neD hr.units) (pe_tup (pa_cons (pe_xa (pv 6)) (pa_cons (pe_xa (pv 6)) (pa_cons (pe_xa (pv 6)) pa_nil)))) (pe_tup (pa_cons pe_non (pa_cons pe_non (pa_cons pe_non pa_nil)))) (nomark _))))) (pss_one (ps_ret pe_bl)) pss_nil))))))))))
    (pss_one (ps_ret pe_bl))))), ?_⟩
  walk_at "go"
  refine ⟨a, ns, rfl, hS, hl, fun H1 d w c k1 hd hw hc hwc D => ?_⟩
  walk_at "rd"
  refine ⟨rfl, fun H2 p k2 hp0 hp => ?_⟩
  walk_at "rd"
  refine ⟨p, _, rfl, .inl ⟨SqL.of hp, fun l hl0 => ?_⟩⟩
  have sK : Sh 1 (.tuple (keptL.map PyData.str)) := Sh.tup fun x hx => by
    obtain ⟨z, hz, rfl⟩ := List.mem_map.mp hx
    exact Sh.str (strOk_asc (kept_ok z hz).2.asc)
  refine ⟨_, _, .tup (T.kq _) (dp_map (f := V.str) (g := PyData.str) (fun z => .str z) keptL), .tup (SqT.of upd_same) (dp_map (f := V.str) (g := PyData.str) (fun z => .str z) keptL), sK.ok (by decide), sK.ok (by decide), ?_⟩
  rw [SeqAt.eqv_refl _ sK.1]
  walk_at "rd"
  refine iteF ?_
  walk_at "rd"
  have kx2 : Kx [] H1 (upd H2 l (.tup (keptL.map V.str))) := k2.nw hl0
  refine ⟨a, _, rfl, .inl ((k1.trans kx2).sql hS (by simp)), ?_⟩
  walk_at "rd"
  refine ⟨_, _, rfl, ?_⟩
  walk_at "rd"
  rw [List.length_map]
  obtain ⟨m, hm, hm0, hm9⟩ : ∃ m : Int, m = 3 + (if (6 : Int) < (ns.length : Int) then 6 else (ns.length : Int)) ∧ 3 ≤ m ∧ m ≤ 9 := ⟨_, rfl, by split <;> omega, by split <;> omega⟩
  rw [← hm]
  refine ⟨by omega, by omega, ?_⟩
  have hlimv : lim = 1000000000000 := rfl
  refine for_src src_range (fun i σ H' => Draw H' d w c (i * 3000) ∧ ∃ b2 b3 b4 b5 b6 b7 b8, σ = [some (.ref a), some (.ref d), b2, b3, b4, b5, b6, b7, b8]) ⟨D.keep kx2 (Nat.zero_le _), _, _, _, _, _, _, _, rfl⟩ (fun _ _ _ _ _ => trivial) ?_ ?_
  · rintro i x σ H4 H3 hi ⟨rfl, rfl⟩ ⟨D3, b2, b3, b4, b5, b6, b7, b8, rfl⟩
    walk_at "rd"
    refine ⟨by decide, fun p1 n1 => ?_⟩
    have fr := D3.fresh n1
    refine ⟨d, w, c, p1, i * 3000, _, rfl, D3.keep (Kx.refl.nw n1) (Nat.le_refl _), hwc, by omega, SqL.of upd_same, fr.1, fr.2.1, by decide, by decide, fun H5 i5 x5 k5 D5 hx5 => ?_⟩
    obtain ⟨m5, rfl, hm5⟩ := pick_ints (ns := [0, 1, 2, 5, 12, 40]) (fun j => decide (0 ≤ j) && decide (j ≤ 40)) (by decide) hx5
    simp only [Bool.and_eq_true, decide_eq_true_eq] at hm5
    have k35 : Kx [d, w] H3 H5 := (Kx.refl.nw n1).trans k5
    walk_at "rd"
    refine ⟨by omega, by omega, fun L hL => ?_⟩
    refine lc_src src_range (fun j H6 => ∃ ys : List Str, PvF H5 L [d, w] (ys.map V.str) H6 ∧ ys.length = j ∧ Draw H6 d w c (i * 3000 + 1 + j * 60) ∧ ∀ y ∈ ys, Tx y ∧ y.length ≤ 10) ⟨[], PvF.zero hL D5.there, rfl, D5.keep (Kx.refl.nw hL) (by omega), by simp⟩ (fun _ _ _ _ => trivial) ?_ ?_
    · rintro j x H7 H6 hj ⟨rfl, rfl⟩ ⟨ys, pv, e1, D6, hys⟩
      walk_at "lc"
      refine ⟨rfl, ?_⟩
      walk_at "rd"
      refine iteT ?_
      walk_at "rd"
      refine ⟨d, w, c, i * 3000 + 1 + j * 60, rfl, D6, hwc, by omega, fun H8 z k8 D8 hz1 hz2 => ?_⟩
      obtain ⟨acc, q1, q2, q3⟩ := pv.yes (L' := (ys ++ [z]).map V.str) hL k8 (by rw [List.length_map]; exact small1000 (by omega)) (by rw [List.map_append]; rfl)
      have hLd := D5.fresh hL
      refine ⟨acc, q1, q2, _, q3, by simp [e1], ?_, ?_⟩
      · obtain ⟨ws, cs, r, t, h1, h2, h3, h4⟩ := D8.ex
        exact ⟨ws, cs, r, t, by rw [upd_ne hLd.1.symm]; exact h1, by rw [upd_ne hLd.2.1.symm]; exact h2, by rw [upd_ne hLd.2.2.symm]; exact h3, by omega⟩
      · intro y hy
        rcases List.mem_append.mp hy with hy | hy
        · exact hys y hy
        · have : y = z := by simpa using hy
          subst this
          exact ⟨hz1, hz2⟩
    · rintro H6 ⟨ys, pv, e1, D6, hys⟩
      have hn40 : ys.length ≤ 40 := by omega
      have hlj := len_join0 (N := 10) fun y hy => (hys y hy).2
      have htx := tx_join fun y hy => (hys y hy).1
      refine ⟨_, L, ys, rfl, rfl, .inl (SqL.of pv.at_), ?_, ?_⟩
      · have : ("" : Str).length = 0 := by decide
        rw [this]
        omega
      obtain ⟨z, ez⟩ : ∃ z, z = Txt.join ("" : Str) ys := ⟨_, rfl⟩
      rw [← ez] at hlj htx ⊢
      have hz4 : z.length ≤ 400 := by omega
      have D6' : Draw H6 d w c (i * 3000 + 2500) := D6.keep Kx.refl (by omega)
      walk_at "rd"
      refine ⟨z, rfl, by omega, htx, fun H7 p7 xs k7 np7 hp7 hw7 => ?_⟩
      have D7 := D6'.keep k7 (Nat.le_refl _)
      have fr7 := D6'.fresh np7
      walk_at "rd"
      have hok := wl_ok (N := 901) htx.asc (by omega)
      have hlw := wl_len z
      have sW := dat_sh hok
      have rep : ∀ (G : Hp) (q : Addr) (ys : List V) (R : VK), G q = some (.lst ys) → WtL G ys (wl z) → R (.str (dat (wl z)).shown) G → rRepr K [.ref q] G R := fun G q ys R h1 h2 h3 =>
        ⟨_, dat (wl z), rfl, h2.dat h1, ⟨q, rfl⟩, by simp only [dat, PyData.showable]; exact dat_show (by decide) hok, dat_nodict hok, Nat.le_trans sW.2 (by decide), dat_fits (by decide) hok (by omega), h3⟩
      refine rep _ _ _ _ hp7 hw7 ?_
      walk_at "rd"
      refine ⟨z, rfl, by omega, fun H8 p8 xs8 k8 np8 hp8 hw8 => ?_⟩
      walk_at "rd"
      refine rep _ _ _ _ hp8 hw8 ?_
      have D8 := D7.keep k8 (Nat.le_refl _)
      walk_at "rd"
      refine ite_ne_self ?_
      walk_at "rd"
      refine ⟨d, w, c, i * 3000 + 2500, rfl, D8, hwc, by omega, fun H9 k9 D9 => ?_⟩
      have nz7 : p7 ∉ [d, w] := by simp [fr7.1, fr7.2.1]
      have hp9 : H9 p7 = some (.lst xs) := k9 _ _ (k8 _ _ hp7 (by simp)) nz7
      have kt89 : Kt H8 H9 := fun q xs e => k9 _ _ e (by
        obtain ⟨ws, cs, r, t, h1, h2, h3, h4⟩ := D8.ex
        have a1 := ne_of e h1 (by intro z; cases z)
        have a2 := ne_of e h2 (by intro z; cases z)
        simp [a1, a2])
      have hw9 := (hw7.keep k8.kt).keep kt89
      walk_at "rd"
      refine iteF ?_
      walk_at "rd"
      refine ⟨.inl ⟨rfl, _, SqL.of hp9⟩, ?_⟩
      walk_at "rd"
      refine ⟨lenOk rfl, fun p10 n10 => ?_⟩
      have h710 : p7 ≠ p10 := ne_of_none hp9 n10
      have hlx := hw7.len
      refine ⟨p7, xs, _, rfl, rfl, (upd_ne h710).trans hp9, small1000 (by omega), ?_⟩
      walk_at "rd"
      have k910 : Kx [p7] H9 (upd (upd H9 p10 (.tup [.str "a", .int 1, .int 1])) p7 (.lst (xs ++ [.ref p10]))) := (Kx.refl.nw n10).in (by simp)
      have e10 : upd (upd H9 p10 (.tup [.str "a", .int 1, .int 1])) p7 (.lst (xs ++ [.ref p10])) p7 = some (.lst (xs ++ [.ref p10])) := upd_same
      have kt10 : Kt H9 (upd (upd H9 p10 (.tup [.str "a", .int 1, .int 1])) p7 (.lst (xs ++ [.ref p10]))) := (Kt.nw n10).trans (Kt.lst ((upd_ne h710).trans hp9))
      have D10 : Draw (upd (upd H9 p10 (.tup [.str "a", .int 1, .int 1])) p7 (.lst (xs ++ [.ref p10]))) d w c (i * 3000 + 2560) := by
        obtain ⟨ws, cs, r, t, h1, h2, h3, h4⟩ := D9.ex
        exact ⟨ws, cs, r, t, k910 _ _ h1 (by simp [fr7.1.symm]), k910 _ _ h2 (by simp [fr7.2.1.symm]), k910 _ _ h3 (by simp [fr7.2.2.symm]), h4⟩
      have hw10 := hw9.keep kt10
      generalize upd (upd H9 p10 (.tup [.str "a", .int 1, .int 1])) p7 (.lst (xs ++ [.ref p10])) = H10 at k910 e10 D10 hw10 ⊢
      refine ⟨rfl, rfl, z, rfl, by omega, htx, fun H11 p11 xs11 k11 np11 hp11 hw11 => ?_⟩
      have D11 := D10.keep k11 (Nat.le_refl _)
      walk_at "rd"
      refine ⟨p7, _, rfl, SqL.of (k11 _ _ e10 (by simp)), fun p12 n12 => ?_⟩
      have hcut : cutV (xs ++ [V.ref p10]) none (some (-1)) = xs := by
        unfold cutV HT.sIx
        simp
        rw [show (-1 + ((xs.length : Int) + 1)).toNat = xs.length by omega]
        exact List.take_left
      rw [hcut]
      have k12 : Kx [] H11 (upd H11 p12 (.lst xs)) := Kx.refl.nw n12
      refine ⟨dat (wl z), dat (wl z), (hw11.keep k12.kt).dat (k12 _ _ hp11 (by simp)), ((hw10.keep k11.kt).keep k12.kt).dat upd_same, sW.ok (by decide), sW.ok (by decide), ?_⟩
      rw [SeqAt.eqv_refl _ sW.1]
      have D12 := D11.keep k12 (Nat.le_refl _)
      generalize upd H11 p12 (.lst xs) = H12 at D12 ⊢
      walk_at "rd"
      refine iteF ?_
      walk_at "rd"
      refine ⟨lenOk rfl, fun q1 m1 => ?_⟩
      have j1 : Kx [] H12 (upd H12 q1 (.lst [.str z])) := Kx.refl.nw m1
      have e1' : upd H12 q1 (.lst [.str z]) q1 = some (.lst [.str z]) := upd_same
      generalize upd H12 q1 (.lst [.str z]) = G1 at j1 e1' ⊢
      walk_at "rd"
      refine ⟨lenOk rfl, fun q2 m2 => ?_⟩
      have j2 : Kx [] G1 (upd G1 q2 (.tup [.str z])) := Kx.refl.nw m2
      have e2' : upd G1 q2 (.tup [.str z]) q2 = some (.tup [.str z]) := upd_same
      generalize upd G1 q2 (.tup [.str z]) = G2 at j2 e2' ⊢
      walk_at "rd"
      intro q3 m3
      have j3 : Kx [] G2 (upd G2 q3 (.dK [])) := Kx.refl.nw m3
      have e3' : upd G2 q3 (.dK []) q3 = some (.dK []) := upd_same
      generalize upd G2 q3 (.dK []) = G3 at j3 e3' ⊢
      walk_at "rd"
      have lt : ("\t" : Str).length = 1 := by decide
      refine ⟨z, _, rfl, rfl, by rw [lt, sizeLine_eq]; omega, ?_⟩
      walk_at "rd"
      refine ⟨_, z, rfl, rfl, by rw [lt, sizeLine_eq]; omega, ?_⟩
      walk_at "rd"
      refine ⟨lenOk rfl, fun q4 m4 => ?_⟩
      have j4 : Kx [] G3 (upd G3 q4 (.lst [.str "a", .str "b"])) := Kx.refl.nw m4
      have e4' : upd G3 q4 (.lst [.str "a", .str "b"]) q4 = some (.lst [.str "a", .str "b"]) := upd_same
      generalize upd G3 q4 (.lst [.str "a", .str "b"]) = G4 at j4 e4' ⊢
      walk_at "rd"
      refine ⟨lenOk rfl, fun q5 m5 => ?_⟩
      obtain ⟨os, eos⟩ : ∃ os, os = [V.non, .int 5, .bl true, .ref q1, .ref q2, .ref q3, .str (z ++ "\t"), .str ("\t" ++ z), .ref q4, .int 0] := ⟨_, rfl⟩
      rw [← eos]
      have j5 : Kx [] G4 (upd G4 q5 (.lst os)) := Kx.refl.nw m5
      have e5' : upd G4 q5 (.lst os) q5 = some (.lst os) := upd_same
      have D15 := D12.keep ((((j1.trans j2).trans j3).trans j4).trans j5) (Nat.le_refl _)
      have D14 := D12.keep (((j1.trans j2).trans j3).trans j4) (Nat.le_refl _)
      have fr5 := D14.fresh m5
      generalize upd G4 q5 (.lst os) = G5 at j5 e5' D15 ⊢
      have hos : os.length = 10 := by rw [eos]; rfl
      refine ⟨d, w, c, q5, i * 3000 + 2560, os, rfl, D15, hwc, by omega, SqL.of e5', fr5.1, fr5.2.1, by omega, by omega, fun H13 i13 x13 k13 D13 hx13 => ?_⟩
      have fr1 := D12.fresh m1
      have fr2 := (D12.keep j1 (Nat.le_refl _)).fresh m2
      have fr3 := (D12.keep (j1.trans j2) (Nat.le_refl _)).fresh m3
      have fr4 := (D12.keep ((j1.trans j2).trans j3) (Nat.le_refl _)).fresh m4
      have hx : Tst K H13 x13 ∧ textV x13 = false := by
        have f1 := k13 _ _ ((((j2.trans j3).trans j4).trans j5) _ _ e1' (by simp)) (by simp [fr1.1, fr1.2.1])
        have f2 := k13 _ _ (((j3.trans j4).trans j5) _ _ e2' (by simp)) (by simp [fr2.1, fr2.2.1])
        have f3 := k13 _ _ ((j4.trans j5) _ _ e3' (by simp)) (by simp [fr3.1, fr3.2.1])
        have f4 := k13 _ _ (j5 _ _ e4' (by simp)) (by simp [fr4.1, fr4.2.1])
        have hx := List.mem_of_getElem? hx13
        rw [eos] at hx
        have tab : okc 9 = false := by decide
        have ett : tl ("\t" : Str) = [9] := by first | rfl | decide +kernel
        simp only [List.mem_cons, List.not_mem_nil, or_false] at hx
        rcases hx with rfl | rfl | rfl | rfl | rfl | rfl | rfl | rfl | rfl | rfl
        · exact ⟨⟨_, .base .non, kit_ty (by show kitB "NoneType" "str" = some false; decide +kernel), fun z e => by cases e⟩, rfl⟩
        · exact ⟨⟨_, .base (.int _), kit_ty (by show kitB "int" "str" = some false; decide +kernel), fun z e => by cases e⟩, rfl⟩
        · exact ⟨⟨_, .base (.bl _), kit_ty (by show kitB "bool" "str" = some false; decide +kernel), fun z e => by cases e⟩, rfl⟩
        · exact ⟨⟨_, .base (.lst f1), kit_ty (by show kitB "list" "str" = some false; decide +kernel), fun z e => by cases e⟩, rfl⟩
        · exact ⟨⟨_, .base (.tup f2), kit_ty (by show kitB "tuple" "str" = some false; decide +kernel), fun z e => by cases e⟩, rfl⟩
        · exact ⟨⟨_, .base (.dK f3), kit_ty (by show kitB "dict" "str" = some false; decide +kernel), fun z e => by cases e⟩, rfl⟩
        · refine ⟨tst_s (by rw [Str.length_append, lt]; omega) fun x hx => ?_, ?_⟩
          · rw [tl_append, ett] at hx
            rcases List.mem_append.mp hx with h | h
            · exact htx.asc x h
            · have : x = 9 := by simpa using h
              omega
          · show (tl (z ++ "\t")).all okc = false
            rw [tl_append, ett, List.all_append]
            simp [tab]
        · refine ⟨tst_s (by rw [Str.length_append, lt]; omega) fun x hx => ?_, ?_⟩
          · rw [tl_append, ett] at hx
            rcases List.mem_append.mp hx with h | h
            · have : x = 9 := by simpa using h
              omega
            · exact htx.asc x h
          · show (tl ("\t" ++ z)).all okc = false
            rw [tl_append, ett, List.all_append]
            simp [tab]
        · exact ⟨⟨_, .base (.lst f4), kit_ty (by show kitB "list" "str" = some false; decide +kernel), fun z e => by cases e⟩, rfl⟩
        · exact ⟨⟨_, .base (.int _), kit_ty (by show kitB "int" "str" = some false; decide +kernel), fun z e => by cases e⟩, rfl⟩
      obtain ⟨hx1, hx2⟩ := hx
      walk_at "rd"
      refine ⟨x13, rfl, hx1, hx2, fun H14 dd k14 hdd hx14 => ?_⟩
      refine ⟨true, T.exM, fun _ ea hea => ?_, fun z => by cases z⟩
      have D16 := D13.keep k14 (Nat.le_refl _)
      have kE : Kx [] H14 (upd H14 ea (ExV (.ref C) (some dd) ea)) := Kx.refl.nw hea
      have eE : upd H14 ea (ExV (.ref C) (some dd) ea) ea = some (ExV (.ref C) (some dd) ea) := upd_same
      have eD := kE _ _ hx14 (by simp)
      have D17 := D16.keep kE (Nat.le_refl _)
      generalize upd H14 ea (ExV (.ref C) (some dd) ea) = H15 at kE eE eD D17 ⊢
      dsimp only [List.set_cons_zero, List.set_cons_succ]
      walk_at "rd"
      dsimp only [List.set_cons_zero, List.set_cons_succ]
      walk_at "rd"
      refine ⟨ea, C, some dd, .ref C, .ref C, true, rfl, eE, .inr ⟨dd, badFs, rfl, eD⟩, T.eC, .own C, T.kit, ?_⟩
      walk_at "rd"
      refine iteF ?_
      walk_at "rd"
      refine ⟨_, rfl, ea, C, dd, badFs, .non, rfl, eE, eD, T.eC, T.no1, by decide +kernel, ?_⟩
      walk_at "rd"
      refine ⟨_, rfl, ea, C, dd, badFs, .non, rfl, eE, eD, T.eC, T.no2, by decide +kernel, ?_⟩
      walk_at "rd"
      refine ⟨_, rfl, ea, C, dd, badFs, .non, rfl, eE, eD, T.eC, T.no3, by decide +kernel, ?_⟩
      walk_at "rd"
      refine ⟨lenOk rfl, fun r1 s1 => ?_⟩
      walk_at "rd"
      refine ⟨lenOk rfl, fun r2 s2 => ?_⟩
      have h12 : r1 ≠ r2 := fun z => by rw [← z, upd_same] at s2; cases s2
      have D18 := D17.keep ((Kx.refl.nw (o := .tup [V.non, V.non, V.non]) s1).nw (o := .tup [V.non, V.non, V.non]) s2) (Nat.le_refl _)
      refine ⟨.tuple [.none, .none, .none], .tuple [.none, .none, .none], .tup (SqT.of ((upd_ne h12).trans upd_same)) (.cons .non (.cons .non (.cons .non .nil))), .tup (SqT.of upd_same) (.cons .non (.cons .non (.cons .non .nil))), by decide, by decide, ?_⟩
      walk_at "rd"
      refine iteF ?_
      walk_at "rd"
      exact ⟨D18.keep Kx.refl (by omega), _, _, _, _, _, _, _, rfl⟩
  · rintro σ H3 ⟨D3, b2, b3, b4, b5, b6, b7, b8, rfl⟩
    walk_at "rd"
    exact k _
end
end My

set_option Elab.async false
set_option linter.all false
set_option maxRecDepth 100000
set_option maxHeartbeats 0
namespace My
open PySem L2 PyProof.Rows
def hFa : List He.Fa := [.glo "is_name", .glo "is_text", .glo "words_of", .glo "_law_begun", .glo "_law_mixed", .glo "_law_take", .glo "_law_pick", .glo "_law_is_name", .glo "_law_reserved", .glo "_law_any_name", .glo "_law_walked", .glo "_law_piece", .glo "_law_names_right", .glo "law", .glo "MakerError", .glo "BadText", .glo "KEPT", .free "abs", .free "int", .free "len", .free "isinstance", .free "str", .free "all", .free "enumerate", .free "range", .free "min", .free "repr", .free "tuple", .free "super", .str "SMALL" smallS]
def hFn : List He.DefD := [dfD "is_name" s_is_name, dfD "is_text" s_is_text, dfD "words_of" s_words_of, dfD "_law_begun" s__law_begun, dfD "_law_mixed" s__law_mixed, dfD "_law_take" s__law_take, dfD "_law_pick" s__law_pick, dfD "_law_is_name" s__law_is_name, dfD "_law_reserved" s__law_reserved, dfD "_law_any_name" s__law_any_name, dfD "_law_walked" s__law_walked, dfD "_law_piece" s__law_piece, dfD "_law_names_right" s__law_names_right, dfD "law" s_law]
def hNames : List PySem.Str := (["MakerError", "BadText", "KEPT", "SMALL", "is_name", "is_text", "words_of", "_law_begun", "_law_mixed", "_law_take", "_law_pick", "_law_is_name", "_law_reserved", "_law_any_name", "_law_walked", "_law_piece", "_law_names_right"] : List PySem.Str)
theorem hd_is_name {K : PySem.W.Frag} {h : Heap} {mg : Str → Option Value} {fi : List IniD} {ex : PySem.W.Frag → Bool} (c : Says hFa hFn fi ex K) (X : K.In h) (G : h.Ns mainGlobals mg) : DefAt K mg "is_name" s_is_name := c.def_ X G 0 0
theorem hd_is_text {K : PySem.W.Frag} {h : Heap} {mg : Str → Option Value} {fi : List IniD} {ex : PySem.W.Frag → Bool} (c : Says hFa hFn fi ex K) (X : K.In h) (G : h.Ns mainGlobals mg) : DefAt K mg "is_text" s_is_text := c.def_ X G 1 1
theorem hd_words_of {K : PySem.W.Frag} {h : Heap} {mg : Str → Option Value} {fi : List IniD} {ex : PySem.W.Frag → Bool} (c : Says hFa hFn fi ex K) (X : K.In h) (G : h.Ns mainGlobals mg) : DefAt K mg "words_of" s_words_of := c.def_ X G 2 2
theorem hd__law_begun {K : PySem.W.Frag} {h : Heap} {mg : Str → Option Value} {fi : List IniD} {ex : PySem.W.Frag → Bool} (c : Says hFa hFn fi ex K) (X : K.In h) (G : h.Ns mainGlobals mg) : DefAt K mg "_law_begun" s__law_begun := c.def_ X G 3 3
theorem hd__law_mixed {K : PySem.W.Frag} {h : Heap} {mg : Str → Option Value} {fi : List IniD} {ex : PySem.W.Frag → Bool} (c : Says hFa hFn fi ex K) (X : K.In h) (G : h.Ns mainGlobals mg) : DefAt K mg "_law_mixed" s__law_mixed := c.def_ X G 4 4
theorem hd__law_take {K : PySem.W.Frag} {h : Heap} {mg : Str → Option Value} {fi : List IniD} {ex : PySem.W.Frag → Bool} (c : Says hFa hFn fi ex K) (X : K.In h) (G : h.Ns mainGlobals mg) : DefAt K mg "_law_take" s__law_take := c.def_ X G 5 5
theorem hd__law_pick {K : PySem.W.Frag} {h : Heap} {mg : Str → Option Value} {fi : List IniD} {ex : PySem.W.Frag → Bool} (c : Says hFa hFn fi ex K) (X : K.In h) (G : h.Ns mainGlobals mg) : DefAt K mg "_law_pick" s__law_pick := c.def_ X G 6 6
theorem hd__law_is_name {K : PySem.W.Frag} {h : Heap} {mg : Str → Option Value} {fi : List IniD} {ex : PySem.W.Frag → Bool} (c : Says hFa hFn fi ex K) (X : K.In h) (G : h.Ns mainGlobals mg) : DefAt K mg "_law_is_name" s__law_is_name := c.def_ X G 7 7
theorem hd__law_reserved {K : PySem.W.Frag} {h : Heap} {mg : Str → Option Value} {fi : List IniD} {ex : PySem.W.Frag → Bool} (c : Says hFa hFn fi ex K) (X : K.In h) (G : h.Ns mainGlobals mg) : DefAt K mg "_law_reserved" s__law_reserved := c.def_ X G 8 8
theorem hd__law_any_name {K : PySem.W.Frag} {h : Heap} {mg : Str → Option Value} {fi : List IniD} {ex : PySem.W.Frag → Bool} (c : Says hFa hFn fi ex K) (X : K.In h) (G : h.Ns mainGlobals mg) : DefAt K mg "_law_any_name" s__law_any_name := c.def_ X G 9 9
theorem hd__law_walked {K : PySem.W.Frag} {h : Heap} {mg : Str → Option Value} {fi : List IniD} {ex : PySem.W.Frag → Bool} (c : Says hFa hFn fi ex K) (X : K.In h) (G : h.Ns mainGlobals mg) : DefAt K mg "_law_walked" s__law_walked := c.def_ X G 10 10
theorem hd__law_piece {K : PySem.W.Frag} {h : Heap} {mg : Str → Option Value} {fi : List IniD} {ex : PySem.W.Frag → Bool} (c : Says hFa hFn fi ex K) (X : K.In h) (G : h.Ns mainGlobals mg) : DefAt K mg "_law_piece" s__law_piece := c.def_ X G 11 11
theorem hd__law_names_right {K : PySem.W.Frag} {h : Heap} {mg : Str → Option Value} {fi : List IniD} {ex : PySem.W.Frag → Bool} (c : Says hFa hFn fi ex K) (X : K.In h) (G : h.Ns mainGlobals mg) : DefAt K mg "_law_names_right" s__law_names_right := c.def_ X G 12 12
theorem hd_law {K : PySem.W.Frag} {h : Heap} {mg : Str → Option Value} {fi : List IniD} {ex : PySem.W.Frag → Bool} (c : Says hFa hFn fi ex K) (X : K.In h) (G : h.Ns mainGlobals mg) : DefAt K mg "law" s_law := c.def_ X G 13 13
theorem hc_MakerError {K : PySem.W.Frag} {h : Heap} {mg : Str → Option Value} {fi : List IniD} {ex : PySem.W.Frag → Bool} (c : Says hFa hFn fi ex K) (X : K.In h) (G : h.Ns mainGlobals mg) : mg "MakerError" = some (.ref (He.ga K "MakerError")) := c.glo X G 14
theorem hc_BadText {K : PySem.W.Frag} {h : Heap} {mg : Str → Option Value} {fi : List IniD} {ex : PySem.W.Frag → Bool} (c : Says hFa hFn fi ex K) (X : K.In h) (G : h.Ns mainGlobals mg) : mg "BadText" = some (.ref (He.ga K "BadText")) := c.glo X G 15
theorem hc_KEPT {K : PySem.W.Frag} {h : Heap} {mg : Str → Option Value} {fi : List IniD} {ex : PySem.W.Frag → Bool} (c : Says hFa hFn fi ex K) (X : K.In h) (G : h.Ns mainGlobals mg) : mg "KEPT" = some (.ref (He.ga K "KEPT")) := c.glo X G 16
theorem hb_abs {K : PySem.W.Frag} {h : Heap} {mg : Str → Option Value} {fi : List IniD} {ex : PySem.W.Frag → Bool} (c : Says hFa hFn fi ex K) (X : K.In h) (G : h.Ns mainGlobals mg) : mg "abs" = none := c.free X G 17
theorem hb_int {K : PySem.W.Frag} {h : Heap} {mg : Str → Option Value} {fi : List IniD} {ex : PySem.W.Frag → Bool} (c : Says hFa hFn fi ex K) (X : K.In h) (G : h.Ns mainGlobals mg) : mg "int" = none := c.free X G 18
theorem hb_len {K : PySem.W.Frag} {h : Heap} {mg : Str → Option Value} {fi : List IniD} {ex : PySem.W.Frag → Bool} (c : Says hFa hFn fi ex K) (X : K.In h) (G : h.Ns mainGlobals mg) : mg "len" = none := c.free X G 19
theorem hb_isinstance {K : PySem.W.Frag} {h : Heap} {mg : Str → Option Value} {fi : List IniD} {ex : PySem.W.Frag → Bool} (c : Says hFa hFn fi ex K) (X : K.In h) (G : h.Ns mainGlobals mg) : mg "isinstance" = none := c.free X G 20
theorem hb_str {K : PySem.W.Frag} {h : Heap} {mg : Str → Option Value} {fi : List IniD} {ex : PySem.W.Frag → Bool} (c : Says hFa hFn fi ex K) (X : K.In h) (G : h.Ns mainGlobals mg) : mg "str" = none := c.free X G 21
theorem hb_all {K : PySem.W.Frag} {h : Heap} {mg : Str → Option Value} {fi : List IniD} {ex : PySem.W.Frag → Bool} (c : Says hFa hFn fi ex K) (X : K.In h) (G : h.Ns mainGlobals mg) : mg "all" = none := c.free X G 22
theorem hb_enumerate {K : PySem.W.Frag} {h : Heap} {mg : Str → Option Value} {fi : List IniD} {ex : PySem.W.Frag → Bool} (c : Says hFa hFn fi ex K) (X : K.In h) (G : h.Ns mainGlobals mg) : mg "enumerate" = none := c.free X G 23
theorem hb_range {K : PySem.W.Frag} {h : Heap} {mg : Str → Option Value} {fi : List IniD} {ex : PySem.W.Frag → Bool} (c : Says hFa hFn fi ex K) (X : K.In h) (G : h.Ns mainGlobals mg) : mg "range" = none := c.free X G 24
theorem hb_min {K : PySem.W.Frag} {h : Heap} {mg : Str → Option Value} {fi : List IniD} {ex : PySem.W.Frag → Bool} (c : Says hFa hFn fi ex K) (X : K.In h) (G : h.Ns mainGlobals mg) : mg "min" = none := c.free X G 25
theorem hb_repr {K : PySem.W.Frag} {h : Heap} {mg : Str → Option Value} {fi : List IniD} {ex : PySem.W.Frag → Bool} (c : Says hFa hFn fi ex K) (X : K.In h) (G : h.Ns mainGlobals mg) : mg "repr" = none := c.free X G 26
theorem hb_tuple {K : PySem.W.Frag} {h : Heap} {mg : Str → Option Value} {fi : List IniD} {ex : PySem.W.Frag → Bool} (c : Says hFa hFn fi ex K) (X : K.In h) (G : h.Ns mainGlobals mg) : mg "tuple" = none := c.free X G 27
theorem hb_super {K : PySem.W.Frag} {h : Heap} {mg : Str → Option Value} {fi : List IniD} {ex : PySem.W.Frag → Bool} (c : Says hFa hFn fi ex K) (X : K.In h) (G : h.Ns mainGlobals mg) : mg "super" = none := c.free X G 28
theorem hs_SMALL {K : PySem.W.Frag} {h : Heap} {mg : Str → Option Value} {fi : List IniD} {ex : PySem.W.Frag → Bool} (c : Says hFa hFn fi ex K) (X : K.In h) (G : h.Ns mainGlobals mg) : ∃ t, mg "SMALL" = some (.str smallS t) := c.str X G 29
def hIni : IniD := ⟨"BadText", "BadText.__init__", s_BadText___init__⟩
abbrev hR : PySem.W.OpenRow := PySem.W.OpenLaw.row PySem.Challenge.rw_anymaker_k00_names_and_words
def hEx (K : PySem.W.Frag) : Bool := supB hR.prog.main.file K hIni && (errB K (He.ga K "BadText") && (He.eqO (PySem.W.findIn K (.ref (He.ga K "BadText")) "line") (some none) && (He.eqO (PySem.W.findIn K (.ref (He.ga K "BadText")) "column") (some none) &&
  (He.eqO (PySem.W.findIn K (.ref (He.ga K "BadText")) "wanted") (some none) && (eqB (PySem.W.exmOne K (.ref (He.ga K "BadText")) (.ref (He.ga K "MakerError"))) (some true) && (eqB (PySem.W.kitOne K (.ref (He.ga K "BadText")) (.ref (He.ga K "BadText"))) (some true) && He.tupB K "KEPT" (keptL.map He.Dv.str)))))))
abbrev hHk : PySem.W.Hook := hookM 5 hFa hFn [hIni] hEx
def hOb (s : PySem.W.SharedT) : AlM := obsMG 5 hFa hFn [hIni] hEx (HandSHeadRun.getT s)
theorem hOb_eq (s : PySem.W.SharedT) : hOb s = hHk.obs s.abs := obsMG_eq (HandSHeadRun.getT_eq s)
theorem hRun (w : World) : HandSHeadRun.RunEq hR (PySem.W.view hR.prog [20]) hHk hOb 3000 hNames w := by
  intro os
  kernel_rfl
theorem hT {K : PySem.W.Frag} {h : Heap} {mg : Str → Option Value} (c : Says hFa hFn [hIni] hEx K) (X : K.In h) (G : h.Ns mainGlobals mg) :
    ∃ (smt : Tok) (cc : Addr) (F : NdefX.NF), TxK hR.prog K mg (He.ga K "KEPT") smt (He.ga K "MakerError") (He.ga K "BadText") (hIni.f K) cc F ∧ mg "KEPT" = mg "KEPT" := by
  obtain ⟨e1, e⟩ := ba c.ex
  obtain ⟨e2, e⟩ := ba e
  obtain ⟨e3, e⟩ := ba e
  obtain ⟨e4, e⟩ := ba e
  obtain ⟨e5, e⟩ := ba e
  obtain ⟨e6, e⟩ := ba e
  obtain ⟨e7, e8⟩ := ba e
  obtain ⟨smt, hs⟩ := hs_SMALL c X G
  have hsup := supB_ok (mg := mg) (c.ini 0) e1 (hb_super c X G)
  have hk : ∀ H : Hp, SqT K H (He.ga K "KEPT") (keptL.map V.str) := fun H => by
    have q := He.tupB_ok e8 H
    rw [List.map_map] at q
    exact q
  exact ⟨smt, _, _, {
    D := ⟨hb_abs c X G, hb_int c X G, hb_len c X G, hd__law_begun c X G, hd__law_mixed c X G, hd__law_take c X G, hd__law_pick c X G⟩
    b_abs := hb_abs c X G, b_isinstance := hb_isinstance c X G, b_str := hb_str c X G, b_len := hb_len c X G, b_all := hb_all c X G, b_enumerate := hb_enumerate c X G, b_range := hb_range c X G, b_min := hb_min c X G, b_repr := hb_repr c X G, b_tuple := hb_tuple c X G
    g_SMALL := hs, g_KEPT := hc_KEPT c X G, kq := hk, d_law := hd_law c X G, g_MakerError := hc_MakerError c X G, g_BadText := hc_BadText c X G
    sup := hsup.1, eC := errB_ok e2, iC := hsup.2.1, tI := hsup.2.2, no1 := of_decide_eq_true e3, no2 := of_decide_eq_true e4, no3 := of_decide_eq_true e5, exM := of_decide_eq_true e6, kit := of_decide_eq_true e7, nf := rfl
    d_is_name := hd_is_name c X G, d_is_text := hd_is_text c X G, d_words_of := hd_words_of c X G, d__law_is_name := hd__law_is_name c X G, d__law_reserved := hd__law_reserved c X G, d__law_any_name := hd__law_any_name c X G
    d__law_walked := hd__law_walked c X G, d__law_piece := hd__law_piece c X G, d__law_names_right := hd__law_names_right c X G }, rfl⟩
theorem htop : (hR.prog.main.scope.names.lookup ("super" : Str)).isSome = false := by decide +kernel
end My
open PySem PySem.W PySem.Calls PyProof.Rows
theorem PySem.Challenge.cw_anymaker_k00_names_and_words_holds : PySem.Challenge.rw_anymaker_k00_names_and_words.Holds := by
  w_on; o_law
  refine HandSHeadRun.head_any (r := OpenLaw.row PySem.Challenge.rw_anymaker_k00_names_and_words) (q := view (OpenLaw.row PySem.Challenge.rw_anymaker_k00_names_and_words).prog [20]) (H := My.hHk) (ob := My.hOb) (M := 3000) (loose := My.hNames) (d := HandSHeadRun.topDef (OpenLaw.row PySem.Challenge.rw_anymaker_k00_names_and_words).prog 20) (kwd := []) My.hOb_eq
    (by kernel_rfl) (fun s => by kernel_rfl) My.hRun (by kernel_rfl) (by kernel_rfl) (by kernel_rfl) (by rfl) (by first | assumption | decide +kernel) (by decide +kernel) ⟨rfl, rfl, rfl, rfl, rfl, by decide +kernel⟩ ?hw ?hc
  case hw => w_witness2
  case hc =>
    refine My.walk_gE (l := PySem.Challenge.rw_anymaker_k00_names_and_words) (n := 63) (k := 6) (x := "_law_script") rfl (by decide) (by kernel_rfl) ⟨rfl, by decide, by decide⟩ ?F
    intro w mg fa h Y G hmg0
    obtain ⟨K, KX, c⟩ := Y
    have hmg : mg ("law" : PySem.Str) = some (.ref fa) := by
      have e : (HandSHeadRun.topDef (OpenLaw.row PySem.Challenge.rw_anymaker_k00_names_and_words).prog 20).name = ("law" : PySem.Str) := by kernel_rfl
      rw [← e]
      exact hmg0
    obtain ⟨smt, cc, F, T, _⟩ := My.hT c KX G
    obtain ⟨fd, hb, hF⟩ := My.law_end T.d_law (fun _ _ _ _ _ _ us hl => match us, hl with | [_], _ => rfl) (fun base => My.ok_law (P := (PySem.Challenge.rw_anymaker_k00_names_and_words).prog) (w := w) (base := base) T My.htop) hmg
    exact ⟨K, fd, My.sp_law K, KX, hb, fun H a ns hl _ hS => ⟨a, ns, rfl, hS, hl, fun _ => rfl⟩, fun base _ _ => hF base⟩

