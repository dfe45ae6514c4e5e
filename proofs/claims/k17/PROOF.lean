import PyProof.Rows.All
import Wide.All
import OpenK.AllK
import Wide.FinOn
import HandS.ForMost
import HandS.IsInst
import HandS.TupSets
import HandS.Style
import HandS.Flow
import HandS.Evl
import HandS.More
import PySem.Challenge.RW_bitserial_k17_pairs_judged
import KE.BitLaws
import KE.KDictKeyed
import KE.SortData
import HandS.SetFor
import HandS.Strs
import KE.KDictCopyH
import KE.KDictSum
import HandS.SetKeys
import HandS.TupMul
import HandS.DictTup
import HandS.TupAny
import HandS.Zip
import HandS.Zip0
import HandS.ForExc
import HandS.ExcIs
import HandS.Lambda
import HandS.EndTab
import KE.KNestM
set_option Elab.async false
set_option linter.all false
set_option maxRecDepth 100000
set_option maxHeartbeats 8000000
open_top k17head for PySem.Challenge.rw_bitserial_k17_pairs_judged
namespace B
open PySem PySem.Spec PyProof.Rows L2

abbrev St := L2.St
/-! ### own sayings of a def that may be called -/
structure Df (K : PySem.W.Frag) (mg : Str → Option Value) (x : Str) (st : Stmt) (ps : List Str) : Prop where
  ex : ∃ (f : Addr) (fd : FuncData), Fun K x x st f fd ∧ mg x = some (.ref f) ∧ Binds K fd ps []
structure Mf (K : PySem.W.Frag) (C : Addr) (m qual : Str) (st : Stmt) (ps : List Str) : Prop where
  ex : ∃ (f : Addr) (fd : FuncData), Fun K m qual st f fd ∧ Cls K C ∧ Meth K C m f ∧ Binds K fd ps []
structure If (K : PySem.W.Frag) (mg : Str → Option Value) (C : Addr) (x qual : Str) (st : Stmt) (ps : List Str) : Prop where
  ex : ∃ (f : Addr) (fd : FuncData), Fun K "__init__" qual st f fd ∧ Mk K C f ∧ mg x = some (.ref C) ∧ Binds K fd ps []
structure Cal (P : Program) (w : World) (K : PySem.W.Frag) (mg : Str → Option Value) (base : Heap) (CX : CXT) (k : Nat) (x : Str) (sp : Sp) : Prop where
  ex : ∃ (f : Addr) (fd : FuncData) (ps : List Str), FnOk P w K mg base CX k f fd ps sp ∧ mg x = some (.ref f) ∧ PySem.W.keepIn K (.ref f) = true ∧ Binds K fd ps []
structure Met (P : Program) (w : World) (K : PySem.W.Frag) (mg : Str → Option Value) (base : Heap) (CX : CXT) (k : Nat) (C : Addr) (m : Str) (sp : Sp) : Prop where
  ex : ∃ (f : Addr) (fd : FuncData) (ps : List Str), Cls K C ∧ Meth K C m f ∧ FnOk P w K mg base CX k f fd ps sp ∧ Binds K fd ps []
structure Mak (P : Program) (w : World) (K : PySem.W.Frag) (mg : Str → Option Value) (base : Heap) (CX : CXT) (k : Nat) (x : Str) (C : Addr) (sp : Sp) : Prop where
  ex : ∃ (f : Addr) (fd : FuncData) (ps : List Str), Mk K C f ∧ FnOk P w K mg base CX k f fd ps sp ∧ mg x = some (.ref C) ∧ Binds K fd ps []

/-- what leaves no way for an exception -/
abbrev Wish0 : XK := fun _ _ _ => False

/-! promises by the number of arguments -/
def sp0 (p : Hp → VK → XK → Prop) : Sp := fun vs H Q E => vs = [] ∧ p H Q E
def sp1 (p : V → Hp → VK → XK → Prop) : Sp := fun vs H Q E => ∃ a, vs = [a] ∧ p a H Q E
def sp2 (p : V → V → Hp → VK → XK → Prop) : Sp := fun vs H Q E => ∃ a b, vs = [a, b] ∧ p a b H Q E
def sp3 (p : V → V → V → Hp → VK → XK → Prop) : Sp := fun vs H Q E => ∃ a b c, vs = [a, b, c] ∧ p a b c H Q E
def sp4 (p : V → V → V → V → Hp → VK → XK → Prop) : Sp := fun vs H Q E => ∃ a b c d, vs = [a, b, c, d] ∧ p a b c d H Q E
/-- the arity of a promise -/
class Ar (sp : Sp) (n : outParam Nat) : Prop where
  ar : ∀ vs H Q E, sp vs H Q E → vs.length = n
instance ar0 (p) : Ar (sp0 p) 0 := ⟨by rintro vs H Q E ⟨rfl, _⟩; rfl⟩
instance ar1 (p) : Ar (sp1 p) 1 := ⟨by rintro vs H Q E ⟨a, rfl, _⟩; rfl⟩
instance ar2 (p) : Ar (sp2 p) 2 := ⟨by rintro vs H Q E ⟨a, b, rfl, _⟩; rfl⟩
instance ar3 (p) : Ar (sp3 p) 3 := ⟨by rintro vs H Q E ⟨a, b, c, rfl, _⟩; rfl⟩
instance ar4 (p) : Ar (sp4 p) 4 := ⟨by rintro vs H Q E ⟨a, b, c, d, rfl, _⟩; rfl⟩

section
variable {P : Program} {w : World} {K : PySem.W.Frag} {mg : Str → Option Value} {base : Heap}
/-- a def's promise by its body; nothing is raised -/
theorem cal0 {x : Str} {st : Stmt} {N ps : List Str} {k n : Nat} {sp : Sp} [ar : Ar sp n] (D : Df K mg x st ps) (S : FnScope N ps (defScope st)) (hl : ps.length = n)
    (hbody : ∀ (f : Addr) (cdv : Value) (A : Around) (outer : List Env) (s : Shared) (H : Hp) (vs : List V) (Q : VK) (E : XK), Room k (A.deeper (envOfC x (defScope st) s.heap.objs.size f cdv)) → sp vs H Q E →
      ∃ t, PSs (cxOf CX0 P w K mg base N x (defScope st) f cdv A outer s H E).nox (defBody st) t ∧ t { nx := fun _ H' => Q .non H', rt := Q } (start N vs) H) : Cal P w K mg base CX0 (k + 1) x sp := by
  obtain ⟨f, fd, F, hm, b⟩ := D.ex
  exact ⟨f, fd, ps, F.ok S (fun vs H Q E h => (ar.ar vs H Q E h).trans hl.symm) (hbody f), hm, F.kp, b⟩
theorem met0 {C : Addr} {m qual : Str} {st : Stmt} {N ps : List Str} {k n : Nat} {sp : Sp} [ar : Ar sp n] (D : Mf K C m qual st ps) (S : FnScope N ps (defScope st)) (hl : ps.length = n)
    (hbody : ∀ (f : Addr) (cdv : Value) (A : Around) (outer : List Env) (s : Shared) (H : Hp) (vs : List V) (Q : VK) (E : XK), Room k (A.deeper (envOfC qual (defScope st) s.heap.objs.size f cdv)) → sp vs H Q E →
      ∃ t, PSs (cxOf CX0 P w K mg base N qual (defScope st) f cdv A outer s H E).nox (defBody st) t ∧ t { nx := fun _ H' => Q .non H', rt := Q } (start N vs) H) : Met P w K mg base CX0 (k + 1) C m sp := by
  obtain ⟨f, fd, F, c, hm, b⟩ := D.ex
  exact ⟨f, fd, ps, c, hm, F.ok S (fun vs H Q E h => (ar.ar vs H Q E h).trans hl.symm) (hbody f), b⟩
theorem mak0 {C : Addr} {x qual : Str} {st : Stmt} {N ps : List Str} {k n : Nat} {sp : Sp} [ar : Ar sp n] (D : If K mg C x qual st ps) (S : FnScope N ps (defScope st)) (hl : ps.length = n)
    (hbody : ∀ (f : Addr) (cdv : Value) (A : Around) (outer : List Env) (s : Shared) (H : Hp) (vs : List V) (Q : VK) (E : XK), Room k (A.deeper (envOfC qual (defScope st) s.heap.objs.size f cdv)) → sp vs H Q E →
      ∃ t, PSs (cxOf CX0 P w K mg base N qual (defScope st) f cdv A outer s H E).nox (defBody st) t ∧ t { nx := fun _ H' => Q .non H', rt := Q } (start N vs) H) : Mak P w K mg base CX0 (k + 1) x C sp := by
  obtain ⟨f, fd, F, M, hm, b⟩ := D.ex
  exact ⟨f, fd, ps, M, F.ok S (fun vs H Q E h => (ar.ar vs H Q E h).trans hl.symm) (hbody f), hm, b⟩
end

section
variable {X : Cx} {CX : CXT} {W : XK} {k j : Nat} {C : Addr} {x m : Str} {sp : Sp} {p pos apos : Pos} {e o : Expr} {es : List Expr} {ta : TE} {t : TA}
theorem pe_c (c : Cal X.prog X.w X.K X.mg X.base CX k x sp) (hr : Room j X.A) (hk : k ≤ j) (hg : Gl X x) (hx : Passes CX X W) (ha : PA X (e :: es) t)
    (hdb : (x == ("__debug__" : Str)) = false := by decide) (he : starEach (e :: es) X.env = (false, eval e X.env) :: starEach es X.env := by rfl) (hpl : (backTo pos (starEach es X.env)).any (·.1) = false := by rfl) :
    PE X (.Call (.Name x p) (e :: es) [] pos) (tCall sp [] W t) := by
  obtain ⟨f, fd, ps, F, hm, kp, b⟩ := c.ex
  exact pe_call F (hr.mono hk) hg hm kp b .nil hx ha hdb he hpl
theorem pe_c0 (c : Cal X.prog X.w X.K X.mg X.base CX k x sp) (hr : Room j X.A) (hk : k ≤ j) (hg : Gl X x) (hx : Passes CX X W)
    (hdb : (x == ("__debug__" : Str)) = false := by decide) :
    PE X (.Call (.Name x p) [] [] pos) (tCall sp [] W tNil) := by
  obtain ⟨f, fd, ps, F, hm, kp, b⟩ := c.ex
  exact pe_call0 F (hr.mono hk) hg hm kp b .nil hx hdb
theorem pe_mk (c : Mak X.prog X.w X.K X.mg X.base CX k x C sp) (hr : Room j X.A) (hk : k + 1 ≤ j) (hg : Gl X x) (hx : Passes CX X W) (ha : PA X (e :: es) t)
    (hdb : (x == ("__debug__" : Str)) = false := by decide) (he : starEach (e :: es) X.env = (false, eval e X.env) :: starEach es X.env := by rfl) (hpl : (backTo pos (starEach es X.env)).any (·.1) = false := by rfl) :
    PE X (.Call (.Name x p) (e :: es) [] pos) (tMake C sp [] W t) := by
  obtain ⟨f, fd, ps, M, F, hm, b⟩ := c.ex
  exact pe_make M F (hr.mono hk) hg hm b .nil hx ha hdb he hpl
theorem pe_mk0 (c : Mak X.prog X.w X.K X.mg X.base CX k x C sp) (hr : Room j X.A) (hk : k + 1 ≤ j) (hg : Gl X x) (hx : Passes CX X W)
    (hdb : (x == ("__debug__" : Str)) = false := by decide) :
    PE X (.Call (.Name x p) [] [] pos) (tMake C sp [] W tNil) := by
  obtain ⟨f, fd, ps, M, F, hm, b⟩ := c.ex
  exact pe_make0 M F (hr.mono hk) hg hm b .nil hx hdb
theorem pe_mt {pl : Sem Bool} (c : Met X.prog X.w X.K X.mg X.base CX k C m sp) (hr : Room j X.A) (hk : k ≤ j) (hx : Passes CX X W) (he : PE X o ta) (ha : PA X (e :: es) t)
    (hst : starEach (e :: es) X.env = (false, eval e X.env) :: starEach es X.env := by rfl) (hpl : (backTo pos (starEach es X.env)).any (·.1) = false := by rfl)
    (ht : eval (.Call (.Attribute o m apos) (e :: es) [] pos) X.env = (do
      let ov ← eval o X.env
      standAt apos.atName
      let (f, first) ← holding [ov] (getMethod ov m pl)
      callWith pos f first (backTo pos (starEach (e :: es) X.env)) (backToKw pos (keywordEach [] X.env))) := by rfl) :
    PE X (.Call (.Attribute o m apos) (e :: es) [] pos) (tMeth C m sp [] W ta t) := by
  obtain ⟨f, fd, ps, hc, hm, F, b⟩ := c.ex
  exact pe_meth (pl := pl) he hc hm F (hr.mono hk) b .nil hx ha hst hpl ht
theorem pe_mt0 {pl : Sem Bool} (c : Met X.prog X.w X.K X.mg X.base CX k C m sp) (hr : Room j X.A) (hk : k ≤ j) (hx : Passes CX X W) (he : PE X o ta)
    (ht : eval (.Call (.Attribute o m apos) [] [] pos) X.env = (do
      let ov ← eval o X.env
      standAt apos.atName
      let (f, first) ← holding [ov] (getMethod ov m pl)
      callWith pos f first (backTo pos (starEach [] X.env)) (backToKw pos (keywordEach [] X.env))) := by rfl) :
    PE X (.Call (.Attribute o m apos) [] [] pos) (tMeth C m sp [] W ta tNil) := by
  obtain ⟨f, fd, ps, hc, hm, F, b⟩ := c.ex
  exact pe_meth0 (pl := pl) he hc hm F (hr.mono hk) b .nil hx ht
/-- a name of the module, by its value -/
theorem pe_gc {v : V} (hg : Gl X x) (h : ∃ u, X.mg x = some u ∧ RelV v u) (hd : (x == ("__debug__" : Str)) = false := by decide) : PE X (.Name x pos) (tC v) := by
  obtain ⟨u, hm, r⟩ := h
  exact pe_glob hg hm r hd
end

/-! ### the readings, from the front -/
section
variable {σ : St} {H : Hp} {Q : VK} {ta tb tc te : TE} {t : TA} {r r' : R2} {v : V} {i : Nat}
theorem x_c (k : Q v H) : tC v σ H Q := k
theorem x_op (k : ta σ H fun x H1 => tb σ H1 fun y H2 => r x y H2 Q) : tOp r ta tb σ H Q := k
theorem x_un {r : V → Hp → VK → Prop} (k : ta σ H fun x H1 => r x H1 Q) : tUn r ta σ H Q := k
theorem x_cons {Q : List V → Hp → Prop} (k : ta σ H fun x H1 => t σ H1 fun xs H2 => Q (x :: xs) H2) : tCons ta t σ H Q := k
theorem x_nil {Q : List V → Hp → Prop} (k : Q [] H) : tNil σ H Q := k
theorem x_call {sp : Sp} {W : XK} (k : t σ H fun vs H1 => sp vs H1 Q W) : tCall sp [] W t σ H Q := by unfold tCall; simpa only [List.append_nil] using k
theorem x_meth {C : Addr} {m : Str} {sp : Sp} {W : XK} (k : ta σ H fun x H1 => ∃ a dx fs, x = .ref a ∧ H1 a = some (.ins C dx fs) ∧ fs.lookup m = none ∧ t σ H1 fun vs H2 => sp (x :: vs) H2 Q W) : tMeth C m sp [] W ta t σ H Q := by unfold tMeth; simpa only [List.append_nil] using k
theorem x_make {C : Addr} {sp : Sp} {W : XK} (k : t σ H fun vs H1 => ∀ x dx, H1 x = none → H1 dx = none → dx ≠ x → sp (.ref x :: vs) (upd (upd H1 dx (.own x)) x (.ins C dx [])) (fun v H2 => v = .non ∧ Q (.ref x) H2) W) : tMake C sp [] W t σ H Q := by unfold tMake; simpa only [List.append_nil] using k
theorem x_cb {r : List V → Hp → VK → Prop} (k : t σ H fun vs H1 => r vs H1 Q) : tCB r t σ H Q := k
theorem x_fld {K : PySem.W.Frag} {f : Str} (k : ta σ H fun x H1 => ∃ a C dx fs v, x = .ref a ∧ H1 a = some (.ins C dx fs) ∧ Cls K C ∧ NoAttr K C f ∧ fs.lookup f = some v ∧ Q v H1) : tFld K ta f σ H Q := k
theorem x_bm {K : PySem.W.Frag} {T : String} {r : V → List V → Hp → VK → Prop} (k : ta σ H fun x H1 => tyV K T x H1 ∧ t σ H1 fun xs H2 => r x xs H2 Q) : tBM K T r ta t σ H Q := k
theorem x_bm0 {K : PySem.W.Frag} {T : String} {r : V → List V → Hp → VK → Prop} (k : ta σ H fun x H1 => tyV K T x H1 ∧ r x [] H1 Q) : tBM0 K T r ta σ H Q := k
theorem x_tup (k : t σ H fun xs H1 => xs.length ≤ sizeLine ∧ ∀ p, H1 p = none → Q (.ref p) (upd H1 p (.tup xs))) : tTup t σ H Q := k
theorem x_lst (k : t σ H fun xs H1 => xs.length ≤ sizeLine ∧ ∀ p, H1 p = none → Q (.ref p) (upd H1 p (.lst xs))) : tLst t σ H Q := k
theorem x_if {c : TT} (k : c σ H fun b H1 => if b = true then ta σ H1 Q else tb σ H1 Q) : tIf c ta tb σ H Q := k
theorem x_andV (k : ta σ H fun x H1 => ∃ c, x = .bl c ∧ if c = true then tb σ H1 Q else Q (.bl false) H1) : tAndV ta tb σ H Q := k
theorem x_orV (k : ta σ H fun x H1 => ∃ c, x = .bl c ∧ if c = true then Q (.bl true) H1 else tb σ H1 Q) : tOrV ta tb σ H Q := k
theorem x_notV (k : ta σ H fun x H1 => ∃ c, x = .bl c ∧ Q (.bl (!c)) H1) : tNotV ta σ H Q := k
theorem x_dget {td ty : TE} (k : td σ H fun x H1 => ty σ H1 fun y H2 => ∃ a v, x = .ref a ∧ DGet H2 a y (some v) ∧ Q v H2) : tDGet td ty σ H Q := k
theorem x_din {td ty : TE} (k : ty σ H fun y H1 => td σ H1 fun x H2 => ∃ a o, x = .ref a ∧ DGet H2 a y o ∧ Q (.bl o.isSome) H2) : tDIn ty td σ H Q := k
theorem x_dnin {td ty : TE} (k : ty σ H fun y H1 => td σ H1 fun x H2 => ∃ a o, x = .ref a ∧ DGet H2 a y o ∧ Q (.bl (!o.isSome)) H2) : tDNotIn ty td σ H Q := k
theorem x_sl {r : V → Option Int → Option Int → Hp → VK → Prop} {tl th : TO} (k : te σ H fun x H1 => tl σ H1 fun l H2 => th σ H2 fun u H3 => r x l u H3 Q) : tSl r te tl th σ H Q := k
theorem x_chain (k : ta σ H fun x H1 => tb σ H1 fun y H2 => r x y H2 fun z H3 => ∃ k, z = .bl k ∧ (if k = true then tc σ H3 fun w' H4 => r' y w' H4 Q else Q (.bl false) H3)) : tChain r r' ta tb tc σ H Q := k
/-! tests -/
variable {QT : Bool → Hp → Prop} {u u' : TT}
theorem x_tst (k : ta σ H fun x H' => ∃ k, x = .bl k ∧ QT k H') : tTest ta σ H QT := k
theorem x_tb (k : ta σ H fun x H' => ∃ k, x = .bl k ∧ QT k H') : tB ta σ H QT := k
theorem x_and (k : u σ H fun c H1 => if c = true then u' σ H1 QT else QT false H1) : tAnd u u' σ H QT := k
theorem x_or (k : u σ H fun c H1 => if c = true then QT true H1 else u' σ H1 QT) : tOr u u' σ H QT := k
theorem x_not (k : u σ H fun c H1 => QT (!c) H1) : tNot u σ H QT := k
/-! statements -/
variable {D : Ends} {s1 s2 : TS} {g : TG}
theorem x_seq (k : s1 { D with nx := s2 D } σ H) : tSeq s1 s2 D σ H := k
theorem x_next (k : D.nx σ H) : tNext D σ H := k
theorem x_asg (k : te σ H fun x H1 => g x σ H1 D.nx) : tAsg te g D σ H := k
theorem x_name {v : V} {Q : St → Hp → Prop} (k : Q (σ.set i (some v)) H) : gName i v σ H Q := k
theorem x_gsub {ti : TE} {ts : TSet} {v : V} {Q : St → Hp → Prop} (k : ta σ H fun o H1 => ti σ H1 fun i H2 => ts o i v H2 fun H3 => Q σ H3) : gSub ta ti ts v σ H Q := k
theorem x_drop (k : te σ H fun _ H1 => D.nx σ H1) : tDrop te D σ H := k
theorem x_ret (k : te σ H D.rt) : tRet te D σ H := k
theorem x_retN (k : D.rt .non H) : tRetN D σ H := k
theorem x_ifS {c : TT} (k : c σ H fun b H1 => if b = true then s1 D σ H1 else s2 D σ H1) : tIfS c s1 s2 D σ H := k
theorem x_sfld {K : PySem.W.Frag} {tv : TE} {f : Str} (k : tv σ H fun y H1 => ta σ H1 fun x H2 => ∃ a C dx fs, x = .ref a ∧ H2 a = some (.ins C dx fs) ∧ Cls K C ∧ NoAttr K C f ∧ fs.length < 1000 ∧ D.nx σ (upd H2 a (.ins C dx (putF f y fs)))) : sFld K ta tv f D σ H := k
theorem x_dput {td ty tv : TE} (k : tv σ H fun v H1 => td σ H1 fun x H2 => ty σ H2 fun y H3 => ∃ a H4, x = .ref a ∧ DPut H3 a y v H4 ∧ D.nx σ H4) : sDPut td ty tv D σ H := k
theorem x_for {wi : TI} (k : wi σ H fun J H1 => ∃ W : Nat → Nat → St → Hp → Prop, (∃ m, W 0 m σ H1) ∧ ∀ i m σ H, W i m σ H →
  (J.stop i H ∧ D.nx σ H) ∨ (J.go i H ∧ ∃ N : St → Hp → Prop, (∀ σ' H', N σ' H' → ∃ m', m' < m ∧ W (i + 1) m' σ' H') ∧ ∀ x H', J.yld i H x H' → g x σ H' fun σ2 H2 => s1 { D with nx := N, ct := N, bk := D.nx } σ2 H2)) : tFor wi g s1 D σ H := k
theorem x_par {i j : Nat} (k : t σ H fun vs H1 => ∃ v w, vs = [v, w] ∧ D.nx ((σ.set i (some v)).set j (some w)) H1) : tPar i j t D σ H := k
end
/-! tests' ways -/
theorem x_ite {b : Bool} {A C : Prop} (h1 : b = true → A) (h2 : b = false → C) : if b = true then A else C := by
  cases b with
  | true => exact h1 rfl
  | false => exact h2 rfl
theorem x_yes {b : Bool} {A C : Prop} (hb : b = true) (h : A) : if b = true then A else C := by rw [if_pos hb]; exact h
theorem x_no {b : Bool} {A C : Prop} (hb : b = false) (h : C) : if b = true then A else C := by rw [hb, if_neg Bool.false_ne_true]; exact h

/-! ### heaps: what is kept -/
/-- all but what stands in M is kept -/
def Kp (M : Addr → Prop) (H H' : Hp) : Prop := ∀ a o, H a = some o → ¬ M a → H' a = some o
abbrev No : Addr → Prop := fun _ => False
theorem Kp.refl {M : Addr → Prop} (H : Hp) : Kp M H H := fun _ _ h _ => h
theorem Kp.trans {M : Addr → Prop} {H H1 H2 : Hp} (a : Kp M H H1) (b : Kp M H1 H2) : Kp M H H2 := fun x o h m => b x o (a x o h m) m
theorem Kp.mono {M N : Addr → Prop} {H H' : Hp} (a : Kp M H H') (h : ∀ x, M x → N x) : Kp N H H' := fun x o e n => a x o e fun m => n (h x m)
theorem Kp.of0 {M : Addr → Prop} {H H' : Hp} (a : Kp No H H') : Kp M H H' := a.mono fun _ h => h.elim
theorem Kp.new {M : Addr → Prop} {H : Hp} {p : Addr} {o : HO} (h : H p = none) : Kp M H (upd H p o) := fun a u e _ => by
  rw [upd_ne (ne_of_none e h)]
  exact e
theorem Kp.set {M : Addr → Prop} {H : Hp} {p : Addr} {o : HO} (h : M p) : Kp M H (upd H p o) := fun a u e n => by
  rw [upd_ne (fun z => n (by rw [z]; exact h))]
  exact e
/-- a thing that is new since H may be changed -/
theorem Kp.old {M : Addr → Prop} {H H' : Hp} {p : Addr} {o : HO} (a : Kp M H H') (h : H p = none) : Kp M H (upd H' p o) := fun b u e n => by
  rw [upd_ne (ne_of_none e h)]
  exact a b u e n
theorem Kp.at {M : Addr → Prop} {H H' : Hp} {a : Addr} {o : HO} (k : Kp M H H') (h : H a = some o) (n : ¬ M a) : H' a = some o := k a o h n
theorem Kp.at0 {H H' : Hp} {a : Addr} {o : HO} (k : Kp No H H') (h : H a = some o) : H' a = some o := k a o h fun z => z
theorem Kp.free {H H' : Hp} {a : Addr} (k : Kp No H H') (h : H' a = none) : H a = none := by
  cases q : H a with
  | none => rfl
  | some o => rw [k.at0 q] at h; cases h
theorem Kp.freeM {M : Addr → Prop} {H H' : Hp} {a : Addr} (k : Kp M H H') (n : ¬ M a) (h : H' a = none) : H a = none := by
  cases q : H a with
  | none => rfl
  | some o => rw [k a o q n] at h; cases h
theorem Kp.rd {M : Addr → Prop} {H H' : Hp} {a : Addr} {o : HO} (k : Kp M H H') (n : ¬ M a) (h : Rd H a o) : Rd H' a o := by
  rcases h with h | ⟨u, h⟩
  · exact .inl (k a _ h n)
  · exact .inr ⟨u, k a _ h n⟩
theorem Kp.seqL {M : Addr → Prop} {K : PySem.W.Frag} {H H' : Hp} {a : Addr} {xs : List V} (k : Kp M H H') (n : ¬ M a) (h : SqL K H a xs) : SqL K H' a xs := by
  rcases h with h | h
  · exact .inl (k.rd n h)
  · exact .inr h
theorem Kp.seqT {M : Addr → Prop} {K : PySem.W.Frag} {H H' : Hp} {a : Addr} {xs : List V} (k : Kp M H H') (n : ¬ M a) (h : SqT K H a xs) : SqT K H' a xs := by
  rcases h with h | h
  · exact .inl (k.rd n h)
  · exact .inr h

/-! ### fields by a written list of names -/
theorem zip_lookup {k : Str} : ∀ {ks : List Str} {vs : List V} {i : Nat}, ks.findIdx? (· == k) = some i → (ks.zip vs).lookup k = vs[i]?
  | [], _, _, h => by simp at h
  | a :: ks, [], i, h => by simp [List.zip]
  | a :: ks, v :: vs, i, h => by
    rw [List.findIdx?_cons] at h
    rw [List.zip_cons_cons, List.lookup_cons]
    by_cases e : a = k
    · subst e
      simp at h
      subst h
      simp
    · have e1 : (a == k) = false := by simpa using e
      have e2 : (k == a) = false := by simpa using fun z : k = a => e z.symm
      rw [e1] at h
      simp only [Bool.false_eq_true, if_false, Option.map_eq_some_iff] at h
      obtain ⟨j, hj, rfl⟩ := h
      rw [e2]
      simpa using zip_lookup (vs := vs) hj
theorem zip_none {k : Str} : ∀ {ks : List Str} {vs : List V}, ks.contains k = false → (ks.zip vs).lookup k = none
  | [], _, _ => by simp
  | a :: ks, [], _ => by simp [List.zip]
  | a :: ks, v :: vs, h => by
    simp only [List.contains_cons, Bool.or_eq_false_iff] at h
    rw [List.zip_cons_cons, List.lookup_cons, h.1]
    exact zip_none h.2
theorem zip_put {k : Str} {v : V} : ∀ {ks : List Str} {vs : List V} {i : Nat}, ks.findIdx? (· == k) = some i → ks.length = vs.length → putF k v (ks.zip vs) = ks.zip (vs.set i v)
  | [], _, _, h, _ => by simp at h
  | a :: ks, [], i, _, h => by simp at h
  | a :: ks, u :: vs, i, h, hl => by
    rw [List.findIdx?_cons] at h
    rw [List.zip_cons_cons]
    show (if a = k then (a, v) :: ks.zip vs else (a, u) :: putF k v (ks.zip vs)) = _
    by_cases e : a = k
    · subst e
      simp at h
      subst h
      rw [if_pos rfl]
      simp
    · have e1 : (a == k) = false := by simpa using e
      rw [e1] at h
      simp only [Bool.false_eq_true, if_false, Option.map_eq_some_iff] at h
      obtain ⟨j, hj, rfl⟩ := h
      rw [if_neg e, zip_put hj (by simpa using hl)]
      simp
/-! more readings, from the front -/
section
variable {σ : St} {H : Hp} {Q : VK}
theorem x_var {i : Nat} {v : V} (h : σ[i]? = some (some v)) (k : Q v H) : tVar i σ H Q := ⟨v, h, k⟩
theorem x_nx {nx bk ct : St → Hp → Prop} {rt : VK} (k : nx σ H) : Ends.nx (Ends.mk nx rt bk ct) σ H := k
theorem x_rt {nx bk ct : St → Hp → Prop} {rt : VK} {v : V} (k : rt v H) : Ends.rt (Ends.mk nx rt bk ct) v H := k
theorem x_eq {x y : V} (h : scal x y = true) (k : Q (.bl (decide (x = y))) H) : rEq x y H Q := ⟨h, k⟩
theorem x_ne {x y : V} (h : scal x y = true) (k : Q (.bl (!decide (x = y))) H) : rNe x y H Q := ⟨h, k⟩
theorem x_i0 {g : Int → Int → V} {i j : Int} (k : Q (g i j) H) : rI0 g (.int i) (.int j) H Q := ⟨i, j, rfl, rfl, k⟩
theorem x_i {C : Int → Int → Prop} {g : Int → Int → V} {i j : Int} (c : C i j) (k : Q (g i j) H) : rI C g (.int i) (.int j) H Q := ⟨i, j, rfl, rfl, c, k⟩
theorem x_mod {i j : Int} (c : 0 < j) (k : Q (.int (i % j)) H) : rI (fun _ j => 0 < j) (fun i j => .int (i % j)) (.int i) (.int j) H Q := ⟨i, j, rfl, rfl, c, k⟩
theorem x_u {g : Int → V} {i : Int} (k : Q (g i) H) : rU g (.int i) H Q := ⟨i, rfl, k⟩
theorem x_exbl {b : Bool} {P : Bool → Prop} (k : P b) : ∃ c, V.bl b = .bl c ∧ P c := ⟨b, rfl, k⟩
theorem x_tyes {QT : Bool → Hp → Prop} (k : QT true H) : tYes σ H QT := k
theorem x_isN {x : V} (k : Q (.bl (decide (x = .non))) H) : (fun (x y : V) (H : Hp) (Q : VK) => y = .non ∧ Q (.bl (decide (x = .non))) H) x .non H Q := ⟨rfl, k⟩
theorem x_notN {x : V} (k : Q (.bl (!decide (x = .non))) H) : (fun (x y : V) (H : Hp) (Q : VK) => y = .non ∧ Q (.bl (!decide (x = .non))) H) x .non H Q := ⟨rfl, k⟩
theorem x_sp1 {p : V → Hp → VK → XK → Prop} {a : V} {E : XK} (k : p a H Q E) : sp1 p [a] H Q E := ⟨a, rfl, k⟩
theorem x_sp2 {p : V → V → Hp → VK → XK → Prop} {a b : V} {E : XK} (k : p a b H Q E) : sp2 p [a, b] H Q E := ⟨a, b, rfl, k⟩
theorem x_sp3 {p : V → V → V → Hp → VK → XK → Prop} {a b c : V} {E : XK} (k : p a b c H Q E) : sp3 p [a, b, c] H Q E := ⟨a, b, c, rfl, k⟩
theorem x_sp4 {p : V → V → V → V → Hp → VK → XK → Prop} {a b c d : V} {E : XK} (k : p a b c d H Q E) : sp4 p [a, b, c, d] H Q E := ⟨a, b, c, d, rfl, k⟩
theorem x_ifyes {b : Bool} {A C : Prop} (hb : b = true) (h : A) : if b = true then A else C := by rw [if_pos hb]; exact h
theorem x_ifno {b : Bool} {A C : Prop} (hb : b = false) (h : C) : if b = true then A else C := by rw [hb, if_neg Bool.false_ne_true]; exact h
theorem x_start {t : TS} {D : Ends} {σ' : St} (e : σ = σ') (k : t D σ' H) : t D σ H := by rw [e]; exact k
theorem x_ixL {K : PySem.W.Frag} {p : Addr} {xs : List V} {i : Int} {v : V} (h : SqL K H p xs) (ha : atI xs i = some v) (k : Q v H) : rIxL K (.ref p) (.int i) H Q := ⟨p, xs, i, v, rfl, rfl, h, ha, k⟩
theorem x_ixT {K : PySem.W.Frag} {p : Addr} {xs : List V} {i : Int} {v : V} (h : SqT K H p xs) (ha : atI xs i = some v) (k : Q v H) : rIxT K (.ref p) (.int i) H Q := ⟨p, xs, i, v, rfl, rfl, h, ha, k⟩
theorem x_setL {p : Addr} {xs : List V} {i : Int} {j : Nat} {v : V} {Q : Hp → Prop} (h : H p = some (.lst xs)) (hj : ixN xs.length i = some j) (k : Q (upd H p (.lst (xs.set j v)))) : rSetL (.ref p) (.int i) v H Q := ⟨p, xs, i, j, rfl, rfl, h, hj, k⟩
end
/-! isinstance, len -/
theorem kb_NoneType_int : kitB "NoneType" "int" = some false := by decide +kernel
theorem kb_NoneType_bool : kitB "NoneType" "bool" = some false := by decide +kernel
theorem kb_NoneType_str : kitB "NoneType" "str" = some false := by decide +kernel
theorem kb_NoneType_tuple : kitB "NoneType" "tuple" = some false := by decide +kernel
theorem kb_NoneType_list : kitB "NoneType" "list" = some false := by decide +kernel
theorem kb_bool_int : kitB "bool" "int" = some true := by decide +kernel
theorem kb_bool_bool : kitB "bool" "bool" = some true := by decide +kernel
theorem kb_bool_str : kitB "bool" "str" = some false := by decide +kernel
theorem kb_bool_tuple : kitB "bool" "tuple" = some false := by decide +kernel
theorem kb_bool_list : kitB "bool" "list" = some false := by decide +kernel
theorem kb_int_int : kitB "int" "int" = some true := by decide +kernel
theorem kb_int_bool : kitB "int" "bool" = some false := by decide +kernel
theorem kb_int_str : kitB "int" "str" = some false := by decide +kernel
theorem kb_int_tuple : kitB "int" "tuple" = some false := by decide +kernel
theorem kb_int_list : kitB "int" "list" = some false := by decide +kernel
theorem kb_str_int : kitB "str" "int" = some false := by decide +kernel
theorem kb_str_bool : kitB "str" "bool" = some false := by decide +kernel
theorem kb_str_str : kitB "str" "str" = some true := by decide +kernel
theorem kb_str_tuple : kitB "str" "tuple" = some false := by decide +kernel
theorem kb_str_list : kitB "str" "list" = some false := by decide +kernel
theorem kb_list_int : kitB "list" "int" = some false := by decide +kernel
theorem kb_list_bool : kitB "list" "bool" = some false := by decide +kernel
theorem kb_list_str : kitB "list" "str" = some false := by decide +kernel
theorem kb_list_tuple : kitB "list" "tuple" = some false := by decide +kernel
theorem kb_list_list : kitB "list" "list" = some true := by decide +kernel
theorem kb_tuple_int : kitB "tuple" "int" = some false := by decide +kernel
theorem kb_tuple_bool : kitB "tuple" "bool" = some false := by decide +kernel
theorem kb_tuple_str : kitB "tuple" "str" = some false := by decide +kernel
theorem kb_tuple_tuple : kitB "tuple" "tuple" = some true := by decide +kernel
theorem kb_tuple_list : kitB "tuple" "list" = some false := by decide +kernel
section
variable {K : PySem.W.Frag} {H : Hp} {Q : VK}
theorem x_isi {x : V} {a T : String} {b : Bool} (ty : TyX K H x (.type a)) (e : kitB a T = some b) (k : Q (.bl b) H) : rIsi K [x, .ty T] H Q := ⟨x, .ty T, .type a, .type T, b, rfl, .ty T, ty, kit_ty e, k⟩
theorem x_lenS {R : Str → Prop} {x : Str} (h : x.length ≤ sizeLine) (k : R x) : ∃ z : Str, [V.str x] = [V.str z] ∧ z.length ≤ sizeLine ∧ R z := ⟨x, rfl, h, k⟩
end
/-! ### the rules with the written part named -/
section
variable {X : Cx} (K : PySem.W.Frag)
theorem ixL (hK : X.K = K := by rfl) : IxR X (rIxL K) := hK ▸ ix_list
theorem ixT (hK : X.K = K := by rfl) : IxR X (rIxT K) := hK ▸ ix_tup
theorem inS (hK : X.K = K := by rfl) : OpR X (compareOp .In) (rIn K false) := hK ▸ op_in_seq
theorem ninS (hK : X.K = K := by rfl) : OpR X (compareOp .NotIn) (rIn K true) := hK ▸ op_notIn_seq
theorem eqD (hu : X.A.units + 64 < cLine) (hK : X.K = K := by rfl) : OpR X (compareOp .Eq) (rEqD K) := hK ▸ op_eqD hu
theorem neD (hu : X.A.units + 64 < cLine) (hK : X.K = K := by rfl) : OpR X (compareOp .NotEq) (rNeD K) := hK ▸ op_neD hu
theorem catT (hK : X.K = K := by rfl) : OpR X (binaryOp .Add) (rCatT K) := hK ▸ op_catT
theorem slL (hK : X.K = K := by rfl) : SlR X (rSlL K) := hK ▸ sl_list
theorem slT (hK : X.K = K := by rfl) : SlR X (rSlT K) := hK ▸ sl_tup
theorem isi1 (hK : X.K = K := by rfl) : CallR X (.builtin "isinstance") (rIsi K) := hK ▸ call_isi
theorem isiT (hK : X.K = K := by rfl) : CallR X (.builtin "isinstance") (rIsiT K) := hK ▸ call_isiT
/-- len of a list or tuple -/
def rLenS (K : PySem.W.Frag) : List V → Hp → VK → Prop := fun xs H Q => ∃ p ys, xs = [.ref p] ∧ (SqL K H p ys ∨ SqT K H p ys) ∧ Q (.int ys.length) H
theorem lenS (hK : X.K = K := by rfl) : CallR X (.builtin "len") (rLenS K) := hK ▸ call_len_seq
/-- list(..), tuple(..) -/
def rListOf (K : PySem.W.Frag) : List V → Hp → VK → Prop := fun xs H Q => ∃ p ys, xs = [.ref p] ∧ (SqL K H p ys ∨ SqT K H p ys) ∧ ∀ l, H l = none → Q (.ref l) (upd H l (.lst ys))
theorem listOf (hK : X.K = K := by rfl) : CallR X (.type "list") (rListOf K) := hK ▸ call_list_of
def rTupOf (K : PySem.W.Frag) : List V → Hp → VK → Prop := fun xs H Q => ∃ p ys, xs = [.ref p] ∧ ((SqL K H p ys ∧ ∀ l, H l = none → Q (.ref l) (upd H l (.tup ys))) ∨ (SqT K H p ys ∧ Q (.ref p) H))
theorem tupOf (hK : X.K = K := by rfl) : CallR X (.type "tuple") (rTupOf K) := hK ▸ call_tuple_of
theorem fldK {e : Expr} {f : Str} {pos : Pos} {ta : TE} (he : PE X e ta) (hb : attributeBase e f X.env (eval e X.env) = eval e X.env := by rfl) (hK : X.K = K := by rfl) : PE X (.Attribute e f pos) (tFld K ta f) := hK ▸ pe_fld he hb
theorem sfldK {o value : Expr} {f : Str} {pos pos' : Pos} {ta tv : TE} (ha : PE X o ta) (hv : PE X value tv) (hs : swapsWith value (some (.Attribute o f pos')) pos.line X.env = pure false := by rfl) (hK : X.K = K := by rfl) : PS X (.Assign [.Attribute o f pos'] value pos) (sFld K ta tv f) := hK ▸ ps_fld ha hv hs
theorem piL {tg l : Expr} {tl : TE} (hl : PE X l tl) (hK : X.K = K := by rfl) : PI X tg l (iList K tl) := hK ▸ pi_list hl
theorem piT {tg l : Expr} {tl : TE} (hl : PE X l tl) (hK : X.K = K := by rfl) : PI X tg l (iTup K tl) := hK ▸ pi_tup hl
theorem pgT {es : List Expr} {k : Nat} {t : TGs} {n : Nat} {pos : Pos} (hc : X.calm = true) (h : PGs X es t)
    (hn : (assignEach es X.env).length = n := by rfl) (hst : (assignEach es X.env).findIdx? (·.1) = none := by rfl) (hK : X.K = K := by rfl) : PG X (.Tuple es k pos) (gTup K n t) := hK ▸ pg_tup hc h hn hst
variable {o e : Expr} {es : List Expr} {to : TE} {t : TA} {name : Str} {apos cpos : Pos} {T id : String} {r : V → List V → Hp → VK → Prop}
theorem bm0 (pa : PlainAttrs T) (slot : Slot T name id) (hty : typeOf (.builtin id) = pure (.type "method_descriptor")) (hm : MtR X id r) (ho : PE X o to)
    (hbase : attributeBase o name X.env (eval o X.env) = eval o X.env := by rfl) (hline : (apos.endLine == cpos.line) = true := by rfl) (hK : X.K = K := by rfl) : PE X (.Call (.Attribute o name apos) [] [] cpos) (tBM0 K T r to) := hK ▸ pe_bm0 pa slot hty hm ho hbase hline
end
section
variable {X : Cx} (K : PySem.W.Frag) {o e : Expr} {es : List Expr} {to : TE} {t : TA} {name : Str} {apos cpos : Pos} {T id : String} {r : V → List V → Hp → VK → Prop}
theorem bm (pa : PlainAttrs T) (slot : Slot T name id) (hty : typeOf (.builtin id) = pure (.type "method_descriptor")) (hm : MtR X id r) (ho : PE X o to) (ha : PA X (e :: es) t)
    (hbase : attributeBase o name X.env (eval o X.env) = eval o X.env := by rfl)
    (hfew : ((backTo cpos (starEach (e :: es) X.env)).all (fun x => !x.1) && (backToKw cpos (keywordEach [] X.env)).all (fun x => x.1.isSome)
      && decide ((e :: es).length + ([] : List Keyword).length + (if ([] : List Keyword).isEmpty then 0 else 1) < 30)) = true := by rfl)
    (hline : (apos.endLine == cpos.line) = true := by rfl) (hs : starEach (e :: es) X.env = (false, eval e X.env) :: starEach es X.env := by rfl) (hplain : (backTo cpos (starEach es X.env)).any (·.1) = false := by rfl) (hK : X.K = K := by rfl) :
    PE X (.Call (.Attribute o name apos) (e :: es) [] cpos) (tBM K T r to t) := hK ▸ pe_bm pa slot hty hm ho ha hbase hfew hline hs hplain
/-- a dict of the module, its keys texts -/
def KD (K : PySem.W.Frag) (w : World) (d : Addr) : Prop := ∃ es n, KDict K w d es n
def rInKD (K : PySem.W.Frag) (d : Addr) : R2 := fun x y H Q => ∃ (z : Str) (r : Option Value), x = .str z ∧ y = .ref d ∧ PySem.W.nsIn K d z = some r ∧ Q (.bl r.isSome) H
def rNinKD (K : PySem.W.Frag) (d : Addr) : R2 := fun x y H Q => ∃ (z : Str) (r : Option Value), x = .str z ∧ y = .ref d ∧ PySem.W.nsIn K d z = some r ∧ Q (.bl (!r.isSome)) H
theorem inKD {w : World} {d : Addr} (D : KD K w d) (hK : X.K = K := by rfl) (hw : X.w = w := by rfl) : OpR X (compareOp .In) (rInKD K d) := by
  obtain ⟨es, n, D⟩ := D
  subst hK hw
  exact op_in_kd D
theorem ninKD {w : World} {d : Addr} (D : KD K w d) (hK : X.K = K := by rfl) (hw : X.w = w := by rfl) : OpR X (compareOp .NotIn) (rNinKD K d) := by
  obtain ⟨es, n, D⟩ := D
  subst hK hw
  exact op_notIn_kd D
def rIxKD (K : PySem.W.Frag) (d : Addr) : R2 := fun x y H Q => ∃ (z : Str) (u : Value) (v : V), x = .ref d ∧ y = .str z ∧ PySem.W.nsIn K d z = some (some u) ∧ RelV v u ∧ Q v H
theorem IxR.imp {r r' : R2} (h : IxR X r) (i : ∀ x y H Q, r' x y H Q → r x y H Q) : IxR X r' := by
  intro value slice pins s σ H x y v u Q I rx ry q hs
  exact h value slice pins s σ H x y v u Q I rx ry (i _ _ _ _ q) hs
theorem ixKD {w : World} {d : Addr} (D : KD K w d) (hK : X.K = K := by rfl) (hw : X.w = w := by rfl) : IxR X (rIxKD K d) := by
  obtain ⟨es, n, D⟩ := D
  subst hK hw
  refine IxR.imp ix_kdict fun x y H Q ⟨z, u, v, e1, e2, e3, e4, q⟩ => ⟨d, z, v, e1, e2, ⟨es, n, u, D.at_, D.lit, e3, e4⟩, q⟩
end
section
variable {K : PySem.W.Frag} {H : Hp} {Q : VK} {q d : Addr} {ys : List V}
theorem x_lenL (h : SqL K H q ys) (k : Q (.int ys.length) H) : rLenS K [.ref q] H Q := ⟨q, ys, rfl, .inl h, k⟩
theorem x_lenT (h : SqT K H q ys) (k : Q (.int ys.length) H) : rLenS K [.ref q] H Q := ⟨q, ys, rfl, .inr h, k⟩
theorem x_listL (h : SqL K H q ys) (k : ∀ l, H l = none → Q (.ref l) (upd H l (.lst ys))) : rListOf K [.ref q] H Q := ⟨q, ys, rfl, .inl h, k⟩
theorem x_listT (h : SqT K H q ys) (k : ∀ l, H l = none → Q (.ref l) (upd H l (.lst ys))) : rListOf K [.ref q] H Q := ⟨q, ys, rfl, .inr h, k⟩
theorem x_tupL (h : SqL K H q ys) (k : ∀ l, H l = none → Q (.ref l) (upd H l (.tup ys))) : rTupOf K [.ref q] H Q := ⟨q, ys, rfl, .inl ⟨h, k⟩⟩
theorem x_tupT (h : SqT K H q ys) (k : Q (.ref q) H) : rTupOf K [.ref q] H Q := ⟨q, ys, rfl, .inr ⟨h, k⟩⟩
theorem x_inT {v : V} (h : SqT K H q ys) (hv : flatV v = true) (hf : ys.all flatV = true) (k : Q (.bl (inV v ys)) H) : rIn K false v (.ref q) H Q := ⟨q, ys, rfl, .inr h, hv, hf, k⟩
theorem x_inL {v : V} (h : SqL K H q ys) (hv : flatV v = true) (hf : ys.all flatV = true) (k : Q (.bl (inV v ys)) H) : rIn K false v (.ref q) H Q := ⟨q, ys, rfl, .inl h, hv, hf, k⟩
theorem x_ninL {v : V} (h : SqL K H q ys) (hv : flatV v = true) (hf : ys.all flatV = true) (k : Q (.bl (!inV v ys)) H) : rIn K true v (.ref q) H Q := ⟨q, ys, rfl, .inl h, hv, hf, k⟩
theorem x_ninKD {z : Str} {r : Option Value} (h : PySem.W.nsIn K d z = some r) (k : Q (.bl (!r.isSome)) H) : rNinKD K d (.str z) (.ref d) H Q := ⟨z, r, rfl, rfl, h, k⟩
theorem x_inKD {z : Str} {r : Option Value} (h : PySem.W.nsIn K d z = some r) (k : Q (.bl r.isSome) H) : rInKD K d (.str z) (.ref d) H Q := ⟨z, r, rfl, rfl, h, k⟩
theorem x_ixKD {z : Str} {u : Value} {v : V} (h : PySem.W.nsIn K d z = some (some u)) (r : RelV v u) (k : Q v H) : rIxKD K d (.ref d) (.str z) H Q := ⟨z, u, v, rfl, rfl, h, r, k⟩
theorem x_ixS {z : Str} {i : Int} {c : Nat} (hz : z.length ≤ sizeLine) (h : atI z.cps.toList i = some c) (k : Q (.str ⟨#[c]⟩) H) : rIxS (.str z) (.int i) H Q := ⟨z, i, c, rfl, rfl, hz, h, k⟩
end
end B
namespace B
open PySem PySem.Spec PyProof.Rows L2
/-! ### flat data -/
def fd : V → PyData
  | .bl b => .bool b
  | .int i => .int i
  | .str x => .str x
  | _ => .none
def okF : V → Bool
  | .non => true
  | .bl _ => true
  | .int _ => true
  | .str x => PyData.strOk x
  | _ => false
section
variable {K : PySem.W.Frag} {H : Hp} {Q : VK} {a b : Addr} {xs : List V}
theorem dp_flat {x : V} (h : okF x = true) : Dp K H x (fd x) := by
  cases x <;> first | exact .non | exact .bl _ | exact .int _ | exact .str _ | cases h
theorem dpAll_flat : ∀ {xs : List V}, xs.all okF = true → DpAll K H xs (xs.map fd)
  | [], _ => .nil
  | x :: r, h => by
    rw [List.all_cons, Bool.and_eq_true] at h
    exact .cons (dp_flat h.1) (dpAll_flat h.2)
theorem lay_flat : ∀ {xs : List V}, xs.all okF = true → PyData.canLayAll0 (xs.map fd) = true
  | [], _ => by simp [PyData.canLayAll0]
  | x :: r, h => by
    rw [List.all_cons, Bool.and_eq_true] at h
    rw [List.map_cons, PyData.canLayAll0, lay_flat h.2, Bool.and_true]
    cases x <;> first | (simp only [fd, PyData.canLay0]; try exact h.1) | cases h.1
theorem depth_flat : ∀ {xs : List V}, PyData.depthAll (xs.map fd) = 0
  | [] => by simp [PyData.depthAll]
  | x :: r => by
    rw [List.map_cons, PyData.depthAll, depth_flat]
    cases x <;> simp [fd, PyData.depth]
theorem shaped_flatL (h : xs.all okF = true) : SeqAt.shaped (.list (xs.map fd)) = true := by
  unfold SeqAt.shaped
  rw [Bool.and_eq_true]
  exact ⟨by rw [PyData.canLay0]; exact lay_flat h, decide_eq_true (by rw [PyData.depth, depth_flat]; decide)⟩
theorem shaped_flatT (h : xs.all okF = true) : SeqAt.shaped (.tuple (xs.map fd)) = true := by
  unfold SeqAt.shaped
  rw [Bool.and_eq_true]
  exact ⟨by rw [PyData.canLay0]; exact lay_flat h, decide_eq_true (by rw [PyData.depth, depth_flat]; decide)⟩
theorem eqv_nilL : PyData.eqv (.list (xs.map fd)) (.list []) = xs.isEmpty := by
  cases xs <;> simp [PyData.eqv, PyData.eqvAll]
theorem eqv_nilT : PyData.eqv (.tuple (xs.map fd)) (.tuple []) = xs.isEmpty := by
  cases xs <;> simp [PyData.eqv, PyData.eqvAll]
theorem x_eqNilL (ha : SqL K H a xs) (hb : SqL K H b []) (hf : xs.all okF = true) (k : Q (.bl xs.isEmpty) H) : rEqD K (.ref a) (.ref b) H Q :=
  ⟨_, _, .lst ha (dpAll_flat hf), .lst hb .nil, shaped_flatL hf, by decide, by rw [eqv_nilL]; exact k⟩
theorem x_neNilL (ha : SqL K H a xs) (hb : SqL K H b []) (hf : xs.all okF = true) (k : Q (.bl (!xs.isEmpty)) H) : rNeD K (.ref a) (.ref b) H Q :=
  ⟨_, _, .lst ha (dpAll_flat hf), .lst hb .nil, shaped_flatL hf, by decide, by rw [eqv_nilL]; exact k⟩
theorem x_eqNilT (ha : SqT K H a xs) (hb : SqT K H b []) (hf : xs.all okF = true) (k : Q (.bl xs.isEmpty) H) : rEqD K (.ref a) (.ref b) H Q :=
  ⟨_, _, .tup ha (dpAll_flat hf), .tup hb .nil, shaped_flatT hf, by decide, by rw [eqv_nilT]; exact k⟩
/-- a tuple that holds anything readable is not () -/
theorem x_eqNilTD {ds : List PyData} (ha : Dp K H (.ref a) (.tuple ds)) (hs : SeqAt.shaped (.tuple ds) = true) (hb : SqT K H b []) (k : Q (.bl ds.isEmpty) H) : rEqD K (.ref a) (.ref b) H Q :=
  ⟨_, _, ha, .tup hb .nil, hs, by decide, by rw [show PyData.eqv (.tuple ds) (.tuple []) = ds.isEmpty by cases ds <;> simp [PyData.eqv, PyData.eqvAll]]; exact k⟩
end

/-! ### loops, comprehensions -/
def LC (J : It) (g : TG) (tt : TT) (te : TE) (vs : List Nat) (σ : St) (H1 : Hp) (Q : VK) : Prop := ∀ D, H1 D = none → ∃ W : Nat → Nat → Hp → Prop, (∃ m, W 0 m (upd H1 D (.lst []))) ∧ ∀ i m H, W i m H →
  (J.stop i H ∧ Q (.ref D) H) ∨ (J.go i H ∧ ∃ Nx : Hp → Prop, (∀ H', Nx H' → ∃ m', m' < m ∧ W (i + 1) m' H') ∧ ∀ x H', J.yld i H x H' → g x (wipe σ vs) H' fun σ2 H2 => wipe σ2 vs = wipe σ vs ∧ tt σ2 H2 fun b H3 =>
    if b = true then te σ2 H3 fun y H4 => ∃ acc, H4 D = some (.lst acc) ∧ acc.length < sizeLine ∧ Nx (upd H4 D (.lst (acc ++ [y]))) else Nx H3)
def FR (J : It) (g : TG) (tb : TS) (D : Ends) (σ : St) (H1 : Hp) : Prop := ∃ W : Nat → Nat → St → Hp → Prop, (∃ m, W 0 m σ H1) ∧ ∀ i m σ H, W i m σ H →
  (J.stop i H ∧ D.nx σ H) ∨ (J.go i H ∧ ∃ N : St → Hp → Prop, (∀ σ' H', N σ' H' → ∃ m', m' < m ∧ W (i + 1) m' σ' H') ∧ ∀ x H', J.yld i H x H' → g x σ H' fun σ2 H2 => tb { D with nx := N, ct := N, bk := D.nx } σ2 H2)
section
variable {K : PySem.W.Frag} {σ : St} {H : Hp} {Q : VK} {wi : TI} {g : TG} {tt : TT} {te tl : TE} {vs : List Nat} {tb : TS} {D : Ends} {a : Addr} {xs : List V}
theorem x_lc (k : wi σ H fun J H1 => LC J g tt te vs σ H1 Q) : tLc wi g tt te vs σ H Q := k
theorem x_forr (k : wi σ H fun J H1 => FR J g tb D σ H1) : tFor wi g tb D σ H := k
theorem x_iR1 {ta : TA} {R : It → Hp → Prop} (k : ta σ H fun vs H1 => ∃ j : Int, vs = [.int j] ∧ -(2 ^ 62) ≤ j ∧ j < 2 ^ 62 ∧ R (Itr 0 j.toNat) H1) : iRng1 ta σ H R := k
theorem x_iR2 {ta : TA} {R : It → Hp → Prop} (k : ta σ H fun vs H1 => ∃ i j : Int, vs = [.int i, .int j] ∧ (-(2 ^ 62) ≤ i ∧ i < 2 ^ 62 ∧ -(2 ^ 62) ≤ j ∧ j < 2 ^ 62) ∧ R (Itr i (j - i).toNat) H1) : iRng2 ta σ H R := k
theorem x_iL {R : It → Hp → Prop} (k : tl σ H fun x H1 => ∃ a, x = .ref a ∧ (∃ xs, SqL K H1 a xs) ∧ R (Itl K a) H1) : iList K tl σ H R := k
theorem x_iT {R : It → Hp → Prop} (k : tl σ H fun x H1 => ∃ a, x = .ref a ∧ (∃ xs, SqT K H1 a xs) ∧ R (Itt K a) H1) : iTup K tl σ H R := k
theorem x_eL {R : Addr → Prop} (h : SqL K H a xs) (k : R a) : ∃ b, V.ref a = .ref b ∧ (∃ xs, SqL K H b xs) ∧ R b := ⟨a, rfl, ⟨xs, h⟩, k⟩
theorem x_eT {R : Addr → Prop} (h : SqT K H a xs) (k : R a) : ∃ b, V.ref a = .ref b ∧ (∃ xs, SqT K H b xs) ∧ R b := ⟨a, rfl, ⟨xs, h⟩, k⟩
theorem x_eR1 {R : Int → Prop} {n : Int} (h : 0 ≤ n ∧ n < 2 ^ 62) (k : R n) : ∃ j : Int, [V.int n] = [.int j] ∧ -(2 ^ 62) ≤ j ∧ j < 2 ^ 62 ∧ R j := ⟨n, rfl, by omega, h.2, k⟩
theorem fr_l (xs : List V) (Pv : Nat → St → Hp → Prop) (h0 : Pv 0 σ H) (hl : ∀ i σ H, i ≤ xs.length → Pv i σ H → SqL K H a xs)
    (hs : ∀ i x σ H, xs[i]? = some x → Pv i σ H → g x σ H fun σ2 H2 => tb { D with nx := Pv (i + 1), ct := Pv (i + 1), bk := D.nx } σ2 H2) (hd : ∀ σ H, Pv xs.length σ H → D.nx σ H) : FR (Itl K a) g tb D σ H := for_list Pv h0 hl hs hd
theorem fr_t (xs : List V) (Pv : Nat → St → Hp → Prop) (h0 : Pv 0 σ H) (hl : ∀ i σ H, i ≤ xs.length → Pv i σ H → SqT K H a xs)
    (hs : ∀ i x σ H, xs[i]? = some x → Pv i σ H → g x σ H fun σ2 H2 => tb { D with nx := Pv (i + 1), ct := Pv (i + 1), bk := D.nx } σ2 H2) (hd : ∀ σ H, Pv xs.length σ H → D.nx σ H) : FR (Itt K a) g tb D σ H := for_tup Pv h0 hl hs hd
theorem fr_r {n : Nat} (Pv : Nat → St → Hp → Prop) (h0 : Pv 0 σ H)
    (hs : ∀ (i : Nat) σ H, i < n → Pv i σ H → g (.int (i : Int)) σ H fun σ2 H2 => tb { D with nx := Pv (i + 1), ct := Pv (i + 1), bk := D.nx } σ2 H2) (hd : ∀ σ H, Pv n σ H → D.nx σ H) : FR (Itr 0 n) g tb D σ H :=
  for_range Pv h0 (fun i σ H hi p => by rw [Int.zero_add]; exact hs i σ H hi p) hd
theorem lc_l (xs : List V) (Pv : Addr → Nat → Hp → Prop) (h0 : ∀ D, H D = none → Pv D 0 (upd H D (.lst []))) (hl : ∀ D i H', i ≤ xs.length → Pv D i H' → SqL K H' a xs)
    (hs : ∀ D i x H', H D = none → xs[i]? = some x → Pv D i H' → g x (wipe σ vs) H' fun σ2 H2 => wipe σ2 vs = wipe σ vs ∧ tt σ2 H2 fun b H3 =>
      if b = true then te σ2 H3 fun y H4 => ∃ acc, H4 D = some (.lst acc) ∧ acc.length < sizeLine ∧ Pv D (i + 1) (upd H4 D (.lst (acc ++ [y]))) else Pv D (i + 1) H3) (hd : ∀ D H', H D = none → Pv D xs.length H' → Q (.ref D) H') :
    LC (Itl K a) g tt te vs σ H Q := fun D hD => lc_list (Pv D) (h0 D hD) (hl D) (fun i x H' hx p => hs D i x H' hD hx p) (fun H' p => hd D H' hD p)
theorem lc_t (xs : List V) (Pv : Addr → Nat → Hp → Prop) (h0 : ∀ D, H D = none → Pv D 0 (upd H D (.lst []))) (hl : ∀ D i H', i ≤ xs.length → Pv D i H' → SqT K H' a xs)
    (hs : ∀ D i x H', H D = none → xs[i]? = some x → Pv D i H' → g x (wipe σ vs) H' fun σ2 H2 => wipe σ2 vs = wipe σ vs ∧ tt σ2 H2 fun b H3 =>
      if b = true then te σ2 H3 fun y H4 => ∃ acc, H4 D = some (.lst acc) ∧ acc.length < sizeLine ∧ Pv D (i + 1) (upd H4 D (.lst (acc ++ [y]))) else Pv D (i + 1) H3) (hd : ∀ D H', H D = none → Pv D xs.length H' → Q (.ref D) H') :
    LC (Itt K a) g tt te vs σ H Q := fun D hD => lc_tup (Pv D) (h0 D hD) (hl D) (fun i x H' hx p => hs D i x H' hD hx p) (fun H' p => hd D H' hD p)
theorem lc_r {n : Nat} (Pv : Addr → Nat → Hp → Prop) (h0 : ∀ D, H D = none → Pv D 0 (upd H D (.lst [])))
    (hs : ∀ D (i : Nat) H', H D = none → i < n → Pv D i H' → g (.int (i : Int)) (wipe σ vs) H' fun σ2 H2 => wipe σ2 vs = wipe σ vs ∧ tt σ2 H2 fun b H3 =>
      if b = true then te σ2 H3 fun y H4 => ∃ acc, H4 D = some (.lst acc) ∧ acc.length < sizeLine ∧ Pv D (i + 1) (upd H4 D (.lst (acc ++ [y]))) else Pv D (i + 1) H3) (hd : ∀ D H', H D = none → Pv D n H' → Q (.ref D) H') :
    LC (Itr 0 n) g tt te vs σ H Q := fun D hD => lc_range (lo := 0) (n := n) (Pv D) (h0 D hD) (fun i H' hi p => by rw [Int.zero_add]; exact hs D i H' hD hi p) (fun H' p => hd D H' hD p)
theorem x_while {c : TT} (Pv : Nat → St → Hp → Prop) (m : Nat) (h0 : Pv m σ H) (hs : ∀ m σ H, Pv m σ H →
  c σ H fun b H1 => if b = true then ∃ N : St → Hp → Prop, (∀ σ' H', N σ' H' → ∃ m', m' < m ∧ Pv m' σ' H') ∧ tb { D with nx := N, ct := N, bk := D.nx } σ H1 else D.nx σ H1) : tWhile c tb D σ H := ⟨Pv, ⟨m, h0⟩, hs⟩
end

/-! ### displays of dicts, small rules -/
section
variable {σ : St} {H : Hp} {Q : VK} {K : PySem.W.Frag}
theorem x_nn {R : Prop} (k : R) : V.non = V.non ∧ R := ⟨rfl, k⟩
theorem x_intB {R1 : Int → Prop} {R2 : Bool → Prop} {b : Bool} (k : R2 b) : (∃ i, [V.bl b] = [V.int i] ∧ R1 i) ∨ ∃ k, [V.bl b] = [V.bl k] ∧ R2 k := .inr ⟨b, rfl, k⟩
theorem x_intI {R1 : Int → Prop} {R2 : Bool → Prop} {i : Int} (k : R1 i) : (∃ j, [V.int i] = [V.int j] ∧ R1 j) ∨ ∃ k, [V.int i] = [V.bl k] ∧ R2 k := .inl ⟨i, rfl, k⟩
theorem x_max {R : Int → Int → Prop} {i j : Int} (k : R i j) : ∃ a b, [V.int i, V.int j] = [.int a, .int b] ∧ R a b := ⟨i, j, rfl, k⟩
theorem x_cut {t u : TS} {D : Ends} (Mid : St → Hp → Prop) (h : t { D with nx := Mid } σ H) (k : ∀ σ' H', Mid σ' H' → u D σ' H') : Evl.tCut t u D σ H := ⟨Mid, h, k⟩
theorem x_disp {trs : List (TE × TE)} (k : ∀ p, H p = none → tPairs trs σ (upd H p (.dK [])) fun ps H2 => H2 p = some (.dK []) ∧ ∃ kvs : List (Key × V), ps = kvs.map (fun kv => (kV kv.1, kv.2)) ∧ kvs.length ≤ 15 ∧ Q (.ref p) (upd H2 p (.dK (mergeK [] kvs)))) : tDisp trs σ H Q := k
theorem x_pcons {tk tv : TE} {r : List (TE × TE)} {Q : List (V × V) → Hp → Prop} (k : tk σ H fun x H1 => tv σ H1 fun y H2 => tPairs r σ H2 fun ps H3 => Q ((x, y) :: ps) H3) : tPairs ((tk, tv) :: r) σ H Q := k
theorem x_pnil {Q : List (V × V) → Hp → Prop} (k : Q [] H) : tPairs [] σ H Q := k
theorem x_gtup {n : Nat} {t : TGs} {a : Addr} {xs : List V} {Q : St → Hp → Prop} (h : SqT K H a xs) (hl : xs.length = n) (k : t xs σ H Q) : gTup K n t (.ref a) σ H Q := ⟨a, xs, rfl, h, hl, k⟩
theorem x_gnil {Q : St → Hp → Prop} (k : Q σ H) : gNil [] σ H Q := ⟨rfl, k⟩
theorem x_gcons {t : TG} {u : TGs} {v : V} {r : List V} {Q : St → Hp → Prop} (k : t v σ H fun σ' H' => u r σ' H' Q) : gCons t u (v :: r) σ H Q := ⟨v, r, rfl, k⟩
/-- the size's premise of a display, its new address -/
theorem x_new {n : Nat} {R : Prop} (h : n ≤ 100000) (k : R) : n ≤ sizeLine ∧ R := ⟨Nat.le_trans h (by decide), k⟩
theorem x_app {l : Addr} {xs : List V} {y : V} (h : H l = some (.lst xs)) (hz : xs.length < 16777216) (k : Q .non (upd H l (.lst (xs ++ [y])))) : rAppend (.ref l) [y] H Q := ⟨l, xs, y, rfl, rfl, h, by rw [sizeLine_eq]; exact hz, k⟩
theorem x_tyL {p : Addr} {xs : List V} {R : Prop} (h : SqL K H p xs) (k : R) : tyV K "list" (.ref p) H ∧ R := ⟨.inl ⟨rfl, _, h⟩, k⟩
theorem x_pop0 {l : Addr} {x : V} {xs : List V} (h : H l = some (.lst (x :: xs))) (k : Q x (upd H l (.lst xs))) : rPopAt (.ref l) [.int 0] H Q :=
  ⟨l, x :: xs, 0, 0, x, rfl, rfl, h, by decide, by decide, by simp [seqIndex?], rfl, k⟩
end
end B
namespace N7
open PySem PySem.Spec PyProof.Rows L2
/-! ### masks: the way meets each slot -/
def Msk (m : Nat) : Prop := m = 7 ∨ m = 31 ∨ m = 127 ∨ m = 511 ∨ m = 2047 ∨ m = 8191
def noZ (m : Nat) : Nat → Nat → Bool
  | 0, x => (x * 5 + 1) % (m + 1) == 0
  | c + 1, x => match (x * 5 + 1) % (m + 1) with
    | 0 => false
    | y + 1 => noZ m c (y + 1)
theorem noZ_spec {m : Nat} : ∀ {c a : Nat}, noZ m c (lcgN m a) = true → (∀ d, 1 ≤ d → d ≤ c → lcgN m (a + d) ≠ 0) ∧ lcgN m (a + (c + 1)) = 0
  | 0, a, h => by
    refine ⟨fun d h1 h2 => by omega, ?_⟩
    have h' : (lcgN m a * 5 + 1) % (m + 1) = 0 := by simpa [noZ] using h
    exact h'
  | c + 1, a, h => by
    rw [noZ] at h
    have e : (lcgN m a * 5 + 1) % (m + 1) = lcgN m (a + 1) := rfl
    rw [e] at h
    cases hy : lcgN m (a + 1) with
    | zero => rw [hy] at h; cases h
    | succ y =>
      rw [hy] at h
      have h' : noZ m c (lcgN m (a + 1)) = true := by rw [hy]; exact h
      obtain ⟨i1, i2⟩ := noZ_spec h'
      refine ⟨fun d h1 h2 => ?_, by rw [show a + (c + 1 + 1) = a + 1 + (c + 1) by omega]; exact i2⟩
      cases d with
      | zero => omega
      | succ d =>
        cases d with
        | zero => show lcgN m (a + 1) ≠ 0; rw [hy]; exact Nat.succ_ne_zero y
        | succ d => rw [show a + (d + 1 + 1) = a + 1 + (d + 1) by omega]; exact i1 (d + 1) (by omega) (by omega)
theorem noZ7 : noZ 7 7 0 = true := by decide +kernel
theorem noZ31 : noZ 31 31 0 = true := by decide +kernel
theorem noZ127 : noZ 127 127 0 = true := by decide +kernel
theorem noZ511 : noZ 511 511 0 = true := by decide +kernel
theorem noZ2047 : noZ 2047 2047 0 = true := by decide +kernel
theorem noZ8191 : noZ 8191 8191 0 = true := by decide +kernel
theorem noZ_all {m : Nat} (hm : Msk m) : noZ m m 0 = true := by
  rcases hm with e | e | e | e | e | e <;> subst e
  · exact noZ7
  · exact noZ31
  · exact noZ127
  · exact noZ511
  · exact noZ2047
  · exact noZ8191
theorem lcg_nz {m : Nat} (hm : Msk m) {d : Nat} (h1 : 1 ≤ d) (h2 : d ≤ m) : lcgN m d ≠ 0 := by
  have h := (noZ_spec (m := m) (c := m) (a := 0) (noZ_all hm)).1 d h1 h2
  rwa [Nat.zero_add] at h
theorem lcg_z {m : Nat} (hm : Msk m) : lcgN m (m + 1) = 0 := by
  have h := (noZ_spec (m := m) (c := m) (a := 0) (noZ_all hm)).2
  rwa [Nat.zero_add] at h
theorem lcg_lt (m : Nat) : ∀ d, lcgN m d ≤ m
  | 0 => Nat.zero_le _
  | _ + 1 => Nat.le_of_lt_succ (Nat.mod_lt _ (Nat.succ_pos _))
theorem step_inj {m : Nat} (hm : Msk m) {x y : Nat} (hx : x ≤ m) (hy : y ≤ m) (h : (x * 5 + 1) % (m + 1) = (y * 5 + 1) % (m + 1)) : x = y := by
  rcases hm with e | e | e | e | e | e <;> subst e <;> omega
theorem lcg_inj {m : Nat} (hm : Msk m) : ∀ {a b : Nat}, a < b → b ≤ m → lcgN m a ≠ lcgN m b
  | 0, b, h, hb => fun e => lcg_nz hm h hb e.symm
  | a + 1, 0, h, _ => absurd h (Nat.not_lt_zero _)
  | a + 1, b + 1, h, hb => fun e => lcg_inj hm (Nat.lt_of_succ_lt_succ h) (by omega) (step_inj hm (lcg_lt m a) (lcg_lt m b) e)
theorem lcg_onto {m : Nat} (hm : Msk m) {j : Nat} (hj : j ≤ m) : ∃ b, b ≤ m ∧ lcgN m b = j := by
  rcases Classical.em (∃ b, b ≤ m ∧ lcgN m b = j) with c | c
  · exact c
  · exfalso
    have nd : ((List.range (m + 1)).map (lcgN m)).Nodup := by
      refine List.pairwise_map.mpr ?_
      have hp : (List.range (m + 1)).Pairwise (· < ·) := by first | exact List.pairwise_lt_range | exact List.pairwise_lt_range _
      exact List.Pairwise.imp_of_mem (fun {a b} _ hb h => lcg_inj hm h (Nat.le_of_lt_succ (List.mem_range.mp hb))) hp
    have hn : j ∉ (List.range (m + 1)).map (lcgN m) := fun h => by
      obtain ⟨b, hb, e⟩ := List.mem_map.mp h
      exact c ⟨b, Nat.le_of_lt_succ (List.mem_range.mp hb), e⟩
    have q := nat_nodup_len (j :: (List.range (m + 1)).map (lcgN m)) (List.range (m + 1)) (List.nodup_cons.mpr ⟨hn, nd⟩) fun x hx => by
      rcases List.mem_cons.mp hx with e | hx
      · rw [e]; exact List.mem_range.mpr (Nat.lt_succ_of_le hj)
      · obtain ⟨b, _, e⟩ := List.mem_map.mp hx
        rw [← e]
        exact List.mem_range.mpr (Nat.lt_succ_of_le (lcg_lt m b))
    simp at q
    omega
theorem lcg_round {m : Nat} (hm : Msk m) : ∀ k, lcgN m (m + 1 + k) = lcgN m k
  | 0 => lcg_z hm
  | k + 1 => by
    have ih := lcg_round hm k
    show (lcgN m (m + 1 + k) * 5 + 1) % (m + 1) = _
    rw [ih]
    rfl
theorem lcg_meets {m : Nat} (hm : Msk m) {i j : Nat} (hi : i ≤ m) (hj : j ≤ m) : ∃ k, k ≤ m ∧ lcgI m i k = j := by
  obtain ⟨a, ha, rfl⟩ := lcg_onto hm hi
  obtain ⟨b, hb, rfl⟩ := lcg_onto hm hj
  by_cases c : a ≤ b
  · exact ⟨b - a, by omega, by rw [lcgN_add, Nat.add_sub_of_le c]⟩
  · exact ⟨m + 1 + b - a, by omega, by rw [lcgN_add, Nat.add_sub_of_le (by omega), lcg_round hm]⟩
theorem run_at {m : Nat} (hm : Msk m) (h : Int) {j : Nat} (hj : j ≤ m) : ∃ n, n ≤ 12 + m ∧ runI m (SetTable.bits h) n = j := by
  obtain ⟨k, hk, e⟩ := lcg_meets hm (runI_le m (SetTable.bits h) 12) hj
  refine ⟨12 + k, by omega, ?_⟩
  rw [runI_tail (bits_lt h)]
  exact e
theorem way_at {m : Nat} (hm : Msk m) (h : Int) {j : Nat} (hj : j ≤ m) : ∃ k, k ≤ 10 * (12 + m) ∧ way m h k = j := by
  obtain ⟨n, hn, e⟩ := run_at hm h hj
  obtain ⟨k, hk, e2⟩ := run_nth m (SetTable.bits h) n
  exact ⟨k, by omega, (congrArg SetTable.Probe.j e2).trans e⟩
theorem way_in (m : Nat) (h : Int) (k : Nat) : way m h k ≤ m := by
  have hi : SetTable.bits h % (m + 1) ≤ m := Nat.le_of_lt_succ (Nat.mod_lt _ (Nat.succ_pos _))
  have r := runEnd_bd hi
  have q := nth_in k (runAt m (SetTable.bits h % (m + 1)) (SetTable.bits h)) (m := m) (by simp only [runAt]; omega)
  exact Nat.le_trans (Nat.le_add_right _ _) q
theorem msk_odd {m : Nat} (h : Msk m) : m % 2 = 1 := by
  rcases h with e | e | e | e | e | e <;> subst e <;> rfl
theorem msk_le {m : Nat} (h : Msk m) : m ≤ 8191 := by
  rcases h with e | e | e | e | e | e <;> subst e <;> decide

/-! ### a table with n things in it -/
structure Tb (t : SetTable) (n : Nat) : Prop where
  ris : Ris t.place.toList
  dm : t.dummies = #[]
  sz : t.place.size = n
  msk : Msk t.mask
  bd : ∀ x ∈ t.place.toList, x ≤ t.mask
  room : n * 5 < t.mask * 3
theorem Tb.lt {t : SetTable} {n : Nat} (T : Tb t n) : n < t.mask := by have := T.room; omega
theorem Tb.first {t : SetTable} {n : Nat} (T : Tb t n) (h : Int) : ∃ K, K ≤ 10 * (12 + t.mask) ∧ way t.mask h K ∉ t.place.toList ∧ ∀ k, k < K → way t.mask h k ∈ t.place.toList := by
  have hl := T.lt
  obtain ⟨j, hj, hn⟩ := st_missing t.place.toList (t.mask + 1) (by rw [Array.length_toList, T.sz]; omega)
  obtain ⟨k, hk, e⟩ := way_at T.msk h (Nat.le_of_lt_succ hj)
  obtain ⟨K, k1, k2, k3⟩ := st_least (p := fun c => way t.mask h c ∉ t.place.toList) k (by rw [e]; exact hn)
  exact ⟨K, Nat.le_trans k1 hk, k2, fun c hc => Classical.byContradiction fun z => k3 c hc z⟩
theorem put_ok {t : SetTable} {n : Nat} (T : Tb t n) {j : Nat} (hj : j ≤ t.mask) (hn : j ∉ t.place.toList) :
    (t.put j).2 = SetTable.below t.place j ∧ Ris (t.put j).1.place.toList ∧ (t.put j).1.dummies = #[] ∧ (t.put j).1.place.size = n + 1 ∧ (t.put j).1.mask = t.mask ∧ (t.put j).1.led = t.led ∧
    (∀ x ∈ (t.put j).1.place.toList, x ≤ t.mask) ∧ SetTable.below t.place j ≤ n := by
  obtain ⟨c1, _, _⟩ := below_cut T.ris j
  have hp := put_place t j
  have hle : SetTable.below t.place j ≤ t.place.toList.length := by rw [Array.length_toList]; exact c1
  refine ⟨rfl, ris_insert T.ris fun e => hn (List.mem_of_getElem? (by rw [Array.getElem?_toList]; exact e)), put_dm T.dm j, ?_, rfl, rfl, fun x hx => ?_, by rw [← T.sz]; exact c1⟩
  · rw [← Array.length_toList, hp, len_ins _ hle, Array.length_toList, T.sz]
  · rw [hp] at hx
    rcases mem_ins.1 hx with z | z
    · rw [z]; exact hj
    · exact T.bd x z

/-- each is met on its way, no gap before it -/
def Rc (t : SetTable) (hs : List Int) : Prop := ∀ (i : Nat) (g : Int) (j : Nat), hs[i]? = some g → t.place.toList[i]? = some j → ∃ c, way t.mask g c = j ∧ ∀ q, q < c → way t.mask g q ∈ t.place.toList
theorem put_rc {t : SetTable} {n : Nat} (T : Tb t n) {hs : List Int} (hl : hs.length = n) (R : Rc t hs) {h : Int} {K j : Nat} (ej : way t.mask h K = j) (full : ∀ q, q < K → way t.mask h q ∈ t.place.toList) :
    Rc (t.put j).1 (hs.take (SetTable.below t.place j) ++ h :: hs.drop (SetTable.below t.place j)) := by
  intro i g j2 e1 e2
  have cut : SetTable.below t.place j ≤ t.place.size := (below_cut T.ris j).1
  have more : ∀ {y : Nat}, y ∈ t.place.toList → y ∈ (t.put j).1.place.toList := fun hy => by
    rw [put_place]
    exact mem_ins.mpr (Or.inr hy)
  have old : ∀ m : Nat, hs[m]? = some g → t.place.toList[m]? = some j2 → ∃ c, way (t.put j).1.mask g c = j2 ∧ ∀ q, q < c → way (t.put j).1.mask g q ∈ (t.put j).1.place.toList := fun m a b => by
    obtain ⟨c, z1, z2⟩ := R m g j2 a b
    exact ⟨c, z1, fun q hq => more (z2 q hq)⟩
  rw [tins_get hs (by rw [hl, ← T.sz]; exact cut)] at e1
  rw [put_place, tins_get _ (by rw [Array.length_toList]; exact cut)] at e2
  split at e1
  · rename_i z
    rw [if_pos z] at e2
    exact old i e1 e2
  · rename_i z
    rw [if_neg z] at e2
    split at e1
    · rename_i y
      rw [if_pos y] at e2
      cases e1
      cases e2
      exact ⟨K, ej, fun q hq => more (full q hq)⟩
    · rename_i y
      rw [if_neg y] at e2
      exact old (i - 1) e1 e2

/-! ### laying anew -/
theorem free_at {m : Nat} (hm : Msk m) (owner : Array (Option Nat)) (h : Int) {j : Nat} (hj : j ≤ m) (hf : oAt owner j = none) :
    ∃ K, SetTable.layClean.free m owner (SetTable.turns m) (SetTable.bits h % (m + 1)) (SetTable.bits h) = some (way m h K) ∧ oAt owner (way m h K) = none ∧ ∀ c, c < K → oAt owner (way m h c) ≠ none := by
  obtain ⟨n, hn, e⟩ := run_at hm h hj
  have hw : way m h (off m (SetTable.bits h % (m + 1)) (SetTable.bits h) n) = j := by
    refine Eq.trans (congrArg SetTable.Probe.j (nth_off m n _ _)) ?_
    rw [itL_run]
    exact e
  obtain ⟨K, k1, k2, k3⟩ := st_least (p := fun c => oAt owner (way m h c) = none) _ (by rw [hw]; exact hf)
  refine ⟨K, free_spec m owner (SetTable.turns m) n _ _ K (by unfold SetTable.turns; omega) k1 (fun c hc => ?_) ?_, k2, k3⟩
  · have q := k3 c hc
    cases z : oAt owner (way m h c) with
    | none => exact absurd z q
    | some _ => rfl
  · rw [show oAt owner (way m h K) = none from k2]
    rfl
structure Ow (m n : Nat) (owner : Array (Option Nat)) : Prop where
  sz : owner.size = m + 1
  all : ∀ k, k < n → ∃ j, j ≤ m ∧ oAt owner j = some k
  ps : ∃ ps : List Nat, ps.length = n ∧ ∀ j, j ≤ m → oAt owner j ≠ none → j ∈ ps
/-- who sits where came there on its way -/
def OnWay (m : Nat) (done : List Int) (owner : Array (Option Nat)) : Prop := ∀ j k, j ≤ m → oAt owner j = some k → ∃ g c, done[k]? = some g ∧ way m g c = j ∧ ∀ q, q < c → oAt owner (way m g q) ≠ none
theorem Ow.step {m n : Nat} (hm : Msk m) {owner : Array (Option Nat)} (W : Ow m n owner) (hl : n ≤ m) (h : Int) :
    ∃ j, SetTable.layClean.free m owner (SetTable.turns m) (SetTable.bits h % (m + 1)) (SetTable.bits h) = some j ∧ Ow m (n + 1) (owner.setIfInBounds j (some n)) ∧ ∀ done : List Int, done.length = n → OnWay m done owner → OnWay m (done ++ [h]) (owner.setIfInBounds j (some n)) := by
  obtain ⟨ps, p1, p2⟩ := W.ps
  obtain ⟨j0, a1, a2⟩ := st_missing ps (m + 1) (by omega)
  have z0 : oAt owner j0 = none := Classical.byContradiction fun z => a2 (p2 j0 (Nat.le_of_lt_succ a1) z)
  obtain ⟨K, e1, e2, e3⟩ := free_at hm owner h (Nat.le_of_lt_succ a1) z0
  have hw := way_in m h K
  have hs : way m h K < owner.size := by rw [W.sz]; omega
  refine ⟨way m h K, e1, ⟨by rw [Array.size_setIfInBounds]; exact W.sz, fun k hk => ?_, way m h K :: ps, by rw [List.length_cons, p1], fun j hj hne => ?_⟩, fun done hd O j k hj ek => ?_⟩
  · rcases Nat.lt_or_ge k n with c | c
    · obtain ⟨j, hj, e⟩ := W.all k c
      refine ⟨j, hj, ?_⟩
      rw [oAt_set_ne _ fun z => ?_]
      · exact e
      · rw [z, e2] at e; cases e
    · obtain rfl : k = n := by omega
      exact ⟨_, hw, oAt_set_self _ hs⟩
  · rcases Classical.em (j = way m h K) with c | c
    · rw [c]; exact List.mem_cons_self
    · rw [oAt_set_ne _ c] at hne
      exact List.mem_cons_of_mem _ (p2 j hj hne)
  · have keep : ∀ {y : Nat}, oAt owner y ≠ none → oAt (owner.setIfInBounds (way m h K) (some n)) y ≠ none := fun {y} hy => by
      rcases Classical.em (y = way m h K) with c | c
      · rw [c] at hy; exact absurd e2 hy
      · rw [oAt_set_ne _ c]; exact hy
    rcases Classical.em (j = way m h K) with c | c
    · rw [c, oAt_set_self _ hs] at ek
      cases ek
      exact ⟨h, K, by rw [List.getElem?_append_right (by omega), hd, Nat.sub_self]; rfl, c.symm, fun q hq => keep (e3 q hq)⟩
    · rw [oAt_set_ne _ c] at ek
      obtain ⟨g, c2, z1, z2, z3⟩ := O j k hj ek
      exact ⟨g, c2, by rw [List.getElem?_append_left (List.getElem?_eq_some_iff.mp z1).1]; exact z1, z2, fun q hq => keep (z3 q hq)⟩
theorem lay_fold {m : Nat} (hm : Msk m) : ∀ (rest : List Int) (n : Nat) (owner : Array (Option Nat)), Ow m n owner → n + rest.length ≤ m →
    ∃ o2, rest.foldl (stepF m) (some (owner, n)) = some (o2, n + rest.length) ∧ Ow m (n + rest.length) o2 ∧ ∀ done : List Int, done.length = n → OnWay m done owner → OnWay m (done ++ rest) o2
  | [], n, owner, W, _ => ⟨owner, rfl, W, fun done _ O => by rw [List.append_nil]; exact O⟩
  | h :: rest, n, owner, W, hl => by
    rw [List.length_cons] at hl
    obtain ⟨j, e, W2, O2⟩ := W.step hm (by omega) h
    obtain ⟨o2, f, W3, O3⟩ := lay_fold hm rest (n + 1) _ W2 (by omega)
    refine ⟨o2, ?_, by rw [List.length_cons, show n + (rest.length + 1) = n + 1 + rest.length by omega]; exact W3, fun done hd O => ?_⟩
    rotate_left
    · have z := O3 (done ++ [h]) (by simp [hd]) (O2 done hd O)
      rwa [List.append_assoc] at z
    rw [List.foldl_cons, stepF_some e, f, List.length_cons, show n + (rest.length + 1) = n + 1 + rest.length by omega]
theorem lay_ok {m : Nat} (hm : Msk m) {hs : Array Int} (hn : hs.size ≤ m) : ∃ owner, SetTable.layClean m hs = some owner ∧ Ow m hs.size owner ∧ OnWay m hs.toList owner := by
  have W0 : Ow m 0 (Array.replicate (m + 1) none) := ⟨by simp, fun k hk => absurd hk (Nat.not_lt_zero _), [], rfl, fun j hj e => absurd (oAt_init hj) e⟩
  obtain ⟨o2, f, W, O⟩ := lay_fold hm hs.toList 0 _ W0 (by rw [Array.length_toList]; omega)
  rw [Nat.zero_add, Array.length_toList] at W
  refine ⟨o2, ?_, W, O [] rfl fun j k hj e => by rw [oAt_init hj] at e; cases e⟩
  rw [layClean_eq, f]
  rfl
theorem relay_ok (t : SetTable) {hs : Array Int} {wanted M : Nat} (hw : SetTable.sizeAbove wanted - 1 = M) (hM : Msk M) (hn : hs.size * 5 < M * 3) :
    ∃ t2 order, t.relaid hs wanted = some (t2, order) ∧ order.toList.Perm (List.range hs.size) ∧ Tb t2 hs.size ∧ t2.led = t.led ∧ Rc t2 (order.toList.map fun i => hs.getD i 0) := by
  obtain ⟨owner, e, W, O⟩ := lay_ok hM (hs := hs) (by omega)
  have hr : t.relaid hs wanted = some (tabOf t M owner, ((liveOf M owner).map (·.2)).toArray) := by rw [relaid_eq, hw, e]; rfl
  have ris := ris_live (fun j => owner.getD j none) (List.range (M + 1)) (by unfold Ris; first | exact List.pairwise_lt_range | exact List.pairwise_lt_range _)
  have r1 : Ris ((liveOf M owner).map (·.1)) := ris.1
  have r2 : ∀ x ∈ (liveOf M owner).map (·.1), x ∈ List.range (M + 1) := ris.2
  have nd : ((liveOf M owner).map (·.1)).Nodup := List.Pairwise.imp (fun h => Nat.ne_of_lt h) r1
  have cov : ∀ k, k < hs.size → k ∈ (liveOf M owner).map (·.2) := fun k hk => by
    obtain ⟨j, b1, b2⟩ := W.all k hk
    exact List.mem_map.mpr ⟨(j, k), (mem_live W.sz).2 ⟨b1, b2⟩, rfl⟩
  have hlen : (liveOf M owner).length = hs.size := by
    obtain ⟨ps, p1, p2⟩ := W.ps
    have a := nat_nodup_len _ ps nd fun x hx => by
      obtain ⟨⟨y, k⟩, hq, rfl⟩ := List.mem_map.mp hx
      obtain ⟨b1, b2⟩ := (mem_live W.sz).1 hq
      exact p2 y b1 (by rw [b2]; intro z; cases z)
    have b := nat_nodup_len (List.range hs.size) ((liveOf M owner).map (·.2)) List.nodup_range fun k hk => cov k (List.mem_range.mp hk)
    rw [List.length_map, p1] at a
    rw [List.length_map, List.length_range] at b
    omega
  refine ⟨_, _, hr, perm_range hs.size _ (by simpa using hlen) (by simpa using cov), ⟨r1, rfl, ?_, hM, fun x hx => Nat.le_of_lt_succ (List.mem_range.mp (r2 x hx)), hn⟩, rfl, fun i g j e1 e2 => ?_⟩
  · show ((liveOf M owner).map (·.1)).toArray.size = hs.size
    rw [List.size_toArray, List.length_map, hlen]
  · replace e1 : (((liveOf M owner).map (·.2)).map fun i => hs.getD i 0)[i]? = some g := e1
    replace e2 : ((liveOf M owner).map (·.1))[i]? = some j := e2
    rw [List.map_map, List.getElem?_map, Option.map_eq_some_iff] at e1
    rw [List.getElem?_map, Option.map_eq_some_iff] at e2
    obtain ⟨⟨y, k⟩, z1, z2⟩ := e1
    obtain ⟨⟨y2, k2⟩, z3, z4⟩ := e2
    rw [z1] at z3
    cases z3
    simp only at z4
    subst z4
    obtain ⟨b1, b2⟩ := (mem_live W.sz).1 (List.mem_of_getElem? z1)
    obtain ⟨g2, c, c1, c2, c3⟩ := O y k b1 b2
    have eg : g2 = g := by
      rw [← z2]
      show g2 = hs.getD k 0
      rw [Array.getD_eq_getD_getElem?, ← Array.getElem?_toList, c1]
      rfl
    subst eg
    refine ⟨c, c2, fun q hq => ?_⟩
    show way M g2 q ∈ (liveOf M owner).map (·.1)
    cases z : oAt owner (way M g2 q) with
    | none => exact absurd z (c3 q hq)
    | some x => exact List.mem_map.mpr ⟨(way M g2 q, x), (mem_live W.sz).2 ⟨way_in M g2 q, z⟩, rfl⟩
end N7
namespace N7
open PySem PySem.Spec PyProof.Rows L2
abbrev NK := PySem.NestedKey
section
variable {P : Program} {w : World} {A : Around} {E : Value → Shared → Prop}
theorem all_parts {h : Heap} : ∀ {ks : List NK} {vs : List Value} {n : Nat}, NestedAll h ks vs → NestedKey.depthAll ks ≤ n → ∀ v ∈ vs, ∃ k : NK, NestedIs h k v ∧ k.depth ≤ n
  | [], _, _, x, _ => by cases x; exact fun v hv => (by cases hv)
  | k :: ks, _, n, x, hd => by
    cases x with
    | cons x1 x2 =>
      rw [NestedKey.depthAll] at hd
      intro v hv
      rcases List.mem_cons.mp hv with e | hv
      · rw [e]; exact ⟨k, x1, by omega⟩
      · exact all_parts x2 (by omega) v hv
theorem ofA_key : ∀ (n : Nat) (k : NK) (v : Value) (s : Shared) (Q : Bool → Shared → Prop), NestedIs s.heap k v → k.depth ≤ n → Q false s → wpAny (model P w) A (ofAClassStatement n v) Q E s := by
  have flat : ∀ (n : Nat) (v : Value) (s : Shared) (Q : Bool → Shared → Prop), (∀ a, v ≠ .ref a) → Q false s → wpAny (model P w) A (ofAClassStatement n v) Q E s := by
    intro n v s Q hv q
    have e : ofAClassStatement n v = pure false := by
      cases v with
      | ref a => exact absurd rfl (hv a)
      | _ => cases n <;> rfl
    rw [e]
    exact wpAny_pure q
  intro n
  induction n with
  | zero =>
    intro k v s Q x hd q
    refine flat 0 v s Q (fun a ea => ?_) q
    subst ea
    cases x
    rw [NestedKey.depth] at hd
    omega
  | succ n ih =>
    intro k v s Q x hd q
    cases x with
    | @tup a o vs m ks ho hc hdat hk =>
      rw [NestedKey.depth] at hd
      have hT : s.TypeIs (.ref a) "tuple" := ⟨o, ho, hc⟩
      have hp := all_parts hk (n := n) (by omega)
      unfold ofAClassStatement
      refine wpAny_bind (wpAny_typeOf hT ?_)
      dsimp only
      have e : (("tuple" : String) == "tuple") = true := by decide
      simp only [e, if_true, Bool.not_true, Bool.false_eq_true, if_false]
      try refine wpAny_bind (wpAny_pure ?_)
      try simp only [Bool.not_true, Bool.false_eq_true, if_false]
      refine wpAny_bind (wpAny_seqItems ho hdat ?_)
      dsimp only
      refine wpAny_bind ?_
      rw [← Array.forIn_toList]
      refine wpAny_forIn_list _ (fun rest r s2 => r.1 = none ∧ s2 = s ∧ ∀ u ∈ rest, ∃ k : NK, NestedIs s.heap k u ∧ k.depth ≤ n) _ ?_ ?_ _ _ ⟨rfl, rfl, hp⟩
      · rintro u rest r s2 ⟨h1, rfl, h3⟩
        obtain ⟨ku, y1, y2⟩ := h3 u List.mem_cons_self
        refine wpAny_bind (ih ku u s2 _ y1 y2 ?_)
        simp only [Bool.false_eq_true, if_false]
        exact wpAny_pure ⟨rfl, rfl, fun z hz => h3 z (List.mem_cons_of_mem _ hz)⟩
      · rintro ⟨r1, r2⟩ s2 ⟨h1, rfl, _⟩
        simp only at h1
        subst h1
        exact wpAny_pure q
    | _ => exact flat (n + 1) _ s Q (fun a ea => (by cases ea)) q
theorem hashV_key : ∀ (n : Nat) (k : NK) (v : Value) (s : Shared) (Q : Bool → Shared → Prop), NestedIs s.heap k v → k.depth ≤ n → (∀ b, Q b s) → wpAny (model P w) A (hashByValue n v) Q E s := by
  intro n
  induction n with
  | zero =>
    intro k v s Q x hd q
    cases x with
    | tup _ _ _ _ => rw [NestedKey.depth] at hd; omega
    | _ => exact wpAny_pure (q _)
  | succ n ih =>
    intro k v s Q x hd q
    cases x with
    | @tup a o vs m ks ho hc hdat hk =>
      rw [NestedKey.depth] at hd
      have hT : s.TypeIs (.ref a) "tuple" := ⟨o, ho, hc⟩
      have hp := all_parts hk (n := n) (by omega)
      unfold hashByValue
      refine wpAny_bind (wpAny_specialOf hT F.slot_tuple_hash.lookup ?_)
      show wpAny _ _ (seqItems? (.ref a) >>= _) _ _ s
      refine wpAny_bind (wpAny_seqItems ho hdat ?_)
      refine wpAny_bind ?_
      show wpAny _ _ (forIn vs _ _) _ _ s
      rw [← Array.forIn_toList]
      refine wpAny_forIn_list _ (fun rest r s2 => r.1 = none ∧ s2 = s ∧ ∀ u ∈ rest, ∃ k : NK, NestedIs s.heap k u ∧ k.depth ≤ n) _ ?_ ?_ _ _ ⟨rfl, rfl, hp⟩
      · rintro u rest r s2 ⟨h1, rfl, h3⟩
        obtain ⟨ku, y1, y2⟩ := h3 u List.mem_cons_self
        refine wpAny_bind (ih ku u s2 _ y1 y2 fun b => ?_)
        cases b with
        | true =>
          simp only [Bool.not_true, Bool.false_eq_true, if_false]
          exact wpAny_pure ⟨rfl, rfl, fun z hz => h3 z (List.mem_cons_of_mem _ hz)⟩
        | false =>
          simp only [Bool.not_false, if_true]
          exact wpAny_pure (wpAny_pure (q false))
      · rintro ⟨r1, r2⟩ s2 ⟨h1, rfl, _⟩
        simp only at h1
        subst h1
        exact wpAny_pure (q true)
    | _ => exact wpAny_pure (q _)
variable {s : Shared}
/-- the tuple at a is the key k -/
abbrev IsN (P : Program) (w : World) (h : Heap) (k : NK) (a : Addr) : Prop := (nestedKind P w).is h k a
theorem seen_key {k : NK} {b : Addr} {Q : Bool → Shared → Prop} (hk : IsN P w s.heap k b) {ys : List Value} (hy : ∀ y ∈ ys, ∃ k' c, y = Value.ref c ∧ IsN P w s.heap k' c) (h : Q false s) :
    wpAny (model P w) A (searchCouldBeSeen (.ref b) ys) Q E s := by
  unfold searchCouldBeSeen
  refine wpAny_bind ?_
  refine wpAny_forIn_list _ (fun rest r s2 => r.1 = none ∧ s2 = s ∧ ∀ y ∈ rest, ∃ k' c, y = Value.ref c ∧ IsN P w s.heap k' c) _ ?_ ?_ _ _ ⟨rfl, rfl, hy⟩
  · rintro v rest r s2 ⟨h1, rfl, h3⟩
    obtain ⟨k2, c, rfl, hc⟩ := h3 v List.mem_cons_self
    have more : ∀ y ∈ rest, ∃ k' c, y = Value.ref c ∧ IsN P w s2.heap k' c := fun z hz => h3 z (List.mem_cons_of_mem _ hz)
    dsimp only
    by_cases hv : (b == c || (carriedByValue (.ref b) && carriedByValue (.ref c))) = true
    · refine wp_if_pos hv ?_
      exact wpAny_pure ⟨rfl, rfl, more⟩
    · refine wp_if_neg hv ?_
      refine wpAny_bind ((nestedKind P w).quiet hk ?_)
      simp only [Bool.not_true, Bool.false_eq_true, if_false]
      refine wpAny_bind ((nestedKind P w).quiet hc ?_)
      simp only [Bool.not_true, Bool.false_eq_true, if_false]
      refine wpAny_bind (ofA_key 8 k _ s2 _ hk.1 hk.2 ?_)
      simp only [Bool.false_eq_true, if_false]
      refine wpAny_bind (ofA_key 8 k2 _ s2 _ hc.1 hc.2 ?_)
      simp only [Bool.false_eq_true, if_false]
      exact wpAny_pure ⟨rfl, rfl, more⟩
  · rintro ⟨r1, r2⟩ s2 ⟨h1, rfl, _⟩
    simp only at h1
    subst h1
    exact wpAny_pure h
/-! ### the set -/
def rws (w : World) (L : List (Addr × NK)) : List (Int × Value) := L.map fun p => (p.2.hash w, Value.ref p.1)
structure SR0 (w : World) (h : Heap) (a : Addr) (L : List (Addr × NK)) (es : Array (Int × Value)) (ep : Nat) (t : SetTable) : Prop where
  ob : ∃ o, h.get? a = some o ∧ o.ExactSet ∧ o.data = .set es ep t
  rows : es.toList = rws w L
  tab : Tb t L.length
  led : w.params.followText "set-order" = true ∨ t.led = true
structure SR (P : Program) (w : World) (h : Heap) (a : Addr) (L : List (Addr × NK)) (es : Array (Int × Value)) (ep : Nat) (t : SetTable) : Prop extends SR0 w h a L es ep t where
  tup : ∀ p ∈ L, IsN P w h p.2 p.1
  rc : Rc t (L.map fun p => p.2.hash w)
variable {a : Addr} {L : List (Addr × NK)} {es : Array (Int × Value)} {ep : Nat} {t : SetTable}
theorem SR0.size {h : Heap} (R : SR0 w h a L es ep t) : es.size = L.length := by
  have q := congrArg List.length R.rows
  simpa [rws] using q
theorem SR0.fits {h : Heap} (R : SR0 w h a L es ep t) : t.fits es.size = true := by
  have h1 := R.tab.sz
  have h2 := R.size
  have h3 := R.tab.lt
  unfold SetTable.fits SetTable.fill
  rw [R.tab.dm, Bool.and_eq_true, beq_iff_eq, decide_eq_true_eq]
  refine ⟨by omega, ?_⟩
  show t.place.size + 0 ≤ t.mask
  omega
theorem SR0.entry {h : Heap} (R : SR0 w h a L es ep t) {i : Nat} {p : Addr × NK} (e : L[i]? = some p) : es[i]? = some (p.2.hash w, Value.ref p.1) := by
  rw [← Array.getElem?_toList, R.rows, rws, List.getElem?_map, e]
  rfl
theorem SR0.gw {h : Heap} (R : SR0 w h a L es ep t) : ¬ t.gaveWay = true := by
  unfold SetTable.gaveWay
  rw [msk_odd R.tab.msk]
  decide
theorem dm_nth (m : Nat) : ∀ (n : Nat) (p : SetTable.Probe), p.dummy = none → (nth m p n).dummy = none
  | 0, _, h => h
  | n + 1, p, h => dm_nth m n (adv m p) (by unfold adv; split <;> exact h)
/-- the search -/
theorem srch (R : SR P w s.heap a L es ep t) {x : Addr} {k : NK} (hx : IsN P w s.heap k x) (hu : A.units + 8 < cLine) {K : Nat} (hKf : K < 10 * SetTable.turns t.mask)
    (hK : way t.mask (k.hash w) K ∉ t.place.toList) (hKb : ∀ c, c < K → way t.mask (k.hash w) c ∈ t.place.toList) {Q : SetFound → Shared → Prop}
    (hin : k ∈ L.map (·.2) → Q (.there none) s) (hout : k ∉ L.map (·.2) → Q (.free (way t.mask (k.hash w) K) false) s) :
    ∀ (f c : Nat) (stand : Option SetTable.Probe), stand.getD (t.probeStart (k.hash w)) = nth t.mask (runAt t.mask (SetTable.bits (k.hash w) % (t.mask + 1)) (SetTable.bits (k.hash w))) c → c ≤ K → K - c < f →
      (∀ (q i : Nat) (p : Addr × NK), q < c → t.place.toList[i]? = some (way t.mask (k.hash w) q) → L[i]? = some p → p.2 ≠ k) →
      wpAny (model P w) A (setSearchFrom a (.ref x) (k.hash w) true f stand) Q E s
  | 0, _, _, _, _, hf, _ => absurd hf (Nat.not_lt_zero _)
  | f + 1, c, stand, hst, hc, hf, hno => by
    obtain ⟨o, ho, hex, hd⟩ := R.ob
    rw [setSearchFrom_succ]
    refine wpAny_bind (wpAny_setState_of ho hd R.fits ?_)
    dsimp only
    refine wp_if_neg R.gw ?_
    try refine wpAny_bind (wpAny_pure ?_)
    generalize hst0 : runAt t.mask (SetTable.bits (k.hash w) % (t.mask + 1)) (SetTable.bits (k.hash w)) = st0 at hst
    have hw : ∀ q, way t.mask (k.hash w) q = (nth t.mask st0 q).j := fun q => by rw [← hst0]
    have sh : ∀ q, nth t.mask (nth t.mask st0 c) q = nth t.mask st0 (c + q) := fun q => (nth_add t.mask c _ q).symm
    have nd0 : (nth t.mask st0 c).dummy = none := dm_nth _ _ _ (by rw [← hst0]; rfl)
    have spec := go_spec t R.tab.ris R.tab.dm (fun i => (es[i]?.map (·.1)).getD 0) (k.hash w) (10 * SetTable.turns t.mask) (K - c) (nth t.mask st0 c) nd0 (by omega)
      (fun q hq => by rw [sh, ← hw]; exact hKb (c + q) (by omega)) (by rw [sh, ← hw, Nat.add_sub_of_le hc]; exact hK)
    have hash_at : ∀ (i : Nat) (p : Addr × NK), L[i]? = some p → p.2 = k → (es[i]?.map (·.1)).getD 0 = k.hash w := fun i p e e2 => by
      rw [R.entry e, e2]
      rfl
    rcases spec with ⟨q, i, hq, hi, hh, hun, hpr⟩ | ⟨hun, hpr⟩
    · have hpr2 : t.probe (fun i => (es[i]?.map (·.1)).getD 0) (k.hash w) (stand.getD (t.probeStart (k.hash w))) = some (.candidate (way t.mask (k.hash w) (c + q)) i (nth t.mask st0 (c + (q + 1)))) := by
        rw [hst, hw, ← sh, ← sh]
        exact hpr
      rw [hpr2]
      dsimp only
      rw [sh, ← hw] at hi
      have hil : i < L.length := by
        have h1 : i < t.place.toList.length := (List.getElem?_eq_some_iff.mp hi).1
        rw [Array.length_toList, R.tab.sz] at h1
        exact h1
      obtain ⟨p, hp⟩ : ∃ p, L[i]? = some p := ⟨_, List.getElem?_eq_getElem hil⟩
      have hmem : p ∈ L := List.mem_of_getElem? hp
      have more : wpAny (model P w) A (searchRest a (.ref x) (k.hash w) true f es t (way t.mask (k.hash w) (c + q)) i (nth t.mask st0 (c + (q + 1)))) Q E s := by
        unfold searchRest
        rw [R.entry hp]
        dsimp only
        refine wpAny_bind (wpAny_holding ((nestedKind P w).eqBool hu (R.tup p hmem) hx ?_))
        refine wpAny_bind (wpAny_setState_of ho hd R.fits ?_)
        dsimp only
        by_cases hkk : p.2 = k
        · refine wp_if_pos (by simp [hkk]) ?_
          exact wpAny_pure (hin (List.mem_map.mpr ⟨p, hmem, hkk⟩))
        · refine wp_if_neg (by simp [hkk]) ?_
          try refine wpAny_bind (wpAny_pure ?_)
          rw [sameMem]
          dsimp only
          have hsl : t.slot (way t.mask (k.hash w) (c + q)) = .live i := slot_live R.tab.ris hi
          simp only [if_true, hsl, R.entry hp]
          refine wpAny_bind (wpAny_isSame_ref_self (wpAny_bind (wpAny_pure ?_)))
          simp only [if_true]
          refine wp_if_neg (by simp [hkk]) ?_
          refine srch R hx hu hKf hK hKb hin hout f (c + (q + 1)) _ (by rw [hst0]; rfl) (by omega) (by omega) fun q2 i2 p2 h2 e2 e3 e4 => ?_
          rcases Nat.lt_trichotomy q2 (c + q) with z | z | z
          · rcases Nat.lt_or_ge q2 c with y | y
            · exact hno q2 i2 p2 y e2 e3 e4
            · refine hun (q2 - c) i2 (by omega) ?_ (hash_at i2 p2 e3 e4)
              rw [sh, ← hw, Nat.add_sub_of_le y]
              exact e2
          · rw [z] at e2
            have s2 := slot_live R.tab.ris e2
            rw [hsl] at s2
            injection s2 with s2
            rw [← s2, hp] at e3
            cases e3
            exact hkk e4
          · omega
      by_cases hl : t.led = true
      · refine wp_if_neg (by simp [hl]) ?_
        try refine wpAny_bind (wpAny_pure ?_)
        exact more
      · refine wp_if_pos (by simp [hl]) ?_
        refine wpAny_bind (seen_key hx (fun y hy => ?_) ?_)
        · obtain ⟨e, he, rfl⟩ := List.mem_map.mp hy
          have he1 : e ∈ es := by
            have := Array.mem_toList_iff.mp he
            exact (Array.mem_filter.mp this).1
          have he2 : e ∈ es.toList := Array.mem_toList_iff.mpr he1
          rw [R.rows, rws] at he2
          obtain ⟨p2, hp2, rfl⟩ := List.mem_map.mp he2
          exact ⟨p2.2, p2.1, rfl, R.tup p2 hp2⟩
        · refine wp_if_neg (by decide) ?_
          try refine wpAny_bind (wpAny_pure ?_)
          exact more
    · have hpr2 : t.probe (fun i => (es[i]?.map (·.1)).getD 0) (k.hash w) (stand.getD (t.probeStart (k.hash w))) = some (.empty (way t.mask (k.hash w) K) none) := by
        have e := sh (K - c)
        rw [Nat.add_sub_of_le hc] at e
        rw [hst, hw, ← e]
        exact hpr
      rw [hpr2]
      dsimp only
      refine wpAny_pure (hout fun hm => ?_)
      obtain ⟨p, hpm, hpk⟩ := List.mem_map.mp hm
      obtain ⟨i, hpi⟩ := List.getElem?_of_mem hpm
      have hil := (List.getElem?_eq_some_iff.mp hpi).1
      have hpl : i < t.place.toList.length := by rw [Array.length_toList, R.tab.sz]; exact hil
      have hj : t.place.toList[i]? = some t.place.toList[i] := List.getElem?_eq_getElem hpl
      obtain ⟨c0, w1, w2⟩ := R.rc i (k.hash w) _ (by rw [List.getElem?_map, hpi, ← hpk]; rfl) hj
      have lt : c0 < K := by
        rcases Nat.lt_trichotomy c0 K with z | z | z
        · exact z
        · rw [z] at w1
          exact absurd (List.mem_of_getElem? (w1 ▸ hj)) hK
        · exact absurd (w2 K z) hK
      rw [← w1] at hj
      rcases Nat.lt_or_ge c0 c with y | y
      · exact hno c0 i p y hj hpi hpk
      · refine hun (c0 - c) i (by omega) ?_ (hash_at i p hpi hpk)
        rw [sh, ← hw, Nat.add_sub_of_le y]
        exact hj
theorem srch_at (R : SR P w s.heap a L es ep t) {x : Addr} {k : NK} (hx : IsN P w s.heap k x) (hu : A.units + 8 < cLine) {Q : SetFound → Shared → Prop}
    (hin : k ∈ L.map (·.2) → Q (.there none) s) (hout : ∀ K, way t.mask (k.hash w) K ∉ t.place.toList → (∀ c, c < K → way t.mask (k.hash w) c ∈ t.place.toList) → k ∉ L.map (·.2) → Q (.free (way t.mask (k.hash w) K) false) s) : wpAny (model P w) A (setSearch a (.ref x) (k.hash w) true) Q E s := by
  obtain ⟨K, h1, h2, h3⟩ := R.tab.first (k.hash w)
  have hm := msk_le R.tab.msk
  unfold setSearch
  exact srch R hx hu (by unfold SetTable.turns; omega) h2 h3 hin (hout K h2 h3) 100000 0 none rfl (Nat.zero_le _) (by omega) fun q _ _ h => absurd h (Nat.not_lt_zero q)
end
end N7
namespace N7
open PySem PySem.Spec PyProof.Rows L2
theorem sz5 : SetTable.sizeAbove (SetTable.grown 5) = 32 := by decide +kernel
theorem sz19 : SetTable.sizeAbove (SetTable.grown 19) = 128 := by decide +kernel
theorem sz77 : SetTable.sizeAbove (SetTable.grown 77) = 512 := by decide +kernel
theorem sz307 : SetTable.sizeAbove (SetTable.grown 307) = 2048 := by decide +kernel
theorem sz1229 : SetTable.sizeAbove (SetTable.grown 1229) = 8192 := by decide +kernel
/-- how a full table grows -/
theorem grows {m n : Nat} (hm : Msk m) (h1 : n * 5 < m * 3) (h2 : (n + 1) * 5 ≥ m * 3) (h3 : n + 1 < 4900) :
    ∃ M, SetTable.sizeAbove (SetTable.grown (n + 1)) - 1 = M ∧ Msk M ∧ SetTable.sizeAbove (SetTable.grown (n + 1)) ≤ 8192 ∧ (n + 1) * 5 < M * 3 := by
  unfold Msk at hm ⊢
  rcases hm with e | e | e | e | e | e <;> subst e
  · obtain rfl : n = 4 := by omega
    exact ⟨31, by rw [sz5], by decide, by rw [sz5]; decide, by decide⟩
  · obtain rfl : n = 18 := by omega
    exact ⟨127, by rw [sz19], by decide, by rw [sz19]; decide, by decide⟩
  · obtain rfl : n = 76 := by omega
    exact ⟨511, by rw [sz77], by decide, by rw [sz77]; decide, by decide⟩
  · obtain rfl : n = 306 := by omega
    exact ⟨2047, by rw [sz307], by decide, by rw [sz307]; decide, by decide⟩
  · obtain rfl : n = 1228 := by omega
    exact ⟨8191, by rw [sz1229], by decide, by rw [sz1229]; decide, by decide⟩
  · omega
section
variable {P : Program} {w : World} {A : Around} {E : Value → Shared → Prop} {s : Shared}
theorem isN_same {h h' : Heap} {k : NK} {a b : Addr} {o : Obj} {es : Array (Int × Value)} {ep : Nat} {t : SetTable} (hb : IsN P w h k b) (ho : h.get? a = some o) (hd : o.data = .set es ep t) (hs : Heap.SameBut a h h') : IsN P w h' k b :=
  nestedKind_stays.stays (fun c ob vs n hc hv => by
    refine (hs.2 c fun e => ?_).trans hc
    subst e
    rw [ho] at hc
    cases hc
    rw [hd] at hv
    cases hv) hb
theorem isN_keep {h h' : Heap} {k : NK} {b : Addr} (x : IsN P w h k b) (hk : ∀ c o, h.get? c = some o → h'.get? c = some o) : IsN P w h' k b :=
  nestedKind_stays.stays (fun c o _ _ e _ => hk c o e) x
theorem pick_rows (L : List (Addr × NK)) (es : Array (Int × Value)) (order : Array Nat) (hr : es.toList = rws w L) (hp : order.toList.Perm (List.range L.length)) :
    ∃ L2, (order.filterMap (es[·]?)).toList = rws w L2 ∧ L2.Perm L ∧ (L2.map fun p => p.2.hash w) = order.toList.map fun i => (es.map (·.1)).getD i 0 := by
  have e1 : ∀ i : Nat, es[i]? = (L[i]?).map fun p => (p.2.hash w, Value.ref p.1) := fun i => by
    rw [← Array.getElem?_toList, hr, rws, List.getElem?_map]
  have e2 : ∀ l : List Nat, (l.filterMap fun i => es[i]?) = rws w (l.filterMap fun i => L[i]?) := by
    intro l
    induction l with
    | nil => rfl
    | cons i l ih =>
      cases hi : L[i]? with
      | none => rw [List.filterMap_cons_none (by rw [e1, hi]; rfl), List.filterMap_cons_none hi, ih]
      | some p => rw [List.filterMap_cons_some (by rw [e1, hi]; rfl), List.filterMap_cons_some hi, ih]; rfl
  have e5 : ∀ l : List Nat, (∀ i ∈ l, i < L.length) → ((l.filterMap fun i => L[i]?).map fun p => p.2.hash w) = l.map fun i => (es.map (·.1)).getD i 0 := by
    intro l
    induction l with
    | nil => intro _; rfl
    | cons i l ih =>
      intro hl
      obtain ⟨x, hi⟩ : ∃ x, L[i]? = some x := ⟨L[i]'(hl i List.mem_cons_self), List.getElem?_eq_getElem _⟩
      rw [List.filterMap_cons_some hi, List.map_cons, List.map_cons, ih fun x hx => hl x (List.mem_cons_of_mem _ hx)]
      congr 1
      rw [Array.getD_eq_getD_getElem?, Array.getElem?_map, e1, hi]
      rfl
  refine ⟨order.toList.filterMap fun i => L[i]?, by rw [Array.toList_filterMap]; exact e2 _, ?_, e5 _ fun i hi => List.mem_range.mp (hp.mem_iff.mp hi)⟩
  have e3 : ∀ n, n ≤ L.length → ((List.range n).filterMap fun i => L[i]?) = L.take n := by
    intro n
    induction n with
    | zero => intro _; rfl
    | succ n ih =>
      intro hn
      rw [List.range_succ, List.filterMap_append, ih (Nat.le_of_succ_le hn), List.take_succ]
      refine congrArg (L.take n ++ ·) ?_
      cases hq : L[n]? with
      | none => rw [List.filterMap_cons_none hq]; rfl
      | some p => rw [List.filterMap_cons_some hq]; rfl
  have e4 := hp.filterMap fun i => L[i]?
  rw [e3 L.length (Nat.le_refl _), List.take_length] at e4
  exact e4
variable {a : Addr} {L : List (Addr × NK)} {es : Array (Int × Value)} {ep : Nat} {t : SetTable}
/-- laid anew -/
theorem relay_to {o : Obj} (ho : s.heap.get? a = some o) (hex : o.ExactSet) (hd : o.data = .set es ep t) (hrows : es.toList = rws w L) (hfits : t.fits es.size = true)
    (tup : ∀ p ∈ L, IsN P w s.heap p.2 p.1) (ld : w.params.followText "set-order" = true ∨ t.led = true) {wanted M : Nat}
    (hw : SetTable.sizeAbove wanted - 1 = M) (hM : Msk M) (hw2 : SetTable.sizeAbove wanted ≤ 8192) (hn : L.length * 5 < M * 3) {Q : Unit → Shared → Prop}
    (hQ : ∀ h' L' es' ep' t', Heap.SameBut a s.heap h' → SR P w h' a L' es' ep' t' → L'.Perm L → Q () { s with heap := h' }) : wpAny (model P w) A (setRelay a wanted) Q E s := by
  have hsl : es.size = L.length := by simpa [rws] using congrArg List.length hrows
  obtain ⟨t2, order, e, hp, T, el, rc⟩ := relay_ok t (hs := es.map (·.1)) (wanted := wanted) hw hM (by rw [Array.size_map, hsl]; exact hn)
  rw [Array.size_map, hsl] at hp T
  obtain ⟨L2, r1, r2, r3⟩ := pick_rows L es order hrows hp
  have hs2 : (order.filterMap (es[·]?)).size = es.size := by
    have q := congrArg List.length r1
    rw [rws, List.length_map, r2.length_eq, Array.length_toList] at q
    rw [q, hsl]
  have hM2 := msk_le hM
  rw [setRelay_eq]
  refine wpAny_bind (wpAny_setState_of ho hd hfits ?_)
  dsimp only
  refine wp_if_neg (by rw [sizeLine_eq]; omega) ?_
  try refine wpAny_bind (wpAny_pure ?_)
  rw [e]
  dsimp only
  refine wpAny_bind ?_
  refine wp_if_neg (by rw [hs2]; simp) ?_
  try refine wpAny_bind (wpAny_pure ?_)
  refine wpAny_pure ?_
  dsimp only
  refine wpAny_storeSet_of ho hd ?_ (by rw [hs2, hsl, sizeLine_eq]; omega)
  have sb : Heap.SameBut a s.heap (s.heap.update a (Obj.putSet (order.filterMap (es[·]?)) t2)) := Heap.SameBut.update ..
  exact hQ _ L2 _ (ep + 1) t2 sb ⟨⟨⟨_, store_at ho hd, ⟨hex.1, hex.2.1, hex.2.2⟩, rfl⟩, r1, by rw [r2.length_eq]; exact T, by rw [el]; exact ld⟩, fun p hp => isN_same (tup p (r2.mem_iff.mp hp)) ho hd sb, by rw [r3]; exact rc⟩ r2
/-- s.add(x) -/
theorem add_to (R : SR P w s.heap a L es ep t) {x : Addr} {k : NK} (hx : IsN P w s.heap k x) (hu : A.units + 8 < cLine) (hfew : L.length + 1 < 4900) {Q : Bool → Shared → Prop}
    (hQ : ∀ b h' L' es' ep' t', Heap.SameBut a s.heap h' → SR P w h' a L' es' ep' t' → (L' = L ∧ k ∈ L.map (·.2)) ∨ (k ∉ L.map (·.2) ∧ L'.Perm ((x, k) :: L)) → Q b { s with heap := h' }) :
    wpAny (model P w) A (setAddHashed a (.ref x) (k.hash w)) Q E s := by
  obtain ⟨o, ho, hex, hd⟩ := R.ob
  have hsl := R.size
  unfold setAddHashed
  refine wpAny_holding ?_
  rw [show (100000 : Nat) = 99999 + 1 from rfl, setAddHashedIn_succ]
  refine wpAny_bind (wpAny_setState_of ho hd R.fits ?_)
  dsimp only
  refine wp_if_neg (by simp [byScan, Value.scannable]) ?_
  try refine wpAny_bind (wpAny_pure ?_)
  refine wpAny_bind (srch_at R hx hu (fun hm => ?_) fun K hn hfull hnk => ?_)
  · dsimp only
    exact wpAny_pure (hQ false s.heap L es ep t (Heap.SameBut.refl a s.heap) R (.inl ⟨rfl, hm⟩))
  · dsimp only
    refine wpAny_bind (wpAny_setState_of ho hd R.fits ?_)
    dsimp only
    have q9 := put_rc R.tab (List.length_map _) R.rc rfl hfull
    have hj := way_in t.mask (k.hash w) K
    generalize way t.mask (k.hash w) K = j at hj hn q9 ⊢
    obtain ⟨q1, q2, q3, q4, q5, q6, q7, q8⟩ := put_ok R.tab hj hn
    generalize hpt : t.put j = pt at q1 q2 q3 q4 q5 q6 q7 q9 ⊢
    obtain ⟨t1, p⟩ := pt
    dsimp only at q1 q2 q3 q4 q5 q6 q7 q9 ⊢
    subst q1
    generalize hpp : SetTable.below t.place j = p at q8 q9 ⊢
    have tail : ∀ b : Bool, wpAny (model P w) A (do
        let t' := if b = true then t1 else { t1 with plain := false }
        storeSet a (SetTable.insertAt es p (k.hash w, Value.ref x)) t'
        if !false && t'.tooFull then setRelay a (SetTable.grown (es.size + 1))
        return true) Q E s := by
      intro b
      dsimp only
      generalize ht2 : (if b = true then t1 else { t1 with plain := false }) = t2
      have c2 : Ris t2.place.toList := by rw [← ht2]; cases b <;> exact q2
      have c3 : t2.dummies = #[] := by rw [← ht2]; cases b <;> exact q3
      have c4 : t2.place.size = L.length + 1 := by rw [← ht2]; cases b <;> exact q4
      have c5 : t2.mask = t.mask := by rw [← ht2]; cases b <;> exact q5
      have c6 : t2.led = t.led := by rw [← ht2]; cases b <;> exact q6
      have c7 : ∀ z ∈ t2.place.toList, z ≤ t.mask := by rw [← ht2]; cases b <;> exact q7
      have c9 : Rc t2 ((L.take p ++ (x, k) :: L.drop p).map fun q => q.2.hash w) := by
        rw [List.map_append, List.map_cons, List.map_take, List.map_drop, ← ht2]
        cases b <;> exact q9
      have hin : (SetTable.insertAt es p (k.hash w, Value.ref x)).toList = rws w (L.take p ++ (x, k) :: L.drop p) := by
        rw [SetTable.toList_insertAt, R.rows, rws, rws, List.map_append, List.map_cons, List.map_take, List.map_drop]
      have pm := put_perm L p (x, k)
      have hlen : (L.take p ++ (x, k) :: L.drop p).length = L.length + 1 := pm.length_eq
      have hes : (SetTable.insertAt es p (k.hash w, Value.ref x)).size = L.length + 1 := by
        have q := congrArg List.length hin
        rw [rws, List.length_map, hlen, Array.length_toList] at q
        exact q
      generalize SetTable.insertAt es p (k.hash w, Value.ref x) = es1 at hin hes ⊢
      generalize L.take p ++ (x, k) :: L.drop p = L1 at pm hlen hin c9
      refine wpAny_bind (wpAny_storeSet_of ho hd ?_ (by rw [hes, sizeLine_eq]; omega))
      have sb : Heap.SameBut a s.heap (s.heap.update a (Obj.putSet es1 t2)) := Heap.SameBut.update ..
      have ho1 := store_at (es' := es1) (t' := t2) ho hd
      generalize s.heap.update a (Obj.putSet es1 t2) = h1 at sb ho1 ⊢
      have tup1 : ∀ q ∈ L1, IsN P w h1 q.2 q.1 := fun q hq => by
        rcases List.mem_cons.mp (pm.mem_iff.mp hq) with e | hq
        · rw [e]; exact isN_same hx ho hd sb
        · exact isN_same (R.tup q hq) ho hd sb
      have ld1 : w.params.followText "set-order" = true ∨ t2.led = true := by rw [c6]; exact R.led
      have hroom := R.tab.room
      by_cases hf : t2.tooFull = true
      · first
          | (refine wpAny_bind ?_; refine wp_if_pos (by simp [hf]) ?_)
          | (refine wp_if_pos (by simp [hf]) ?_; refine wpAny_bind ?_)
        have hfull : (L.length + 1) * 5 ≥ t.mask * 3 := by
          have h := hf
          unfold SetTable.tooFull SetTable.fill at h
          rw [decide_eq_true_eq, c4, c3, c5] at h
          exact h
        obtain ⟨M, m1, m2, m3, m4⟩ := grows R.tab.msk hroom hfull hfew
        rw [hsl]
        refine relay_to (s := { s with heap := h1 }) ho1 ⟨hex.1, hex.2.1, hex.2.2⟩ rfl hin ?_ tup1 ld1 m1 m2 m3 (by rw [hlen]; exact m4) fun h2 L2 es2 ep2 t2' sb2 R2 pm2 => ?_
        · unfold SetTable.fits SetTable.fill
          rw [c3, Bool.and_eq_true, beq_iff_eq, decide_eq_true_eq]
          refine ⟨by rw [c4, hes], ?_⟩
          show t2.place.size + 0 ≤ t2.mask
          have := R.tab.lt
          omega
        · exact wpAny_pure (hQ true h2 L2 es2 ep2 t2' (sb.trans sb2) R2 (.inr ⟨hnk, pm2.trans pm⟩))
      · first
          | refine wp_if_neg (by simp [hf]) ?_
          | (refine wpAny_bind ?_; refine wp_if_neg (by simp [hf]) ?_; refine wpAny_pure ?_)
        refine wpAny_pure (hQ true h1 L1 es1 (ep + 1) t2 sb ⟨⟨⟨_, ho1, ⟨hex.1, hex.2.1, hex.2.2⟩, rfl⟩, hin, ⟨c2, c3, by rw [hlen]; exact c4, by rw [c5]; exact R.tab.msk, by rw [c5]; exact c7, ?_⟩, ld1⟩, tup1, c9⟩ (.inr ⟨hnk, pm⟩))
        have h := hf
        unfold SetTable.tooFull SetTable.fill at h
        rw [decide_eq_true_eq, c4, c3] at h
        rw [hlen]
        have e0 : (#[] : Array Nat).size = 0 := rfl
        omega
    by_cases hp1 : t1.plain = true
    · first
        | (refine wpAny_bind ?_; refine wp_if_pos hp1 ?_; refine hashV_key 8 k _ s _ hx.1 hx.2 tail)
        | exact wp_if_pos hp1 (wpAny_bind (hashV_key 8 k _ s _ hx.1 hx.2 tail))
    · first
        | (refine wpAny_bind ?_; refine wp_if_neg hp1 ?_; exact wpAny_pure (tail true))
        | exact wp_if_neg hp1 (wpAny_bind (wpAny_pure (tail true)))
end
end N7
namespace N7
open PySem PySem.Spec PyProof.Rows L2
/-! ### keys as data -/
section
variable {X : Cx} {pins : List (Addr × Obj)} {σ : L2.St} {H : Hp} {s : Shared}
mutual
theorem isN_val (I : Inv X pins σ H s) : ∀ (k : NK) (v : V) (u : Value), Dp X.K H v k.data → RelV v u → NestedIs s.heap k u
  | .none, _, _, h, r => by
    rw [NestedKey.data] at h
    cases h
    cases r
    exact .none
  | .num i, _, _, h, r => by
    rw [NestedKey.data] at h
    cases h
    obtain ⟨t, rfl⟩ := r
    exact .int i t
  | .text x, _, _, h, r => by
    rw [NestedKey.data] at h
    cases h
    obtain ⟨t, rfl⟩ := r
    exact .text x t
  | .tup ks, _, _, h, r => by
    rw [NestedKey.data] at h
    cases h with
    | tup hs ha =>
      cases r
      obtain ⟨its, rv, ⟨o, ho, hc, n, hd⟩, _⟩ := I.tuple hs
      exact .tup ho hc hd (by simpa using isN_vals I ks _ its ha rv)
theorem isN_vals (I : Inv X pins σ H s) : ∀ (ks : List NK) (vs : List V) (us : List Value), DpAll X.K H vs (NestedKey.datas ks) → Vals vs us → NestedAll s.heap ks us
  | [], _, _, h, r => by
    rw [NestedKey.datas] at h
    cases h
    cases r
    exact .nil
  | k :: ks, _, _, h, r => by
    rw [NestedKey.datas] at h
    cases h with
    | cons h1 h2 =>
      cases r with
      | cons r1 r2 => exact .cons (isN_val I k _ _ h1 r1) (isN_vals I ks _ _ h2 r2)
end
mutual
theorem rd_val (I : Inv X pins σ H s) : ∀ (k : NK) (v : V) (u : Value), Dp X.K H v k.data → RelV v u → Reads s.heap u k.data []
  | .none, _, _, h, r => by
    rw [NestedKey.data] at h ⊢
    cases h
    cases r
    exact .none
  | .num i, _, _, h, r => by
    rw [NestedKey.data] at h ⊢
    cases h
    obtain ⟨t, rfl⟩ := r
    exact .int i t
  | .text x, _, _, h, r => by
    rw [NestedKey.data] at h ⊢
    cases h
    obtain ⟨t, rfl⟩ := r
    exact .str x t
  | .tup ks, _, _, h, r => by
    rw [NestedKey.data] at h ⊢
    cases h with
    | tup hs ha =>
      cases r
      obtain ⟨its, rv, ⟨o, ho, hc, n, hd⟩, _⟩ := I.tuple hs
      exact .tuple ho hc hd (by simpa using rd_vals I ks _ its ha rv)
theorem rd_vals (I : Inv X pins σ H s) : ∀ (ks : List NK) (vs : List V) (us : List Value), DpAll X.K H vs (NestedKey.datas ks) → Vals vs us → ReadsAll s.heap us (NestedKey.datas ks) []
  | [], _, _, h, r => by
    rw [NestedKey.datas] at h ⊢
    cases h
    cases r
    exact .nil
  | k :: ks, _, _, h, r => by
    rw [NestedKey.datas] at h ⊢
    cases h with
    | cons h1 h2 =>
      cases r with
      | cons r1 r2 => exact ReadsAll.cons (as := []) (bs := []) (rd_val I k _ _ h1 r1) (rd_vals I ks _ _ h2 r2)
end
mutual
theorem depth_data : ∀ k : NK, k.data.depth = k.depth
  | .none => by rw [NestedKey.data, PyData.depth, NestedKey.depth]
  | .num _ => by rw [NestedKey.data, PyData.depth, NestedKey.depth]
  | .text _ => by rw [NestedKey.data, PyData.depth, NestedKey.depth]
  | .tup ks => by rw [NestedKey.data, PyData.depth, NestedKey.depth, depth_datas ks]
theorem depth_datas : ∀ ks : List NK, PyData.depthAll (NestedKey.datas ks) = NestedKey.depthAll ks
  | [] => by rw [NestedKey.datas, PyData.depthAll, NestedKey.depthAll]
  | k :: ks => by rw [NestedKey.datas, PyData.depthAll, NestedKey.depthAll, depth_data k, depth_datas ks]
end
/-- at p's place stands p's key -/
def Kd (K : PySem.W.Frag) (H : Hp) (p : Addr × NK) : Prop := Dp K H (.ref p.1) p.2.data ∧ p.2.depth ≤ 8
theorem Kd.isN (I : Inv X pins σ H s) {p : Addr × NK} (h : Kd X.K H p) : IsN X.prog X.w s.heap p.2 p.1 := ⟨isN_val I p.2 _ _ h.1 rfl, h.2⟩
theorem refs_vals : ∀ (ks : List (Addr × NK)), Vals (ks.map fun p => V.ref p.1) (ks.map fun p => Value.ref p.1)
  | [] => .nil
  | _ :: ks => .cons rfl (refs_vals ks)
theorem refs_eq : ∀ {ks : List (Addr × NK)} {us : List Value}, Vals (ks.map fun p => V.ref p.1) us → us = ks.map fun p => Value.ref p.1
  | [], _, .nil => rfl
  | p :: ks, _, .cons r t => by
    cases r
    rw [List.map_cons, ← refs_eq t]
end
/-! ### set(xs) -/
/-- what has come in of the first i -/
structure Come (ks : List (Addr × NK)) (i : Nat) (L : List (Addr × NK)) : Prop where
  sub : ∀ p ∈ L, p ∈ ks.take i
  all : ∀ p ∈ ks.take i, p.2 ∈ L.map (·.2)
  len : L.length ≤ i
  less : L.length = i ∨ ¬ ((ks.take i).map (·.2)).Nodup
  nd : (L.map (·.2)).Nodup
theorem take_one {α : Type} {l : List α} {i : Nat} {x : α} (h : l[i]? = some x) : l.take (i + 1) = l.take i ++ [x] := by rw [List.take_succ, h]; rfl
theorem Come.zero (ks : List (Addr × NK)) : Come ks 0 [] := ⟨fun _ h => (by cases h), fun _ h => (by simp at h), Nat.le_refl _, .inl rfl, List.Pairwise.nil⟩
theorem Come.next {ks L L' : List (Addr × NK)} {i : Nat} {x : Addr × NK} (g : Come ks i L) (h : ks[i]? = some x) (c : (L' = L ∧ x.2 ∈ L.map (·.2)) ∨ (x.2 ∉ L.map (·.2) ∧ L'.Perm (x :: L))) : Come ks (i + 1) L' := by
  have e := take_one h
  have nd : ¬ ((ks.take i).map (·.2)).Nodup → ¬ ((ks.take (i + 1)).map (·.2)).Nodup := fun z q => z (by
    rw [e, List.map_append] at q
    exact (List.nodup_append.mp q).1)
  rcases c with ⟨rfl, hm⟩ | ⟨hnx, pm⟩
  · refine ⟨fun p hp => by rw [e]; exact List.mem_append_left _ (g.sub p hp), fun p hp => ?_, Nat.le_succ_of_le g.len, .inr fun q => ?_, g.nd⟩
    · rw [e] at hp
      rcases List.mem_append.mp hp with z | z
      · exact g.all p z
      · rw [List.mem_singleton.mp z]; exact hm
    · obtain ⟨y, hy, ey⟩ := List.mem_map.mp hm
      rw [e, List.map_append, List.map_cons, List.map_nil] at q
      exact (List.nodup_append.mp q).2.2 x.2 (List.mem_map.mpr ⟨y, g.sub y hy, ey⟩) x.2 (List.mem_singleton.mpr rfl) rfl
  · refine ⟨fun p hp => ?_, fun p hp => ?_, by rw [pm.length_eq, List.length_cons]; exact Nat.succ_le_succ g.len, ?_, (pm.map (·.2)).nodup_iff.mpr (List.nodup_cons.mpr ⟨hnx, g.nd⟩)⟩
    · rw [e]
      rcases List.mem_cons.mp (pm.mem_iff.mp hp) with z | z
      · rw [z]; exact List.mem_append_right _ (List.mem_singleton.mpr rfl)
      · exact List.mem_append_left _ (g.sub p z)
    · rw [(pm.map (·.2)).mem_iff, List.map_cons]
      rw [e] at hp
      rcases List.mem_append.mp hp with z | z
      · exact List.mem_cons_of_mem _ (g.all p z)
      · rw [List.mem_singleton.mp z]; exact List.mem_cons_self
    · rcases g.less with z | z
      · exact .inl (by rw [pm.length_eq, List.length_cons, z])
      · exact .inr (nd z)
section
variable {P : Program} {w : World} {A : Around} {E : Value → Shared → Prop} {s : Shared}
theorem SR.keep {h h' : Heap} {a : Addr} {L : List (Addr × NK)} {es : Array (Int × Value)} {ep : Nat} {t : SetTable} (R : SR P w h a L es ep t) (ha : ∀ o, h.get? a = some o → h'.get? a = some o) (ht : ∀ p ∈ L, IsN P w h' p.2 p.1) : SR P w h' a L es ep t := by
  obtain ⟨o, ho, r⟩ := R.ob
  exact ⟨⟨⟨o, ha o ho, r⟩, R.rows, R.tab, R.led⟩, ht, R.rc⟩
abbrev newS (w : World) : Obj := { cls := .type "set", dict := none, data := .set #[] 0 (.fresh 0 0 (!w.params.followText "set-order")) }
theorem sr_new {h : Heap} {a : Addr} (ho : h.get? a = some (newS w)) : SR P w h a [] #[] 0 (.fresh 0 0 (!w.params.followText "set-order")) := by
  refine ⟨⟨⟨_, ho, ⟨rfl, rfl, rfl⟩, rfl⟩, rfl, ⟨List.Pairwise.nil, rfl, rfl, .inl rfl, fun x hx => (by cases hx), (by show 0 * 5 < 7 * 3; decide)⟩, ?_⟩, fun p hp => (by cases hp), fun i g j h1 => (by simp at h1)⟩
  show _ ∨ (!w.params.followText "set-order") = true
  cases w.params.followText "set-order"
  · exact .inr rfl
  · exact .inl rfl
theorem fill_loop {I : Addr} {fp wr : List Addr} {G : Array GenState → Array GenState → Prop} {n : Nat} {Pv : Nat → Value → Prop} {Sw : Nat → Shared → Prop} {R : Result → Shared → Prop}
    (W : WalksS P w A.in1 I fp wr G n Pv Sw) (a : Addr) (haf : a ∉ fp) (ks : List (Addr × NK)) (hn : n = ks.length) (hfew : ks.length < 4800) (hval : ∀ i v, Pv i v → ∃ p, ks[i]? = some p ∧ v = .ref p.1)
    (h0 : Heap) (hk : ∀ p ∈ ks, IsN P w h0 p.2 p.1) (ha0 : h0.get? a = none) (hw0 : ∀ b ∈ wr, h0.get? b = none) (hu : A.in1.units + 8 < cLine) :
    ∀ (d i : Nat) (s : Shared), n - i = d → i ≤ n → Sw i s → (∀ b o, h0.get? b = some o → s.heap.get? b = some o) → (∃ L es ep t, SR P w s.heap a L es ep t ∧ Come ks i L) →
      (∀ s' L es ep t, Moved (a :: wr) G s s' → SR P w s'.heap a L es ep t → Come ks n L → (∀ b o, h0.get? b = some o → s'.heap.get? b = some o) → R (.ok (.ret .none)) s') →
      codeAny (model P w) A (.builtin "set.update.loop" ⟨[.ref a, .ref I], []⟩) R s := by
  have haw : a ∉ wr := fun h => haf (W.sub _ h)
  have up : ∀ {s1 s2 : Shared}, Moved wr G s1 s2 → (∀ b o, h0.get? b = some o → s1.heap.get? b = some o) → ∀ b o, h0.get? b = some o → s2.heap.get? b = some o := fun hm hkp b o e =>
    hm.heap b o (fun hb => by rw [hw0 b hb] at e; cases e) (hkp b o e)
  intro d
  induction d with
  | zero =>
    intro i s hd hi hst hkp hS hR
    obtain ⟨L, es, ep, t, hS, g⟩ := hS
    obtain rfl : i = n := by omega
    refine codeAny_builtin F.entry_set_update_loop ?_
    rw [Around.under_plainId F.plain_set_update_loop _]
    show wpAny _ A.in1 (pyNext (.ref I) >>= _) _ _ s
    refine wpAny_bind (W.done s _ _ hst fun s' hm => ?_)
    show wpAny _ A.in1 (ret Value.none) _ _ s'
    have hkp2 := up hm hkp
    exact wpAny_pure (hR s' L es ep t (hm.mono fun b hb => List.mem_cons_of_mem _ hb) (hS.keep (fun o e => hm.heap a o haw e) fun p hp => isN_keep (hk p (List.mem_of_mem_take (g.sub p hp))) hkp2) g hkp2)
  | succ d ih =>
    intro i s hd hi hst hkp hS hR
    obtain ⟨L, es, ep, t, hS, g⟩ := hS
    have hlt : i < n := by omega
    refine codeAny_builtin F.entry_set_update_loop ?_
    rw [Around.under_plainId F.plain_set_update_loop _]
    show wpAny _ A.in1 (pyNext (.ref I) >>= _) _ _ s
    refine wpAny_bind (W.item i s _ _ hlt hst fun v s1 hP hst1 hm => ?_)
    obtain ⟨p, hp, rfl⟩ := hval i v hP
    have hkp1 := up hm hkp
    have hS1 : SR P w s1.heap a L es ep t := hS.keep (fun o e => hm.heap a o haw e) fun q hq => isN_keep (hk q (List.mem_of_mem_take (g.sub q hq))) hkp1
    have hx : IsN P w s1.heap p.2 p.1 := isN_keep (hk p (List.mem_of_getElem? hp)) hkp1
    show wpAny _ A.in1 (holding [Value.ref p.1] (setAdd a (.ref p.1)) >>= _) _ _ s1
    refine wpAny_bind (wpAny_holding ?_)
    unfold setAdd
    refine wpAny_holding ?_
    refine wpAny_bind ((nestedKind P w).pyHash hu hx ?_)
    refine add_to (s := { s1 with toks := s1.toks + p.2.draws }) hS1 hx hu (by have := g.len; omega) fun b h2 L2 es2 ep2 t2 sb hS2 c => ?_
    have hkp2 : ∀ b o, h0.get? b = some o → h2.get? b = some o := fun b o e => (sb.2 b (fun z => by rw [z, ha0] at e; cases e)).trans (hkp1 b o e)
    refine wpAny_pure ⟨plainId_quiet F.plain_set_update_loop _, ih (i + 1) _ (by omega) hlt (W.frame _ s1 _ _ hst1 (Nat.le_add_right _ _) fun b hb o e => ?_) hkp2 ⟨L2, es2, ep2, t2, hS2, g.next hp c⟩ fun s3 L3 es3 ep3 t3 hm3 hS3 g3 hkp3 => ?_⟩
    · rw [sb.2 b (fun z : b = a => haf (by rw [← z]; exact hb))]; exact e
    · refine hR s3 L3 es3 ep3 t3 (Moved.trans W.gtrans ((hm.mono fun b hb => List.mem_cons_of_mem _ hb).then_heap (Nat.le_add_right _ _) fun b o hb e => ?_) hm3) hS3 g3 hkp3
      rw [sb.2 b (fun z : b = a => hb (by rw [z]; exact List.mem_cons_self))]; exact e

set_option maxRecDepth 100000 in
set_option maxHeartbeats 3200000 in
/-- set(x), the filling by what the argument's iterator does -/
theorem call_set_gen {l : Addr} {T : String} {Done : Shared → Prop} {Q : Value → Shared → Prop} (hT0 : s.TypeIs (.ref l) T) (hsls : isSubtype (.type T) (.type "set") = pure false) (hslf : isSubtype (.type T) (.type "frozenset") = pure false)
    (hne : (Value.type T == Value.type "dict") = false)
    (src : ∀ (R E2 : Value → Shared → Prop), (∀ I s2, (∀ R2 : Result → Shared → Prop, (∀ s3, Done s3 → R2 (.ok (.ret .none)) s3) → codeAny (model P w) A.in1.in1 (.builtin "set.update.loop" ⟨[.ref s.heap.objs.size, I], []⟩) R2 s2) → R I s2) →
      wpAny (model P w) A.in1.in1 (pyIter (.ref l)) R E2 { s with heap := s.heap.push (newS w) })
    (h : ∀ s3, Done s3 → Q (.ref s.heap.objs.size) s3) : wpAny (model P w) A (call (.type "set") [.ref l]) Q E s := by
  obtain ⟨c, tl, hmro⟩ := F.called_set.mro
  have hmade := F.called_set.made
  have hsub := F.called_set.sub
  refine wpAny_call (codeAny_of_tree ?_)
  show wpAny _ _ (callAny (.type "set") _) _ _ _
  refine wpAny_pure ⟨Code.quiet_builtin _ (by decide +kernel), codeAny_builtin F.entry_type_call ?_⟩
  rw [Around.under_plain (weight_type_call_type "set" [.ref l] []) rfl]
  have h1 := F.called_set.notType
  have h2 := F.called_set.canCreate
  have hct := F.typeCall_set_1 (.ref l)
  repeat (any_goals (first | assumption | wp_step))
  refine codeAny_mono (code_set_led1 (.ref l) (E := E) (Q₁ := fun obj s1 => obj = .ref s.heap.objs.size ∧ s1 = { s with heap := s.heap.push (newS w) }) ⟨rfl, rfl⟩) fun r s1 hr => ?_
  cases r with
  | error e => exact hr
  | ok fl =>
    cases fl with
    | ret obj =>
      obtain ⟨rfl, rfl⟩ := hr
      have hS : (s.heap.push (newS w)).get? s.heap.objs.size = some (newS w) := Heap.get?_push_size _ rfl
      have hT : Shared.TypeIs { s with heap := s.heap.push (newS w) } (.ref s.heap.objs.size) "set" := ⟨_, hS, rfl⟩
      have hli := F.called_set.init.lookup
      have hbi := F.called_set.init.bind (.ref s.heap.objs.size)
      repeat (any_goals (first | assumption | wp_step))
      refine codeAny_mono (codeAny_call_builtin (R := wants (fun r s2 => r = .none ∧ Done s2) E) F.called_set.init.plain F.entry_set_init (check_set_init_1 hT ?_)) fun r2 s2 hr2 => ?_
      · obtain ⟨⟨ocls, odict, odata, oslots⟩, hol, hcl⟩ := hT0
        simp only at hcl
        subst hcl
        have hol2 : (s.heap.push (newS w)).get? l = some { cls := .type T, dict := odict, data := odata, slots := oslots } := Heap.get?_push_of_some _ hol
        unfold Builtin.«set.__init__» noKeywords Builtin.Frozenset.updateFrom
        generalize hPI : pyIter = PI
        wp_walk
        subst hPI
        refine src _ _ fun I s3 hgo => ?_
        refine wpAny_bind (wpAny_runValue ?_)
        refine hgo _ fun s4 hd => ?_
        show wpAny _ _ _ _ _ _
        refine wpAny_pure ?_
        show wpAny _ _ (ret Value.none) _ _ _
        exact wpAny_pure ⟨rfl, hd⟩
      · cases r2 with
        | error e => exact hr2
        | ok fl2 =>
          cases fl2 with
          | ret r =>
            obtain ⟨rfl, hd⟩ := hr2
            repeat (any_goals (first | assumption | wp_step))
            exact h _ hd
          | _ => exact hr2.elim
    | _ => exact hr.elim

theorem src_ints {l : Addr} {items : Array Value} (ns : List Int) (hh : A.handled = none) (hl : s.heap.IsList l items) (hit : IntsAre items.toList ns) (hb : ns.length + 1 < scanBound)
    (R E2 : Value → Shared → Prop) (hR : ∀ I s2, (∀ R2 : Result → Shared → Prop, (∀ s3, (∃ (h' : Heap) (tk c : Nat), s3 = { s with heap := h', toks := tk } ∧ SetR w h' s.heap.objs.size (fun j => decide (j ∈ ns)) c ∧ c ≤ ns.length ∧ (∀ b o, s.heap.get? b = some o → h'.get? b = some o)) → R2 (.ok (.ret .none)) s3) →
      codeAny (model P w) A.in1.in1 (.builtin "set.update.loop" ⟨[.ref s.heap.objs.size, I], []⟩) R2 s2) → R I s2) :
    wpAny (model P w) A.in1.in1 (pyIter (.ref l)) R E2 { s with heap := s.heap.push (newS w) } := by
  have hisz : items.size = ns.length := by
    have q := IntsAre.length hit
    rw [Array.length_toList] at q
    exact q
  have hS : (s.heap.push (newS w)).get? s.heap.objs.size = some (newS w) := Heap.get?_push_size _ rfl
  have hl1 : (s.heap.push (newS w)).IsList l items := hl.push _
  have hlS : l < s.heap.objs.size := by obtain ⟨o, ho, _⟩ := id hl; exact Heap.lt_size ho
  have hh3 : A.in1.in1.in1.handled = none := by simp [hh]
  have hz1 : (s.heap.push (newS w)).objs.size = s.heap.objs.size + 1 := Heap.size_push ..
  have hneI : l ≠ (s.heap.push (newS w)).objs.size := by rw [hz1]; exact Nat.ne_of_lt (Nat.lt_succ_of_lt hlS)
  have hSf : s.heap.objs.size ∉ [(s.heap.push (newS w)).objs.size, l] := by
    rw [hz1]
    simp only [List.mem_cons, List.not_mem_nil, or_false, not_or]
    exact ⟨Nat.ne_of_lt (Nat.lt_succ_self _), Nat.ne_of_gt hlS⟩
  have hval : ∀ (i : Nat) (v : Value), items[i]? = some v → ∃ k t, ns[i]? = some k ∧ v = .int k t := fun i v hv => by
    have hi : i < ns.length := by rw [← hisz]; exact (Array.getElem?_eq_some_iff.mp hv).1
    obtain ⟨t, e⟩ := PyProof.Rows.IntsAre.int_at hit i v (by rw [Array.getElem?_toList]; exact hv)
    refine ⟨ns[i], t, List.getElem?_eq_getElem hi, ?_⟩
    rw [e, List.getD_eq_getElem?_getD, List.getElem?_eq_getElem hi]
    rfl
  refine wpAny_pyIter_list hl1 (hR _ _ fun R2 hR2 => ?_)
  refine set_update_ints ((Walks.list hh3 _ l hneI items).toS) s.heap.objs.size hSf ns hisz hb hval (items.size - 0) 0 _ (by omega) (Nat.zero_le _)
    ⟨⟨_, Heap.get?_push_size _ rfl, rfl, rfl⟩, (hl1.push _)⟩ ⟨0, Nat.le_refl 0, setR_new_at (Heap.get?_push_of_some _ hS)⟩ fun s3 c hm hc hS3 => ?_
  obtain ⟨h3, g4, d3, tk3, os3⟩ := s3
  obtain rfl : g4 = s.gens := hm.gens
  obtain rfl : d3 = s.drawn := hm.drawn
  obtain rfl : os3 = s.os := hm.os
  rw [hisz] at hc
  refine hR2 _ ⟨h3, tk3, c, rfl, hS3, hc, fun b o e => ?_⟩
  have hb0 : b < s.heap.objs.size := Heap.lt_size e
  exact hm.heap b o (by
    rw [hz1]
    simp only [List.mem_cons, List.not_mem_nil, or_false, not_or]
    exact ⟨Nat.ne_of_lt hb0, Nat.ne_of_lt (Nat.lt_succ_of_lt hb0)⟩) (Heap.get?_push_of_some _ (Heap.get?_push_of_some _ e))
theorem call_set_ints {l : Addr} {items : Array Value} (ns : List Int) {Q : Value → Shared → Prop} (hh : A.handled = none) (hl : s.heap.IsList l items) (hit : IntsAre items.toList ns) (hb : ns.length + 1 < scanBound)
    (h : ∀ (h' : Heap) (tk c : Nat), SetR w h' s.heap.objs.size (fun j => decide (j ∈ ns)) c → c ≤ ns.length → (∀ b o, s.heap.get? b = some o → h'.get? b = some o) → Q (.ref s.heap.objs.size) { s with heap := h', toks := tk }) :
    wpAny (model P w) A (call (.type "set") [.ref l]) Q E s := by
  refine call_set_gen (by obtain ⟨o, ho, hc, _⟩ := id hl; exact ⟨o, ho, hc⟩) F.sub_list_set F.sub_list_frozenset (by decide) (src_ints ns hh hl hit hb) fun s3 hd => ?_
  obtain ⟨h', tk, c, rfl, r1, r2, r3⟩ := hd
  exact h h' tk c r1 r2 r3

theorem src_list {l : Addr} {items : Array Value} (ks : List (Addr × NK)) (hh : A.handled = none) (hl : s.heap.IsList l items) (hit : items.toList = ks.map fun p => Value.ref p.1) (hk : ∀ p ∈ ks, IsN P w s.heap p.2 p.1) (hfew : ks.length < 4800) (hu : A.units + 16 < cLine)
    (R E2 : Value → Shared → Prop) (hR : ∀ I s2, (∀ R2 : Result → Shared → Prop, (∀ s3, (∃ (h' : Heap) (tk : Nat) (L : List (Addr × NK)) (es : Array (Int × Value)) (ep : Nat) (t : SetTable), s3 = { s with heap := h', toks := tk } ∧ SR P w h' s.heap.objs.size L es ep t ∧ Come ks ks.length L ∧ (∀ b o, s.heap.get? b = some o → h'.get? b = some o)) → R2 (.ok (.ret .none)) s3) →
      codeAny (model P w) A.in1.in1 (.builtin "set.update.loop" ⟨[.ref s.heap.objs.size, I], []⟩) R2 s2) → R I s2) :
    wpAny (model P w) A.in1.in1 (pyIter (.ref l)) R E2 { s with heap := s.heap.push (newS w) } := by
  have hisz : items.size = ks.length := by simpa using congrArg List.length hit
  have hS : (s.heap.push (newS w)).get? s.heap.objs.size = some (newS w) := Heap.get?_push_size _ rfl
  have hl1 : (s.heap.push (newS w)).IsList l items := hl.push _
  have hlS : l < s.heap.objs.size := by obtain ⟨o, ho, _⟩ := id hl; exact Heap.lt_size ho
  have hh3 : A.in1.in1.in1.handled = none := by simp [hh]
  have hz1 : (s.heap.push (newS w)).objs.size = s.heap.objs.size + 1 := Heap.size_push ..
  have hneI : l ≠ (s.heap.push (newS w)).objs.size := by rw [hz1]; exact Nat.ne_of_lt (Nat.lt_succ_of_lt hlS)
  have hSf : s.heap.objs.size ∉ [(s.heap.push (newS w)).objs.size, l] := by
    rw [hz1]
    simp only [List.mem_cons, List.not_mem_nil, or_false, not_or]
    exact ⟨Nat.ne_of_lt (Nat.lt_succ_self _), Nat.ne_of_gt hlS⟩
  have hval : ∀ (i : Nat) (v : Value), items[i]? = some v → ∃ p, ks[i]? = some p ∧ v = .ref p.1 := fun i v hv => by
    have q : items.toList[i]? = some v := by rw [Array.getElem?_toList]; exact hv
    rw [hit, List.getElem?_map, Option.map_eq_some_iff] at q
    obtain ⟨p, e1, e2⟩ := q
    exact ⟨p, e1, e2.symm⟩
  have none_of : ∀ b, s.heap.objs.size ≤ b → s.heap.get? b = none := fun b hb => by
    cases q : s.heap.get? b with
    | none => rfl
    | some o => exact absurd (Nat.lt_of_lt_of_le (Heap.lt_size q) hb) (Nat.lt_irrefl _)
  refine wpAny_pyIter_list hl1 (hR _ _ fun R2 hR2 => ?_)
  refine fill_loop ((Walks.list hh3 _ l hneI items).toS) s.heap.objs.size hSf ks hisz hfew hval s.heap hk (none_of _ (Nat.le_refl _)) (fun b hb => none_of b (by
      rw [List.mem_singleton.mp hb, hz1]
      exact Nat.le_succ _)) (by simp only [Around.in1_units]; omega) (items.size - 0) 0 _ (by omega) (Nat.zero_le _)
    ⟨⟨_, Heap.get?_push_size _ rfl, rfl, rfl⟩, (hl1.push _)⟩ (fun b o e => Heap.get?_push_of_some _ (Heap.get?_push_of_some _ e)) ⟨[], #[], 0, _, sr_new (Heap.get?_push_of_some _ hS), Come.zero ks⟩ fun s3 L es ep t hm hS3 g3 hkp => ?_
  obtain ⟨h3, g4, d3, tk3, os3⟩ := s3
  obtain rfl : g4 = s.gens := hm.gens
  obtain rfl : d3 = s.drawn := hm.drawn
  obtain rfl : os3 = s.os := hm.os
  rw [hisz] at g3
  exact hR2 _ ⟨h3, tk3, L, es, ep, t, rfl, hS3, g3, hkp⟩
theorem call_set_list {l : Addr} {items : Array Value} (ks : List (Addr × NK)) {Q : Value → Shared → Prop} (hh : A.handled = none) (hl : s.heap.IsList l items) (hit : items.toList = ks.map fun p => Value.ref p.1)
    (hk : ∀ p ∈ ks, IsN P w s.heap p.2 p.1) (hfew : ks.length < 4800) (hu : A.units + 16 < cLine)
    (h : ∀ (h' : Heap) (tk : Nat) L es ep t, SR P w h' s.heap.objs.size L es ep t → Come ks ks.length L → (∀ b o, s.heap.get? b = some o → h'.get? b = some o) → Q (.ref s.heap.objs.size) { s with heap := h', toks := tk }) :
    wpAny (model P w) A (call (.type "set") [.ref l]) Q E s := by
  refine call_set_gen (by obtain ⟨o, ho, hc, _⟩ := id hl; exact ⟨o, ho, hc⟩) F.sub_list_set F.sub_list_frozenset (by decide) (src_list ks hh hl hit hk hfew hu) fun s3 hd => ?_
  obtain ⟨h', tk, L, es, ep, t, rfl, r1, r2, r3⟩ := hd
  exact h h' tk L es ep t r1 r2 r3

theorem src_tuple {l : Addr} {items : Array Value} (ks : List (Addr × NK)) (hh : A.handled = none) (hl : s.heap.IsTuple l items) (hit : items.toList = ks.map fun p => Value.ref p.1) (hk : ∀ p ∈ ks, IsN P w s.heap p.2 p.1) (hfew : ks.length < 4800) (hu : A.units + 16 < cLine)
    (R E2 : Value → Shared → Prop) (hR : ∀ I s2, (∀ R2 : Result → Shared → Prop, (∀ s3, (∃ (h' : Heap) (tk : Nat) (L : List (Addr × NK)) (es : Array (Int × Value)) (ep : Nat) (t : SetTable), s3 = { s with heap := h', toks := tk } ∧ SR P w h' s.heap.objs.size L es ep t ∧ Come ks ks.length L ∧ (∀ b o, s.heap.get? b = some o → h'.get? b = some o)) → R2 (.ok (.ret .none)) s3) →
      codeAny (model P w) A.in1.in1 (.builtin "set.update.loop" ⟨[.ref s.heap.objs.size, I], []⟩) R2 s2) → R I s2) :
    wpAny (model P w) A.in1.in1 (pyIter (.ref l)) R E2 { s with heap := s.heap.push (newS w) } := by
  have hisz : items.size = ks.length := by simpa using congrArg List.length hit
  have hS : (s.heap.push (newS w)).get? s.heap.objs.size = some (newS w) := Heap.get?_push_size _ rfl
  have hl1 : (s.heap.push (newS w)).IsTuple l items := hl.push _
  have hlS : l < s.heap.objs.size := by obtain ⟨o, ho, _⟩ := id hl; exact Heap.lt_size ho
  have hh3 : A.in1.in1.in1.handled = none := by simp [hh]
  have hz1 : (s.heap.push (newS w)).objs.size = s.heap.objs.size + 1 := Heap.size_push ..
  have hneI : l ≠ (s.heap.push (newS w)).objs.size := by rw [hz1]; exact Nat.ne_of_lt (Nat.lt_succ_of_lt hlS)
  have hSf : s.heap.objs.size ∉ [(s.heap.push (newS w)).objs.size, l] := by
    rw [hz1]
    simp only [List.mem_cons, List.not_mem_nil, or_false, not_or]
    exact ⟨Nat.ne_of_lt (Nat.lt_succ_self _), Nat.ne_of_gt hlS⟩
  have hval : ∀ (i : Nat) (v : Value), items[i]? = some v → ∃ p, ks[i]? = some p ∧ v = .ref p.1 := fun i v hv => by
    have q : items.toList[i]? = some v := by rw [Array.getElem?_toList]; exact hv
    rw [hit, List.getElem?_map, Option.map_eq_some_iff] at q
    obtain ⟨p, e1, e2⟩ := q
    exact ⟨p, e1, e2.symm⟩
  have none_of : ∀ b, s.heap.objs.size ≤ b → s.heap.get? b = none := fun b hb => by
    cases q : s.heap.get? b with
    | none => rfl
    | some o => exact absurd (Nat.lt_of_lt_of_le (Heap.lt_size q) hb) (Nat.lt_irrefl _)
  refine wpAny_pyIter_tuple hl1 (hR _ _ fun R2 hR2 => ?_)
  refine fill_loop ((Walks.tuple hh3 _ l hneI items).toS) s.heap.objs.size hSf ks hisz hfew hval s.heap hk (none_of _ (Nat.le_refl _)) (fun b hb => none_of b (by
      rw [List.mem_singleton.mp hb, hz1]
      exact Nat.le_succ _)) (by simp only [Around.in1_units]; omega) (items.size - 0) 0 _ (by omega) (Nat.zero_le _)
    ⟨⟨_, Heap.get?_push_size _ rfl, rfl, rfl⟩, (hl1.push _)⟩ (fun b o e => Heap.get?_push_of_some _ (Heap.get?_push_of_some _ e)) ⟨[], #[], 0, _, sr_new (Heap.get?_push_of_some _ hS), Come.zero ks⟩ fun s3 L es ep t hm hS3 g3 hkp => ?_
  obtain ⟨h3, g4, d3, tk3, os3⟩ := s3
  obtain rfl : g4 = s.gens := hm.gens
  obtain rfl : d3 = s.drawn := hm.drawn
  obtain rfl : os3 = s.os := hm.os
  rw [hisz] at g3
  exact hR2 _ ⟨h3, tk3, L, es, ep, t, rfl, hS3, g3, hkp⟩
theorem call_set_tuple {l : Addr} {items : Array Value} (ks : List (Addr × NK)) {Q : Value → Shared → Prop} (hh : A.handled = none) (hl : s.heap.IsTuple l items) (hit : items.toList = ks.map fun p => Value.ref p.1)
    (hk : ∀ p ∈ ks, IsN P w s.heap p.2 p.1) (hfew : ks.length < 4800) (hu : A.units + 16 < cLine)
    (h : ∀ (h' : Heap) (tk : Nat) L es ep t, SR P w h' s.heap.objs.size L es ep t → Come ks ks.length L → (∀ b o, s.heap.get? b = some o → h'.get? b = some o) → Q (.ref s.heap.objs.size) { s with heap := h', toks := tk }) :
    wpAny (model P w) A (call (.type "set") [.ref l]) Q E s := by
  refine call_set_gen (by obtain ⟨o, ho, hc, _⟩ := id hl; exact ⟨o, ho, hc⟩) F.sub_tuple_set F.sub_tuple_frozenset (by decide) (src_tuple ks hh hl hit hk hfew hu) fun s3 hd => ?_
  obtain ⟨h', tk, L, es, ep, t, rfl, r1, r2, r3⟩ := hd
  exact h h' tk L es ep t r1 r2 r3
end
end N7
namespace N7
open PySem PySem.Spec PyProof.Rows L2
section
open PySem.W
theorem each_vals {α : Type} {tv : α → V} : ∀ {vs : List Value} {bs : List α}, EachIs (fun v b => RelV (tv b) v) vs bs → Vals (bs.map tv) vs
  | [], [], _ => .nil
  | _ :: _, _ :: _, .cons e t => .cons e (each_vals t)
theorem perm_map {α β : Type} {f : α → β} : ∀ {L : List α} {vs : List β}, vs.Perm (L.map f) → ∃ L0 : List α, L0.Perm L ∧ vs = L0.map f
  | L, [], h => ⟨[], by
      have e := h.length_eq
      rw [List.length_nil, List.length_map] at e
      rw [List.eq_nil_of_length_eq_zero e.symm], rfl⟩
  | L, v :: vs, h => by
    have hm : v ∈ L.map f := h.mem_iff.mp List.mem_cons_self
    obtain ⟨x, hx, rfl⟩ := List.mem_map.mp hm
    obtain ⟨A, B, rfl⟩ := List.append_of_mem hx
    have h2 : vs.Perm ((A ++ B).map f) := by
      refine List.Perm.cons_inv (h.trans ?_)
      rw [List.map_append, List.map_cons, List.map_append]
      exact List.perm_middle
    obtain ⟨L0, p0, rfl⟩ := perm_map h2
    exact ⟨x :: L0, (p0.cons x).trans List.perm_middle.symm, rfl⟩
end
section
variable {P : Program} {w : World} {A : Around} {E : Value → Shared → Prop} {s : Shared}
/-! ### sorted(x), by what is collected from x -/
open PySem.W in
theorem sorted_src {β : Type} {enc : β → PyData} {tv : β → V} {bs0 : List β} {a : Addr} {Q : Value → Shared → Prop}
    (col : ∀ (Q2 : List Value → Shared → Prop) (E2 : Value → Shared → Prop), (∀ (s1 : Shared) (vs : List Value) (bs : List β), (∀ b o, s.heap.get? b = some o → s1.heap.get? b = some o) → s1.gens = s.gens → s1.os = s.os → bs.Perm bs0 →
      EachIs (fun v b => RelV (tv b) v ∧ Reads s.heap v (enc b) []) vs bs → Q2 vs s1) → wpAny (model P w) A.in1 (collect (.ref a)) Q2 E2 s)
    (hal : AllAlike (bs0.map enc)) (hso : Sortable (bs0.map enc)) (hlen : bs0.length ≤ 100000) (hdp : ∀ b ∈ bs0, (enc b).depth ≤ 8) (hu : A.units + 16 < cLine)
    (hQ : ∀ (s1 s2 : Shared) (p : Addr) (out : List Value) (c : Nat) (bs : List β), (∀ b o, s.heap.get? b = some o → s1.heap.get? b = some o) → (∀ b o, s1.heap.get? b = some o → s2.heap.get? b = some o) → s1.gens = s.gens → s1.os = s.os → s2.gens = s.gens → s2.os = s.os → s1.heap.objs.size ≤ p →
      s2.heap.get? p = some (seqObj "list" out.toArray c) → bs.Perm bs0 → EachIs (fun v b => RelV (tv b) v) out (bs.mergeSort (dataLe false enc)) → Q (.ref p) s2) :
    wpAny (model P w) A (call (.builtin "sorted") [.ref a]) Q E s := by
  refine Calls.call_function_entry kind_sorted plain_sorted entry_sorted (args_sorted1 _) ?_
  unfold Builtin.«sorted»
  refine wpAny_bind (m := checkCount "sorted" 1 1 _) (wpAny_pure ?_)
  refine wpAny_bind (col _ _ fun s1 vs bs k1 g1 o1 pm e1 => ?_)
  have hbl : bs.length ≤ 100000 := by rw [pm.length_eq]; exact hlen
  have hvl : vs.length ≤ 100000 := by rw [e1.length]; exact hbl
  refine wpAny_bind (wpAny_newList ?_ (by rw [sizeLine_eq]; omega))
  have hoL : (s1.heap.push (seqObj "list" vs.toArray 0)).get? s1.heap.objs.size = some (seqObj "list" vs.toArray 0) := Heap.get?_push_size _ rfl
  have rd : EachIs (fun (v : Value) (b : β) => ∃ as, Reads (s1.heap.push (seqObj "list" vs.toArray 0)) v (enc b) as ∧ s1.heap.objs.size ∉ as) vs bs :=
    e1.mono fun v b h => ⟨[], PyProof.Rows.Reads.keeps (fun c u e => Heap.get?_push_of_some _ (k1 c u e)) h.2, fun hm => (by cases hm)⟩
  have mem0 : ∀ d ∈ bs.map enc, d ∈ bs0.map enc := fun d hd => (pm.map _).mem_iff.mp hd
  refine wpAny_bind (wpAny_holding (list_sort_data (s := { s1 with heap := s1.heap.push (seqObj "list" vs.toArray 0) }) (R := fun v b => RelV (tv b) v) (enc := enc) hoL (e1.mono fun _ _ h => h.1) rd (fun d hd d2 hd2 => hal d (mem0 d hd) d2 (mem0 d2 hd2))
    (hso.imp (fun z d hd => z d (mem0 d hd)) fun z d hd => z d (mem0 d hd)) (by rw [sizeLine_eq]; omega) (fun b hb => by have := hdp b (pm.mem_iff.mp hb); simp only [Around.in1_units]; omega) fun out hol eo => ?_))
  obtain ⟨c, hc⟩ := sortedHeap_at (vs := vs) (out := out.toArray) hoL
  refine wpAny_pure ⟨_, rfl, hQ s1 { s1 with heap := sortedHeap (s1.heap.push (seqObj "list" vs.toArray 0)) s1.heap.objs.size vs out.toArray } s1.heap.objs.size out c bs k1 (fun b u q => ?_) g1 o1 g1 o1 (Nat.le_refl _) hc pm eo⟩
  have hlt := Heap.lt_size q
  show (sortedHeap (s1.heap.push (seqObj "list" vs.toArray 0)) s1.heap.objs.size vs out.toArray).get? b = some u
  rw [sortedHeap_old (Nat.ne_of_lt hlt) (by rw [size_push']; exact Nat.lt_succ_of_lt hlt)]
  exact Heap.get?_push_of_some _ q
end
/-! ### the rules -/
def SetNO (w : World) (a : Addr) (L : List (Addr × NK)) : HO := .ext fun h => ∃ es ep t, SR0 w h a L es ep t
theorem setNO_new {P : Program} {w : World} {H : Hp} {h : Heap} {a : Addr} {L : List (Addr × NK)} {es : Array (Int × Value)} {ep : Nat} {t : SetTable} (R : SR0 w h a L es ep t) : ObjOk P w H h a (SetNO w a L) := by
  have ⟨o, ho, _⟩ := R.ob
  refine ⟨⟨es, ep, t, R⟩, ⟨o, ho⟩, fun h1 h2 p k => ?_⟩
  obtain ⟨es2, ep2, t2, R2⟩ := p
  obtain ⟨o2, ho2, r2⟩ := R2.ob
  exact ⟨es2, ep2, t2, ⟨o2, k o2 ho2, r2⟩, R2.rows, R2.tab, R2.led⟩
section
variable {X : Cx} {pins : List (Addr × Obj)} {σ : L2.St} {H : Hp} {s : Shared}
theorem setNO_get (I : Inv X pins σ H s) {a : Addr} {L : List (Addr × NK)} (ha : H a = some (SetNO X.w a L)) : ∃ es ep t, SR0 X.w s.heap a L es ep t := (I.hok a _ ha).1
/-- set(xs), xs a list or a tuple of keys -/
def rSetN (K : PySem.W.Frag) (w : World) : List V → Hp → VK → Prop := fun xs H Q => ∃ (l : Addr) (ks : List (Addr × NK)), xs = [V.ref l] ∧ (SqL K H l (ks.map fun p => V.ref p.1) ∨ SqT K H l (ks.map fun p => V.ref p.1)) ∧ (∀ p ∈ ks, Kd K H p) ∧ ks.length < 4800 ∧
  ∀ a L, H a = none → Come ks ks.length L → Q (.ref a) (upd H a (SetNO w a L))
theorem cr_setN (hc : X.calm = true) (hu : X.A.units + 64 < cLine) : CallR X (.type "set") (rSetN X.K X.w) := by
  intro pins s σ H xs us Q I r h
  obtain ⟨l, ks, rfl, hl, hk, hf, q⟩ := h
  rw [Vals.ref1 r]
  have hn : H s.heap.objs.size = none := I.hok.fresh (Nat.le_refl _)
  have fin : ∀ (h' : Heap) (tk : Nat) (L : List (Addr × NK)) (es : Array (Int × Value)) (ep : Nat) (t : SetTable), SR X.prog X.w h' s.heap.objs.size L es ep t → Come ks ks.length L → (∀ b o, s.heap.get? b = some o → h'.get? b = some o) → EP X pins σ Q (.ref s.heap.objs.size) { s with heap := h', toks := tk } := fun h' tk L es ep t R g k =>
    ⟨.ref s.heap.objs.size, upd H s.heap.objs.size (SetNO X.w s.heap.objs.size L), I.laid (t' := tk) k (Nat.le_refl _) (setNO_new R.toSR0), rfl, q _ L hn g⟩
  rcases hl with hl | hl
  · obtain ⟨its, rv, pl, hz⟩ := I.list hl
    exact call_set_list (P := X.prog) (w := X.w) ks (I.ok.hd hc) pl.isList (by simpa using refs_eq rv) (fun p hp => (hk p hp).isN I) hf (by omega) fin
  · obtain ⟨its, rv, pl, hz⟩ := I.tuple hl
    exact call_set_tuple (P := X.prog) (w := X.w) ks (I.ok.hd hc) pl (by simpa using refs_eq rv) (fun p hp => (hk p hp).isN I) hf (by omega) fin
/-- len(s) -/
def rLenN (w : World) : List V → Hp → VK → Prop := fun xs H Q => ∃ (a : Addr) (L : List (Addr × NK)), xs = [V.ref a] ∧ H a = some (SetNO w a L) ∧ Q (.int L.length) H
theorem cr_lenN : CallR X (.builtin "len") (rLenN X.w) := by
  intro pins s σ H xs us Q I r h
  obtain ⟨a, L, rfl, ha, q⟩ := h
  rw [Vals.ref1 r]
  obtain ⟨es, ep, t, R⟩ := setNO_get I ha
  obtain ⟨o, ho, hex, hd⟩ := R.ob
  have h1 := R.tab.lt
  have h2 := msk_le R.tab.msk
  refine call_len_set ho hex hd R.fits (by rw [R.size]; omega) ⟨.int L.length, H, I.tok _, ⟨_, by rw [R.size]⟩, q⟩
open PySem.W in
/-- sorted(s) -/
def rSortN (K : PySem.W.Frag) (w : World) : List V → Hp → VK → Prop := fun xs H Q => ∃ (a : Addr) (L : List (Addr × NK)), xs = [V.ref a] ∧ H a = some (SetNO w a L) ∧ (∀ p ∈ L, Kd K H p) ∧ L.length < 4096 ∧ AllAlike (L.map fun p => p.2.data) ∧ Sortable (L.map fun p => p.2.data) ∧
  ∀ (p : Addr) (L0 : List (Addr × NK)), H p = none → L0.Perm L → Q (.ref p) (upd H p (.lst ((L0.mergeSort (dataLe false fun p => p.2.data)).map fun q => V.ref q.1)))
open PySem.W in
theorem sort_end {β : Type} {enc : β → PyData} {tv : β → V} {bs0 : List β} (I : Inv X pins σ H s) {Q : VK} (hl : bs0.length ≤ 100000) (q : ∀ (p : Addr) (L0 : List β), H p = none → L0.Perm bs0 → Q (.ref p) (upd H p (.lst ((L0.mergeSort (dataLe false enc)).map tv))))
    (s1 s2 : Shared) (p : Addr) (out : List Value) (c : Nat) (bs : List β) (k1 : ∀ b o, s.heap.get? b = some o → s1.heap.get? b = some o) (k2 : ∀ b o, s1.heap.get? b = some o → s2.heap.get? b = some o) (g1 : s1.gens = s.gens) (o1 : s1.os = s.os) (g2 : s2.gens = s.gens) (o2 : s2.os = s.os) (hp : s1.heap.objs.size ≤ p)
    (ho : s2.heap.get? p = some (seqObj "list" out.toArray c)) (pm : bs.Perm bs0) (e : EachIs (fun v b => RelV (tv b) v) out (bs.mergeSort (dataLe false enc))) : EP X pins σ Q (.ref p) s2 := by
  have I1 : Inv X pins σ H s1 := I.call' (ch := []) o1 (Un.kept k1) (I.hok.kept k1) (by rw [g1]; exact I.bare) (fun _ z => nomatch z)
  have hn : H p = none := I1.hok.fresh hp
  have hlen : ((bs.mergeSort (dataLe false enc)).map tv).length ≤ sizeLine := by rw [List.length_map, List.length_mergeSort, pm.length_eq, sizeLine_eq]; omega
  have J : Inv X pins σ (upd H p (.lst ((bs.mergeSort (dataLe false enc)).map tv))) s2 :=
    I1.call' (ch := []) (o2.trans o1.symm) (Un.laid k2 hp hn) (I1.hok.laid k2 hp ⟨hlen, out, c, each_vals e, ho⟩) (by rw [g2]; exact I.bare) (fun _ z => nomatch z)
  exact ⟨.ref p, _, J, rfl, q p bs hn pm⟩
theorem cr_sortN (hc : X.calm = true) (hu : X.A.units + 64 < cLine) : CallR X (.builtin "sorted") (rSortN X.K X.w) := by
  intro pins s σ H vs us Q I r h
  obtain ⟨a, L, rfl, ha, hk, hf, hal, hso, q⟩ := h
  rw [Vals.ref1 r]
  obtain ⟨es, ep, t, R⟩ := setNO_get I ha
  obtain ⟨o, ho, hex, hd⟩ := R.ob
  have hsz := R.size
  refine sorted_src (bs0 := L) (enc := fun p => p.2.data) (tv := fun p => V.ref p.1) (fun Q2 E2 hQ2 => ?_) hal hso (by omega) (fun p hp => by rw [depth_data]; exact (hk p hp).2) (by omega) (sort_end I (by omega) q)
  refine collect_set (A := X.A.in1) (I.ok.hd hc) ⟨o, ho, hex.1, hd⟩ R.fits (by unfold scanBound; omega) R.tab.ris R.led fun s1 vs k1 _ g1 o1 pm => ?_
  have hes : es.toList.map (·.2) = L.map fun q => Value.ref q.1 := by
    rw [R.rows, rws, List.map_map]
    rfl
  rw [hes] at pm
  obtain ⟨L0, pL, rfl⟩ := perm_map pm
  refine hQ2 s1 _ L0 k1 g1 o1 pL ?_
  have key : ∀ L1 : List (Addr × NK), (∀ p ∈ L1, p ∈ L) → PySem.W.EachIs (fun (v : Value) (p : Addr × NK) => RelV (V.ref p.1) v ∧ Reads s.heap v p.2.data []) (L1.map fun q => Value.ref q.1) L1 := by
    intro L1
    induction L1 with
    | nil => exact fun _ => .nil
    | cons p L1 ih => exact fun hs => .cons ⟨rfl, rd_val I p.2 _ _ (hk p (hs p List.mem_cons_self)).1 rfl⟩ (ih fun q hq => hs q (List.mem_cons_of_mem _ hq))
  exact key L0 fun p hp => pL.mem_iff.mp hp
/-! ### sets of ints -/
/-- set(xs) -/
def rSetI (K : PySem.W.Frag) (w : World) : List V → Hp → VK → Prop := fun xs H Q => ∃ (l : Addr) (ns : List Int), xs = [V.ref l] ∧ SqL K H l (ns.map V.int) ∧ ns.length < 4000 ∧
  ∀ a n, H a = none → n ≤ ns.length → Q (.ref a) (upd H a (SetO w a (fun j => decide (j ∈ ns)) n))
theorem cr_setI (hc : X.calm = true) : CallR X (.type "set") (rSetI X.K X.w) := by
  intro pins s σ H xs us Q I r h
  obtain ⟨l, ns, rfl, hl, hf, q⟩ := h
  rw [Vals.ref1 r]
  have hn : H s.heap.objs.size = none := I.hok.fresh (Nat.le_refl _)
  obtain ⟨its, rv, pl, hz⟩ := I.list hl
  exact call_set_ints (P := X.prog) (w := X.w) ns (I.ok.hd hc) pl.isList (by simpa using rv.ints) (by unfold scanBound; omega) fun h' tk c R hc2 k =>
    ⟨.ref s.heap.objs.size, upd H s.heap.objs.size (SetO X.w s.heap.objs.size (fun j => decide (j ∈ ns)) c), I.laid (t' := tk) k (Nat.le_refl _) (setO_new R), rfl, q _ c hn hc2⟩
def rSortI2 (w : World) : List V → Hp → VK → Prop := fun vs H Q => ∃ (a : Addr) (S : Int → Bool) (n : Nat), vs = [V.ref a] ∧ H a = some (SetO w a S n) ∧ n < 4096 ∧
  ∀ (ns : List Int) (p : Addr), H p = none → ns.Pairwise (· < ·) → (∀ k, k ∈ ns ↔ S k = true) → Q (.ref p) (upd H p (.lst (ns.map V.int)))
open PySem.W in
theorem ints_up (L : List Int) (nd : L.Nodup) : (L.mergeSort (dataLe false PyData.int)).Pairwise (· < ·) := by
  have e : dataLe false PyData.int = fun a b : Int => decide (a ≤ b) := dataLe_int (fun b : Int => b)
  have p : (L.mergeSort (dataLe false PyData.int)).Perm L := List.mergeSort_perm _ _
  have s1 : (L.mergeSort (dataLe false PyData.int)).Pairwise (fun a b => (decide (a ≤ b)) = true) := by
    rw [e]
    first
      | exact List.sorted_mergeSort (fun a b c h1 h2 => by simp at *; omega) (fun a b => by simp; omega) L
      | exact List.pairwise_mergeSort (fun a b c h1 h2 => by simp at *; omega) (fun a b => by simp; omega) L
  exact lt_of_le_nodup _ (s1.imp fun h => of_decide_eq_true h) (p.nodup_iff.mpr nd)
open PySem.W in
theorem alike_int (L : List Int) : AllAlike (L.map PyData.int) := by
  intro d hd d2 hd2
  obtain ⟨x, _, rfl⟩ := List.mem_map.mp hd
  obtain ⟨y, _, rfl⟩ := List.mem_map.mp hd2
  rfl
open PySem.W in
theorem sortable_int (L : List Int) : Sortable (L.map PyData.int) := .inr fun d hd => by
  obtain ⟨x, _, rfl⟩ := List.mem_map.mp hd
  exact ⟨fun z => (by cases z), fun xs z => (by cases z)⟩
theorem depth_int (x : Int) : (PyData.int x).depth ≤ 8 := by rw [PyData.depth]; omega
theorem each_ints {h : Heap} : ∀ {vs : List Value} {ns : List Int}, IntsAre vs ns → PySem.W.EachIs (fun (v : Value) (n : Int) => RelV (V.int n) v ∧ Reads h v (.int n) []) vs ns
  | _, _, .nil => .nil
  | _, _, .cons n t r => .cons ⟨⟨t, rfl⟩, .int n t⟩ (each_ints r)
theorem cr_sortI2 (hc : X.calm = true) (hu : X.A.units + 64 < cLine) : CallR X (.builtin "sorted") (rSortI2 X.w) := by
  intro pins s σ H vs us Q I r h
  obtain ⟨a, S, n, rfl, ha, hf, q⟩ := h
  rw [Vals.ref1 r]
  obtain ⟨o, es, ep, t, ho, hex, hd, g, nd, hm, hb, hft, hn, hr, hl⟩ := setO_get I ha
  have hml : (es.toList.map keyOf).length = n := by rw [List.length_map, Array.length_toList, hn]
  refine sorted_src (bs0 := es.toList.map keyOf) (enc := PyData.int) (tv := V.int) (fun Q2 E2 hQ2 => ?_) (alike_int _) (sortable_int _) (by omega) (fun x _ => depth_int x) (by omega) (sort_end I (by omega) fun p L0 hp pm => q _ p hp ?_ fun k => ?_)
  · refine collect_set (A := X.A.in1) (I.ok.hd hc) ⟨o, ho, hex.1, hd⟩ hft hb hr hl fun s1 vs k1 _ g1 o1 pm => ?_
    have hI : IntsAre vs (vs.map Builtin.Re.reRawOf) := ints_of vs fun v hv => by
      obtain ⟨e, he, rfl⟩ := List.mem_map.mp (pm.mem_iff.mp hv)
      obtain ⟨k, tk, h1, _⟩ := g e he
      exact ⟨k, tk, h1⟩
    have pk : (vs.map Builtin.Re.reRawOf).Perm (es.toList.map keyOf) := by
      have z := pm.map Builtin.Re.reRawOf
      rw [List.map_map] at z
      exact z
    exact hQ2 s1 vs _ k1 g1 o1 pk (each_ints hI)
  · exact ints_up L0 (pm.nodup_iff.mpr nd)
  · rw [(List.mergeSort_perm L0 _).mem_iff, pm.mem_iff, hm k]
end
end N7
namespace N7
open PySem PySem.Spec PyProof.Rows L2
/-! ### dicts whose keys are nested tuples, each value True -/
def xsN (L : List (Addr × NK)) : List (NK × Addr × Value) := L.map fun p => (p.2, p.1, Value.bool true)
def addN (L : List (Addr × NK)) (p : Addr × NK) : List (Addr × NK) := if p.2 ∈ L.map (·.2) then L else L ++ [p]
def addAll (L ks : List (Addr × NK)) : List (Addr × NK) := ks.foldl addN L
theorem xsN_keys (L : List (Addr × NK)) : (xsN L).map (·.1) = L.map (·.2) := by rw [xsN, List.map_map]; rfl
theorem at_xsN (L : List (Addr × NK)) (k : NK) : (atKey (xsN L) k).isSome = decide (k ∈ L.map (·.2)) := by
  induction L with
  | nil => rfl
  | cons p L ih =>
    by_cases h : p.2 = k
    · simp [xsN, atKey, List.find?_cons, h]
    · have e : atKey (xsN (p :: L)) k = atKey (xsN L) k := by simp [xsN, atKey, List.find?_cons, h]
      rw [e, ih]
      have e2 : ¬ k = p.2 := fun z => h z.symm
      simp [e2]
theorem put_same (L : List (Addr × NK)) (k : NK) : (xsN L).map (putAt k (Value.bool true)) = xsN L := by
  rw [xsN, List.map_map]
  refine List.map_congr_left fun p _ => ?_
  show putAt k (Value.bool true) (p.2, p.1, Value.bool true) = _
  unfold putAt
  split <;> rfl
theorem stored_one (L : List (Addr × NK)) (p : Addr × NK) : storedH (xsN L) p.2 p.1 (Value.bool true) = xsN (addN L p) := by
  unfold storedH addN
  rw [at_xsN]
  by_cases h : p.2 ∈ L.map (·.2)
  · rw [if_pos (by simpa using h), if_pos h, put_same]
  · rw [if_neg (by simpa using h), if_neg h, xsN, xsN, List.map_append]
    rfl
theorem stored_all : ∀ (ks L : List (Addr × NK)), storedAllH (xsN L) (xsN ks) = xsN (addAll L ks)
  | [], _ => rfl
  | p :: ks, L => by
    show storedAllH (storedH (xsN L) p.2 p.1 (Value.bool true)) (xsN ks) = xsN (addAll (addN L p) ks)
    rw [stored_one, stored_all ks]
theorem addN_mem {L : List (Addr × NK)} {p q : Addr × NK} (h : q ∈ addN L p) : q ∈ L ∨ q = p := by
  unfold addN at h
  split at h
  · exact .inl h
  · rcases List.mem_append.mp h with h | h
    · exact .inl h
    · exact .inr (List.mem_singleton.mp h)
theorem addN_old {L : List (Addr × NK)} {p q : Addr × NK} (h : q ∈ L) : q ∈ addN L p := by
  unfold addN
  split
  · exact h
  · exact List.mem_append_left _ h
theorem addN_key (L : List (Addr × NK)) (p : Addr × NK) : p.2 ∈ (addN L p).map (·.2) := by
  unfold addN
  split
  · assumption
  · simp
theorem addN_nd {L : List (Addr × NK)} {p : Addr × NK} (h : (L.map (·.2)).Nodup) : ((addN L p).map (·.2)).Nodup := by
  unfold addN
  split
  · exact h
  · rename_i hn
    rw [List.map_append, List.nodup_append]
    refine ⟨h, by simp, fun x hx y hy e => hn ?_⟩
    simp at hy
    rw [← hy, ← e]
    exact hx
theorem addAll_mem : ∀ {ks L : List (Addr × NK)} {q : Addr × NK}, q ∈ addAll L ks → q ∈ L ∨ q ∈ ks
  | [], _, _, h => .inl h
  | p :: ks, L, q, h => by
    rcases addAll_mem (ks := ks) (L := addN L p) h with h | h
    · rcases addN_mem h with h | h
      · exact .inl h
      · exact .inr (by rw [h]; exact List.mem_cons_self)
    · exact .inr (List.mem_cons_of_mem _ h)
theorem addAll_old : ∀ {ks L : List (Addr × NK)} {q : Addr × NK}, q ∈ L → q ∈ addAll L ks
  | [], _, _, h => h
  | p :: ks, L, q, h => addAll_old (ks := ks) (L := addN L p) (addN_old h)
theorem addAll_key : ∀ {ks L : List (Addr × NK)} {q : Addr × NK}, q ∈ ks → q.2 ∈ (addAll L ks).map (·.2)
  | p :: ks, L, q, h => by
    rcases List.mem_cons.mp h with h | h
    · have z := addN_key L p
      obtain ⟨r, hr, e⟩ := List.mem_map.mp z
      rw [h]
      exact List.mem_map.mpr ⟨r, addAll_old (ks := ks) (L := addN L p) hr, e⟩
    · exact addAll_key (ks := ks) (L := addN L p) h
theorem addAll_nd : ∀ {ks L : List (Addr × NK)}, (L.map (·.2)).Nodup → ((addAll L ks).map (·.2)).Nodup
  | [], _, h => h
  | p :: ks, L, h => addAll_nd (ks := ks) (L := addN L p) (addN_nd h)
theorem addAll_iff {ks L : List (Addr × NK)} {k : NK} : k ∈ (addAll L ks).map (·.2) ↔ k ∈ L.map (·.2) ∨ k ∈ ks.map (·.2) := by
  constructor
  · intro h
    obtain ⟨q, hq, rfl⟩ := List.mem_map.mp h
    rcases addAll_mem hq with h | h
    · exact .inl (List.mem_map.mpr ⟨q, h, rfl⟩)
    · exact .inr (List.mem_map.mpr ⟨q, h, rfl⟩)
  · rintro (h | h)
    · obtain ⟨q, hq, rfl⟩ := List.mem_map.mp h
      exact List.mem_map.mpr ⟨q, addAll_old hq, rfl⟩
    · obtain ⟨q, hq, rfl⟩ := List.mem_map.mp h
      exact addAll_key hq
theorem addN_le (L : List (Addr × NK)) (p : Addr × NK) : L.length ≤ (addN L p).length ∧ (addN L p).length ≤ L.length + 1 := by
  unfold addN
  split
  · omega
  · rw [List.length_append]; simp
theorem addAll_le : ∀ (ks L : List (Addr × NK)), L.length ≤ (addAll L ks).length ∧ (addAll L ks).length ≤ L.length + ks.length
  | [], L => ⟨Nat.le_refl _, Nat.le_refl _⟩
  | p :: ks, L => by
    have h1 := addN_le L p
    have h2 := addAll_le ks (addN L p)
    have e : addAll L (p :: ks) = addAll (addN L p) ks := rfl
    rw [e, List.length_cons]
    omega
theorem addAll_more : ∀ {ks L : List (Addr × NK)}, (∃ p ∈ ks, p.2 ∉ L.map (·.2)) → L.length < (addAll L ks).length
  | p :: ks, L, ⟨q, hq, hn⟩ => by
    have e : addAll L (p :: ks) = addAll (addN L p) ks := rfl
    rw [e]
    have h2 := (addAll_le ks (addN L p)).1
    by_cases h : p.2 ∈ L.map (·.2)
    · have e2 : addN L p = L := by unfold addN; rw [if_pos h]
      rw [e2]
      refine addAll_more ⟨q, ?_, hn⟩
      rcases List.mem_cons.mp hq with z | z
      · rw [z] at hn; exact absurd h hn
      · exact z
    · have e2 : addN L p = L ++ [p] := by unfold addN; rw [if_neg h]
      rw [e2] at h2 ⊢
      simp at h2
      omega
/-! ### over the layer -/
def ND (w : World) (h : Heap) (d : Addr) (L : List (Addr × NK)) : Prop := ∃ o es ep, h.get? d = some o ∧ o.ExactDict ∧ o.data = .dict es ep ∧ es.toList = L.map (fun p => (⟨p.2.hash w, .ref p.1, .bool true⟩ : DictEntry)) ∧ (L.map (·.2)).Nodup
def NDO (w : World) (d : Addr) (L : List (Addr × NK)) : HO := .ext fun h => (d == sysModules) = false ∧ ND w h d L
theorem nd_new {P : Program} {w : World} {H : Hp} {h : Heap} {d : Addr} {L : List (Addr × NK)} (hd : (d == sysModules) = false) (R : ND w h d L) : ObjOk P w H h d (NDO w d L) := by
  have ⟨o, es, ep, ho, r⟩ := R
  refine ⟨⟨hd, R⟩, ⟨o, ho⟩, fun h1 h2 p k => ?_⟩
  obtain ⟨z, o2, es2, ep2, ho2, r2⟩ := p
  exact ⟨z, o2, es2, ep2, k o2 ho2, r2⟩
theorem nd_of {P : Program} {w : World} {h : Heap} {d : Addr} {L : List (Addr × NK)} (D : h.DictOfH (nestedKind P w) d (xsN L)) : ND w h d L := by
  obtain ⟨o, es, ep, ho, hx, hd, he, _, hn⟩ := D
  refine ⟨o, es, ep, ho, hx, hd, ?_, by rw [← xsN_keys]; exact hn⟩
  rw [he, xsN, List.map_map]
  rfl
theorem nd_full {P : Program} {w : World} {h : Heap} {d : Addr} {L : List (Addr × NK)} (R : ND w h d L) (hk : ∀ p ∈ L, IsN P w h p.2 p.1) : h.DictOfH (nestedKind P w) d (xsN L) := by
  obtain ⟨o, es, ep, ho, hx, hd, he, hn⟩ := R
  refine ⟨o, es, ep, ho, hx, hd, ?_, fun x hm => ?_, by rw [xsN_keys]; exact hn⟩
  · rw [he, xsN, List.map_map]
    rfl
  · obtain ⟨p, hp, rfl⟩ := List.mem_map.mp hm
    exact hk p hp
section
variable {X : Cx} {pins : List (Addr × Obj)} {σ : L2.St} {H : Hp} {s : Shared}
theorem nd_get (I : Inv X pins σ H s) {d : Addr} {L : List (Addr × NK)} (e : H d = some (NDO X.w d L)) : (d == sysModules) = false ∧ ND X.w s.heap d L := (I.hok d _ e).1
theorem nd_get2 (I : Inv X pins σ H s) {d : Addr} {L : List (Addr × NK)} (e : H d = some (NDO X.w d L)) (hk : ∀ p ∈ L, Kd X.K H p) : (d == sysModules) = false ∧ s.heap.DictOfH (nestedKind X.prog X.w) d (xsN L) :=
  ⟨(nd_get I e).1, nd_full (nd_get I e).2 fun p hp => (hk p hp).isN I⟩
/-- {} -/
def tDN (w : World) : TE := fun _ H Q => ∀ p, H p = none → Q (.ref p) (upd H p (NDO w p []))
theorem big_not (I : Inv X pins σ H s) : (s.heap.objs.size == sysModules) = false := (dk_empty (P := X.prog) (w := X.w) (H := H) s.heap I.big).2.1
theorem pe_dn {pos : Pos} : PE X (.Dict [] [] pos) (tDN X.w) := ⟨fun pins s σ H Q I h =>
  wpAny_Dict_empty ⟨.ref s.heap.objs.size, _, I.laid (a := s.heap.objs.size) (o := NDO X.w s.heap.objs.size []) (t' := s.toks) (fun _ _ q => Heap.get?_push_of_some _ q) (Nat.le_refl _)
    (nd_new (big_not I) (nd_of (P := X.prog) (L := []) (Heap.DictOfH.new s.heap))), rfl, h _ (I.hok.fresh (Nat.le_refl _))⟩⟩
/-- the pairs (k, True) of a list -/
structure PrsN (K : PySem.W.Frag) (H : Hp) (a : Addr) (ads : List Addr) (ks : List (Addr × NK)) : Prop where
  at_ : SqL K H a (ads.map V.ref)
  len : ads.length = ks.length
  pair : ∀ (j : Nat) (t : Addr) (p : Addr × NK), ads[j]? = some t → ks[j]? = some p → SqT K H t [.ref p.1, .bl true]
  key : ∀ p ∈ ks, Kd K H p
  few : ks.length ≤ 100000
theorem refs_only : ∀ {ads : List Addr} {us : List Value}, Vals (ads.map V.ref) us → us = ads.map Value.ref
  | [], _, .nil => rfl
  | _ :: _, _, .cons r t => by
    cases r
    rw [List.map_cons, ← refs_only t]
def psN (ks : List (Addr × NK)) : List (Value × Value) := ks.map fun p => (Value.ref p.1, Value.bool true)
theorem PrsN.ok (I : Inv X pins σ H s) {a : Addr} {ads : List Addr} {ks : List (Addr × NK)} (R : PrsN X.K H a ads ks) : PlainSeq "list" s.heap a (ads.map Value.ref).toArray ∧ PairItems s.heap (ads.map Value.ref).toArray (fun j => ads.getD j 0) (psN ks) := by
  obtain ⟨its, rv, pl, hz⟩ := I.list R.at_
  have e := refs_only rv
  subst e
  obtain ⟨o, n, ho, hc, hd, hdat⟩ := pl
  refine ⟨⟨o, n, ho, hc, hd, hdat⟩, by simp [psN, R.len], fun j k v hj => ?_⟩
  rw [psN, List.getElem?_map, Option.map_eq_some_iff] at hj
  obtain ⟨p, hp, e⟩ := hj
  injection e with e1 e2
  subst e1 e2
  have hl : j < ads.length := by rw [R.len]; exact (List.getElem?_eq_some_iff.mp hp).1
  have ha : ads[j]? = some ads[j] := List.getElem?_eq_getElem hl
  have e3 : ads.getD j 0 = ads[j] := by rw [List.getD_eq_getElem?_getD, ha]; rfl
  refine ⟨by simp [ha, e3], .inl ?_⟩
  show s.heap.IsTuple (ads.getD j 0) _
  rw [e3]
  obtain ⟨its2, rv2, pl2, _⟩ := I.tuple (R.pair j _ p ha hp)
  cases rv2 with
  | cons r1 r2 =>
    cases r2 with
    | cons r3 r4 =>
      cases r4
      cases r1
      cases r3
      exact pl2
theorem prs_have (ks : List (Addr × NK)) {P : Program} {w : World} : PairsHaveH (nestedKind P w) (psN ks).length (PairRel (psN ks)) (xsN ks) := by
  refine ⟨by simp [xsN, psN], fun i key v hr => ?_⟩
  have hr2 : (psN ks)[i]? = some (key, v) := hr
  rw [psN, List.getElem?_map, Option.map_eq_some_iff] at hr2
  obtain ⟨p, hp, e⟩ := hr2
  injection e with e1 e2
  subst e1 e2
  exact ⟨p.2, p.1, by rw [xsN, List.getElem?_map, hp]; rfl, rfl⟩
/-- dict(pairs) -/
def rDictN (K : PySem.W.Frag) (w : World) : List V → Hp → VK → Prop := fun xs H Q => ∃ (a : Addr) (ads : List Addr) (ks : List (Addr × NK)), xs = [V.ref a] ∧ PrsN K H a ads ks ∧ ∀ d, H d = none → Q (.ref d) (upd H d (NDO w d (addAll [] ks)))
theorem cr_dictN (hc : X.calm = true) (hu : X.A.units + 64 < cLine) : CallR X (.type "dict") (rDictN X.K X.w) := by
  intro pins s σ H xs us Q I r h
  obtain ⟨a, ads, ks, rfl, R, q⟩ := h
  rw [Vals.ref1 r]
  have hn : H s.heap.objs.size = none := I.hok.fresh (Nat.le_refl _)
  refine call_dict_pairsH (knd := nestedKind X.prog X.w) (ps := xsN ks) (PairArg.list a _ _ (psN ks)) (I.ok.hd hc) (by show _ + 8 < cLine; simp only [Around.in1_units]; omega) (R.ok I) (prs_have ks) (fun h2 hk x hx => ?_) (by simp [psN]; have := R.few; rw [sizeLine_eq]; omega) fun h2 tk D k => ?_
  · obtain ⟨p, hp, rfl⟩ := List.mem_map.mp hx
    exact isN_keep ((R.key p hp).isN I) fun b o e => hk b o (Nat.ne_of_lt (Heap.lt_size e)) (by simp) e
  · have e : storedAllH [] (xsN ks) = xsN (addAll [] ks) := stored_all ks []
    rw [e] at D
    exact ⟨.ref s.heap.objs.size, _, I.laid (a := s.heap.objs.size) (o := NDO X.w s.heap.objs.size (addAll [] ks)) (t' := tk) (fun b o e => k b o (by simp) e) (Nat.le_refl _) (nd_new (big_not I) (nd_of D)), rfl, q _ hn⟩
/-- k in d, k not in d -/
def rInN (K : PySem.W.Frag) (w : World) (neg : Bool) : R2 := fun x y H Q => ∃ (p : Addr × NK) (d : Addr) (L : List (Addr × NK)), x = .ref p.1 ∧ y = .ref d ∧ Kd K H p ∧ H d = some (NDO w d L) ∧ (∀ q ∈ L, Kd K H q) ∧ Q (.bl (if neg = true then !decide (p.2 ∈ L.map (·.2)) else decide (p.2 ∈ L.map (·.2)))) H
theorem or_inN (hu : X.A.units + 64 < cLine) : OpR X (compareOp .In) (rInN X.K X.w false) := by
  intro pins s σ H x y v u Q I rx ry h
  obtain ⟨p, d, L, rfl, rfl, hp, hd, hL, q⟩ := h
  cases rx
  cases ry
  obtain ⟨z, D⟩ := nd_get2 I hd hL
  refine wpAny_in_heap (knd := nestedKind X.prog X.w) (by show _ + 8 < cLine; simp only [Around.in1_units]; omega) (hp.isN I) z D ⟨.bl _, H, I.tok _, rfl, ?_⟩
  rw [at_xsN]
  exact q
theorem or_ninN (hu : X.A.units + 64 < cLine) : OpR X (compareOp .NotIn) (rInN X.K X.w true) := by
  intro pins s σ H x y v u Q I rx ry h
  obtain ⟨p, d, L, rfl, rfl, hp, hd, hL, q⟩ := h
  cases rx
  cases ry
  obtain ⟨z, D⟩ := nd_get2 I hd hL
  show wpAny _ _ (do return Value.bool (!(← contains (.ref d) (.ref p.1)))) _ _ s
  refine wpAny_bind (wpAny_contains_heap (knd := nestedKind X.prog X.w) (by show _ + 8 < cLine; simp only [Around.in1_units]; omega) (hp.isN I) z D (wpAny_pure ⟨.bl _, H, I.tok _, rfl, ?_⟩))
  rw [at_xsN]
  exact q
/-- d.update(pairs) -/
def rUpdN (K : PySem.W.Frag) (w : World) : V → List V → Hp → VK → Prop := fun x xs H Q => ∃ (d a : Addr) (ads : List Addr) (L ks : List (Addr × NK)), x = .ref d ∧ xs = [V.ref a] ∧ H d = some (NDO w d L) ∧ (∀ q ∈ L, Kd K H q) ∧ L.length ≤ 100000 ∧ PrsN K H a ads ks ∧ Q .non (upd H d (NDO w d (addAll L ks)))
theorem mt_updN (hc : X.calm = true) (hu : X.A.units + 64 < cLine) : MtR X "dict.update" (rUpdN X.K X.w) := by
  intro pins s σ H x xs v us Q I rx rv h
  obtain ⟨d, a, ads, L, ks, rfl, rfl, hd, hL, hl, R, q⟩ := h
  cases rx
  obtain ⟨u, rfl, ru⟩ := vals1 rv
  cases ru
  obtain ⟨z, D⟩ := nd_get2 I hd hL
  obtain ⟨od, esd, epd, hod, hxd, hdd, _⟩ := id D
  obtain ⟨ok1, ok2⟩ := R.ok I
  have hne : ∀ b o, s.heap.get? b = some o → (o.cls = .type "tuple" ∨ o.cls = .type "list") → d ≠ b := fun b o e c z2 => by
    rw [z2, e] at hod
    cases hod
    have c2 := hxd.1
    rcases c with c | c <;> rw [c] at c2 <;> exact absurd c2 (by decide)
  refine call_update_pairsH (knd := nestedKind X.prog X.w) (acc := xsN L) (ps := xsN ks) (PairArg.list a _ _ (psN ks)) (I.ok.hd hc) (by show _ + 8 < cLine; simp only [Around.in1_units]; omega) ⟨ok1, ok2⟩ (fun hm => ?_) (prs_have ks) (fun h2 hk x hx => ?_) D ?_ fun h2 tk D2 k => ?_
  · rcases List.mem_cons.mp hm with e | hm
    · obtain ⟨o, n, ho, hcl, _⟩ := ok1
      exact hne a o ho (.inr hcl) e
    · obtain ⟨j, hj, e⟩ := List.mem_map.mp hm
      obtain ⟨⟨k1, v1⟩, e2⟩ : ∃ p, (psN ks)[j]? = some p := ⟨_, List.getElem?_eq_getElem (List.mem_range.mp hj)⟩
      obtain ⟨o, ho, hcl⟩ := (ok2.2 j k1 v1 e2).2.there
      exact hne _ o ho hcl e.symm
  · have one : ∀ p : Addr × NK, Kd X.K H p → IsN X.prog X.w h2 p.2 p.1 := fun p hp => nestedKind_stays.stays (fun b o vs n e hv => hk b o (fun z2 => by
      rw [z2, hod] at e
      cases e
      rw [hdd] at hv
      cases hv) (by simp) e) (hp.isN I)
    rcases List.mem_append.mp hx with hx | hx
    · obtain ⟨p, hp, rfl⟩ := List.mem_map.mp hx
      exact one p (hL p hp)
    · obtain ⟨p, hp, rfl⟩ := List.mem_map.mp hx
      exact one p (R.key p hp)
  · simp [xsN, psN]
    have := R.few
    rw [sizeLine_eq]
    omega
  · rw [stored_all ks L] at D2
    have he : ∃ u, h2.get? d = some u := by
      obtain ⟨o2, _, _, e2, _⟩ := id D2
      exact ⟨o2, e2⟩
    exact ⟨.non, _, I.write (x := d) (e := d) (o := NDO X.w d (addAll L ks)) (t' := tk) (by rw [hd]; trivial) (.inl rfl) (fun b u hb e => k b u hb (by simp) e) he (nd_new z (nd_of D2)), rfl, q⟩
def tUpdN (K : PySem.W.Frag) (w : World) (to : TE) (t : TA) : TE := fun σ H Q => to σ H fun x H1 => (∃ d L, x = V.ref d ∧ H1 d = some (NDO w d L)) ∧ t σ H1 fun xs H2 => rUpdN K w x xs H2 Q
theorem pe_updN {o e : Expr} {es : List Expr} {to : TE} {t : TA} {apos cpos : Pos} (hc : X.calm = true) (hu : X.A.units + 64 < cLine) (ho : PE X o to) (ha : PA X (e :: es) t)
    (hbase : attributeBase o "update" X.env (eval o X.env) = eval o X.env := by rfl)
    (hfew : ((backTo cpos (starEach (e :: es) X.env)).all (fun x => !x.1) && (backToKw cpos (keywordEach [] X.env)).all (fun x => x.1.isSome)
      && decide ((e :: es).length + ([] : List Keyword).length + (if ([] : List Keyword).isEmpty then 0 else 1) < 30)) = true := by rfl)
    (hline : (apos.endLine == cpos.line) = true := by rfl) (hs : starEach (e :: es) X.env = (false, eval e X.env) :: starEach es X.env := by rfl) (hplain : (backTo cpos (starEach es X.env)).any (·.1) = false := by rfl) :
    PE X (.Call (.Attribute o "update" apos) (e :: es) [] cpos) (tUpdN X.K X.w to t) := by
  refine ⟨fun pins s σ H Q I h => ?_⟩
  refine wpAny_Call_method_late hbase hfew hline rfl (thn (ho.run pins s σ H _ I h) fun v s1 ⟨x, H1, I1, r1, ty, q1⟩ => ?_)
  obtain ⟨d, L, rfl, hd⟩ := ty
  obtain ⟨z, od, esd, epd, hod, hxd, _⟩ := nd_get I1 hd
  cases r1
  refine ⟨"dict", "dict.update", F.plainAttrs_dict, F.slot_dict_update, F.type_dict_update, ⟨od, hod, hxd.1⟩, fun b eb => (by cases eb; exact ⟨od, hod, hxd.2.1⟩), ?_⟩
  have hA := ha.run cpos pins s1 σ H1 _ I1 q1
  rw [hs] at hA ⊢
  refine Calls.callWith_builtin (by show (false || (backTo cpos (starEach es X.env)).any (·.1)) = false; rw [hplain] <;> rfl) (Calls.evalArgs_plain ?_)
  exact thn hA fun us s2 ⟨vs, H2, I2, r2, q2⟩ => mt_updN hc hu pins s2 σ H2 (.ref d) vs (.ref d) us Q I2 rfl r2 q2
/-- len(d) -/
def rLenND (w : World) : List V → Hp → VK → Prop := fun xs H Q => ∃ (d : Addr) (L : List (Addr × NK)), xs = [V.ref d] ∧ H d = some (NDO w d L) ∧ L.length ≤ 100000 ∧ Q (.int L.length) H
theorem cr_lenND : CallR X (.builtin "len") (rLenND X.w) := by
  intro pins s σ H xs us Q I r h
  obtain ⟨d, L, rfl, hd, hl, q⟩ := h
  rw [Vals.ref1 r]
  obtain ⟨z, o, es, ep, ho, hx, hdat, he, _⟩ := nd_get I hd
  have hsz : es.size = L.length := by simpa using congrArg List.length he
  have hR : s.heap.DictRaw d es ep := ⟨o, ho, hx, hdat⟩
  refine PyProof.Rows.call_len_slot (n := L.length) hR.typeIs F.slot_dict_len (fun Q2 hq => call_len_raw z hR (by rw [hsz]; exact hq)) (by omega) (by omega) ⟨.int L.length, H, I.tok _, ⟨_, rfl⟩, q⟩
open PySem.W in
/-- sorted(d) -/
def rSortND (K : PySem.W.Frag) (w : World) : List V → Hp → VK → Prop := fun xs H Q => ∃ (d : Addr) (L : List (Addr × NK)), xs = [V.ref d] ∧ H d = some (NDO w d L) ∧ (∀ p ∈ L, Kd K H p) ∧ L.length ≤ 100000 ∧ AllAlike (L.map fun p => p.2.data) ∧ Sortable (L.map fun p => p.2.data) ∧
  ∀ (p : Addr) (L0 : List (Addr × NK)), H p = none → L0.Perm L → Q (.ref p) (upd H p (.lst ((L0.mergeSort (dataLe false fun p => p.2.data)).map fun q => V.ref q.1)))
theorem cr_sortND (hc : X.calm = true) (hu : X.A.units + 64 < cLine) : CallR X (.builtin "sorted") (rSortND X.K X.w) := by
  intro pins s σ H vs us Q I r h
  obtain ⟨d, L, rfl, hd, hk, hl, hal, hso, q⟩ := h
  rw [Vals.ref1 r]
  obtain ⟨z, o, es, ep, ho, hx, hdat, he, _⟩ := nd_get I hd
  have hsz : es.size = L.length := by simpa using congrArg List.length he
  have hR : s.heap.DictRaw d es ep := ⟨o, ho, hx, hdat⟩
  refine sorted_src (bs0 := L) (enc := fun p => p.2.data) (tv := fun p => V.ref p.1) (fun Q2 E2 hQ2 => ?_) hal hso hl (fun p hp => by rw [depth_data]; exact (hk p hp).2) (by omega) (sort_end I hl q)
  refine PySem.W.kdu_collect (A := X.A.in1) (PySem.KdlSrc.rawDict (prog := X.prog) (w := X.w) (es := es) (ep := ep) z) (I.ok.hd hc) hR (by rw [hsz, sizeLine_eq]; omega) fun h2 tk acc k hacc => ?_
  have hal2 : acc.toList = L.map fun p => Value.ref p.1 := by
    refine List.ext_getElem? fun i => ?_
    rw [Array.getElem?_toList, List.getElem?_map]
    cases hi : acc[i]? with
    | none =>
      have : L.length ≤ i := by rw [← hsz, ← hacc.1]; exact Array.getElem?_eq_none_iff.mp hi
      rw [List.getElem?_eq_none this]
      rfl
    | some v =>
      obtain ⟨hlt, rfl⟩ := hacc.2 i v hi
      have hlt2 : i < L.length := by rw [← hsz]; exact hlt
      have e1 : es.toList[i]? = some es[i] := by rw [Array.getElem?_toList]; exact Array.getElem?_eq_getElem hlt
      rw [he, List.getElem?_map, List.getElem?_eq_getElem hlt2] at e1
      rw [List.getElem?_eq_getElem hlt2]
      show some es[i].key = some (Value.ref L[i].1)
      rw [← Option.some.inj e1]
  rw [hal2]
  have key : ∀ L1 : List (Addr × NK), (∀ p ∈ L1, p ∈ L) → PySem.W.EachIs (fun (v : Value) (p : Addr × NK) => RelV (V.ref p.1) v ∧ Reads s.heap v p.2.data []) (L1.map fun q => Value.ref q.1) L1 := by
    intro L1
    induction L1 with
    | nil => exact fun _ => .nil
    | cons p L1 ih => exact fun hs => .cons ⟨rfl, rd_val I p.2 _ _ (hk p (hs p List.mem_cons_self)).1 rfl⟩ (ih fun q hq => hs q (List.mem_cons_of_mem _ hq))
  exact hQ2 _ _ L k rfl rfl (List.Perm.refl _) (key L fun p hp => hp)

/-- sorted(d), d a dict with int keys -/
def rSortDK : List V → Hp → VK → Prop := fun xs H Q => ∃ (d : Addr) (kvs : List (Key × V)) (ns : List Int), xs = [V.ref d] ∧ H d = some (.dK kvs) ∧ kvs.map (·.1) = ns.map Sum.inl ∧ ns.Nodup ∧ ns.length ≤ 100000 ∧
  ∀ (ys : List Int) (p : Addr), H p = none → ys.Pairwise (· < ·) → (∀ k, k ∈ ys ↔ k ∈ ns) → Q (.ref p) (upd H p (.lst (ys.map V.int)))
theorem cr_sortDK (hc : X.calm = true) (hu : X.A.units + 64 < cLine) : CallR X (.builtin "sorted") rSortDK := by
  intro pins s σ H vs us Q I r h
  obtain ⟨d, kvs, ns, rfl, hd, hk, hnd, hl, q⟩ := h
  rw [Vals.ref1 r]
  obtain ⟨z, lo, vs, rel, dd⟩ := dk_of I.hok hd
  obtain ⟨ep, hat⟩ := dd.dictAt
  have hkeys : vs.map (·.1) = ns.map Sum.inl := rel.keys.symm.trans hk
  have hvl : vs.length = ns.length := by simpa using congrArg List.length hkeys
  refine sorted_src (bs0 := ns) (enc := PyData.int) (tv := V.int) (fun Q2 E2 hQ2 => ?_) (alike_int _) (sortable_int _) hl (fun x _ => depth_int x) (by omega) (sort_end I hl fun p L0 hp pm => q _ p hp (ints_up L0 (pm.nodup_iff.mpr hnd)) fun k => by rw [(List.mergeSort_perm L0 _).mem_iff, pm.mem_iff])
  refine PySem.W.kdu_collect (A := X.A.in1) (PySem.W.kdl_dict (knd := mixKind X.prog X.w) (kvs := vs) (ep := ep) lo) (I.ok.hd hc) hat (by rw [hvl, sizeLine_eq]; omega) fun h2 tk acc k hacc => ?_
  have hal : acc.toList.length = ns.length := by rw [Array.length_toList, hacc.1, hvl]
  have hS : IntsAre acc.toList ns := ints_each hal fun j v e => by
    obtain ⟨k1, x, e1, e2⟩ := hacc.2 j v (by rw [← Array.getElem?_toList]; exact e)
    have e3 : (vs.map (·.1))[j]? = some k1 := by rw [List.getElem?_map, e1]; rfl
    rw [hkeys, List.getElem?_map, Option.map_eq_some_iff] at e3
    obtain ⟨y, e4, rfl⟩ := e3
    rcases keyIs_shape (show keyIs (Sum.inl y) v = true from e2) with ⟨i, t, ek, ev⟩ | ⟨z2, t, ek, ev⟩
    · cases ek
      exact ⟨y, t, e4, ev⟩
    · cases ek
  exact hQ2 _ _ ns k rfl rfl (List.Perm.refl _) (each_ints hS)
end
end N7
namespace N7
open PySem PySem.Spec PyProof.Rows L2
section
variable {X : Cx} {pins : List (Addr × Obj)} {σ : L2.St} {H : Hp} {s : Shared}
/-! ### d.setdefault(k, x), the keys tuples -/
def tSetdT (td ty tx : TE) : TE := fun σ H Q => td σ H fun x H1 => ∃ a, x = .ref a ∧ IsD H1 a ∧ ty σ H1 fun y H2 => tx σ H2 fun z H3 => ∃ (kvs : List (List Key × V)) (k : List Key) (b : Addr), H3 a = some (.dT kvs) ∧ y = .ref b ∧ H3 b = some (.tup (k.map kV)) ∧ kvs.length < sizeLine ∧
  (∀ v, valV kvs k = some v → Q v H3) ∧ (valV kvs k = none → Q z (upd H3 a (.dT (putK kvs k z))))
theorem m2 {o e f : Expr} {m : Str} {apos cpos : Pos} (base : attributeBase o m X.env (eval o X.env) = eval o X.env := by rfl)
    (few : ((backTo cpos (starEach [e, f] X.env)).all (fun x => !x.1) && (backToKw cpos (keywordEach [] X.env)).all (fun x => x.1.isSome)
      && decide (([e, f] : List Expr).length + ([] : List Keyword).length + (if ([] : List Keyword).isEmpty then 0 else 1) < 30)) = true := by rfl)
    (line : (apos.endLine == cpos.line) = true := by rfl) (trees : backTo cpos (starEach [e, f] X.env) = [(false, eval e X.env), (false, eval f X.env)] := by rfl) : M2 X o m apos e f cpos := ⟨base, few, line, trees⟩
theorem d_setdT {A : Around} {E Q : Value → Shared → Prop} {a b : Addr} {k : List Key} {kvs : List (List Key × V)} {d : V} {r : Value} (hu : A.units + 1 < cLine) (I : Inv X pins σ H s) (e : H a = some (.dT kvs)) (eb : H b = some (.tup (k.map kV))) (rd : RelV d r) (hl : kvs.length < sizeLine)
    (h1 : ∀ v, valV kvs k = some v → ∀ (w' : Value) (s' : Shared), Inv X pins σ H s' → RelV v w' → Q w' s') (h2 : valV kvs k = none → ∀ (w' : Value) (s' : Shared), Inv X pins σ (upd H a (.dT (putK kvs k d))) s' → RelV d w' → Q w' s') :
    wpAny (model X.prog X.w) A (call (.builtin "dict.setdefault") [.ref a, .ref b, r]) Q E s := by
  obtain ⟨z, hd, xs, rel, dd⟩ := dt_of I.hok e
  have hz : xs.length ≤ sizeLine := by rw [← Paired.length rel]; exact z
  have rv := rel.val k
  refine call_setdefault_heap (knd := tupleKind (mixKind X.prog X.w)) (hsz := hz) (tupleKind_room_in1 hu) (key_of I.hok eb) hd dd (fun p hp => ?_) fun hn h2' dd2 hs => ?_
  · rw [hp] at rv
    cases ev : valV kvs k with
    | none => rw [ev] at rv; exact rv.elim
    | some v0 =>
      rw [ev] at rv
      exact h1 v0 ev _ _ (I.tok _) rv
  · rw [hn] at rv
    cases ev : valV kvs k with
    | some v0 => rw [ev] at rv; exact rv.elim
    | none =>
      have nab : b ≠ a := fun z2 => by rw [z2, e] at eb; cases eb
      have rel2 : KT (upd H a (.dT (putK kvs k d))) (putK kvs k d) (storedH xs k b r) := (rel.put k eb rd).keeps fun c ys hc => by
        rw [upd_ne (fun z2 => by rw [z2, e] at hc; cases hc)]
        exact hc
      have hl2 : (putK kvs k d).length ≤ sizeLine := by
        have := length_putK kvs k d
        omega
      obtain ⟨o, es, ep, ho, hx, hdat, he, _, hnd⟩ := id dd2
      exact h2 ev _ _ (I.write (x := a) (e := a) (o := .dT (putK kvs k d)) (by rw [e]; trivial) (.inl rfl) (fun c u hc q => (hs.2 c hc).trans q) ⟨o, ho⟩ ⟨hl2, hd, _, rel2, o, es, ep, ho, hx, hdat, he, hnd⟩) rd
theorem setdT {o e f : Expr} {td ty tx : TE} {apos cpos : Pos} (hu : X.A.units + 1 < cLine) (ho : PE X o td) (he : PE X e ty) (hf : PE X f tx) (m : M2 X o "setdefault" apos e f cpos) : PE X (.Call (.Attribute o "setdefault" apos) [e, f] [] cpos) (tSetdT td ty tx) := by
  refine ⟨fun pins s σ H Q I h => ?_⟩
  refine wpAny_Call_method m.base m.few m.line PySem.F.plainAttrs_dict PySem.F.slot_dict_setdefault PySem.F.type_dict_setdefault (thn (ho.run pins s σ H _ I h) fun u s1 ⟨x, H1, I1, rx, a, ex, d, q1⟩ => ?_)
  subst ex
  obtain rfl : u = Value.ref a := rx
  obtain ⟨t1, t2, _⟩ := isD_at I1 d
  refine ⟨t1, t2, ?_⟩
  rw [m.trees]
  refine Calls.callWith_builtin rfl (Calls.evalArgs_plain (Calls.spliced_cons (thn (he.run pins s1 σ H1 _ I1 q1) fun iv s2 ⟨y, H2, I2, ry, q2⟩ =>
    Calls.spliced_cons (thn (hf.run pins s2 σ H2 _ I2 q2) fun fv s3 ⟨z, H3, I3, rz, kvs, k, b, ea, ey, eb, hl, q3, q4⟩ => Calls.spliced_nil ?_))))
  subst ey
  cases ry
  exact d_setdT hu I3 ea eb rz hl (fun v hv w' s4 I4 rw' => ⟨v, _, I4, rw', q3 v hv⟩) fun hn w' s4 I4 rw' => ⟨z, _, I4, rw', q4 hn⟩
theorem dget2 {o e f : Expr} {td ty tx : TE} {apos cpos : Pos} (hu : X.A.units + 1 < cLine) (ho : PE X o td) (he : PE X e ty) (hf : PE X f tx) (m : M2 X o "get" apos e f cpos) : PE X (.Call (.Attribute o "get" apos) [e, f] [] cpos) (tDGet2 td ty tx) := pe_dget2 hu ho he hf m
/-! ### dict(pairs), the keys ints -/
structure PrsI (Sq : Hp → Addr → List V → Prop) (SqP : Hp → Addr → List V → Prop) (H : Hp) (a : Addr) (ads : List Addr) (kvs : List (Key × V)) : Prop where
  at_ : Sq H a (ads.map V.ref)
  len : ads.length = kvs.length
  pair : ∀ (j : Nat) (t : Addr) (p : Key × V), ads[j]? = some t → kvs[j]? = some p → SqP H t [kV p.1, p.2]
theorem paired_of {K : PySem.W.Frag} {H : Hp} : ∀ {ads : List Addr} {kvs : List (Key × V)}, ads.length = kvs.length → (∀ (j : Nat) (t : Addr) (p : Key × V), ads[j]? = some t → kvs[j]? = some p → SqT K H t [kV p.1, p.2]) → Paired (fun p kv => SqT K H p [kV kv.1, kv.2]) ads kvs
  | [], [], _, _ => .nil
  | a :: ads, p :: kvs, hl, h => .cons (h 0 a p rfl rfl) (paired_of (by simpa using hl) fun j t q h1 h2 => h (j + 1) t q (by simpa using h1) (by simpa using h2))
def rDictL (K : PySem.W.Frag) : List V → Hp → VK → Prop := fun xs H Q => ∃ (a : Addr) (ads : List Addr) (kvs : List (Key × V)), xs = [.ref a] ∧ PrsI (SqL K) (SqT K) H a ads kvs ∧ ∀ p, H p = none → Q (.ref p) (upd H p (.dK (mergeK [] kvs)))
theorem cr_dictL (hc : X.calm = true) : CallR X (.type "dict") (rDictL X.K) := by
  intro pins s σ H xs us Q I r h
  obtain ⟨a, ads, kvs, rfl, R, q⟩ := h
  exact call_dictP hc pins s σ H [.ref a] us Q I r ⟨a, ads, kvs, rfl, R.at_, paired_of R.len R.pair, q⟩
/-- a tuple whose object is known to have no dict -/
def FT (H : Hp) (a : Addr) (xs : List V) : Prop := ∃ o : Obj, o.dict = none ∧ H a = some (.frz o (.tup xs))
theorem FT.sq {K : PySem.W.Frag} {H : Hp} {a : Addr} {xs : List V} (h : FT H a xs) : SqT K H a xs := by
  obtain ⟨o, _, e⟩ := h
  exact .inl (.inr ⟨o, e⟩)
theorem pairs2 (I : Inv X pins σ H s) : ∀ {ads : List Addr} {kvs : List (Key × V)}, Paired (fun p kv => SqT X.K H p [kV kv.1, kv.2]) ads kvs →
    ∃ (prs : List (Key × Value)) (ps : List (Value × Value)), KV kvs prs ∧ prs.length = ads.length ∧ ps.length = ads.length ∧ ∀ (j : Nat) (u y : Value), ps[j]? = some (u, y) → ∃ (b : Addr) (k : Key), ads[j]? = some b ∧ prs[j]? = some (k, y) ∧ IsTup s.heap b #[u, y] ∧ keyIs k u = true
  | _, _, .nil => ⟨[], [], .nil, rfl, rfl, fun j u y e => by simp at e⟩
  | _, _, .cons (a := p) (b := kv) h t => by
    obtain ⟨prs, ps, r, l1, l2, hp⟩ := pairs2 I t
    obtain ⟨its, rv, ht, _⟩ := I.tuple h
    obtain ⟨u, y, ei, ru, ry⟩ := vals2 rv
    subst ei
    refine ⟨(kv.1, y) :: prs, (u, y) :: ps, .cons ⟨rfl, ry⟩ r, by simp [l1], by simp [l2], fun j u2 y2 e => ?_⟩
    cases j with
    | zero =>
      have e2 : (u, y) = (u2, y2) := Option.some.inj e
      injection e2 with e3 e4
      subst e3 e4
      exact ⟨p, kv.1, rfl, rfl, ht, kV_is (P := X.prog) (w := X.w) ru⟩
    | succ j =>
      obtain ⟨b, k, q1, q2, q3, q4⟩ := hp j u2 y2 (by simpa using e)
      exact ⟨b, k, by simpa using q1, by simpa using q2, q3, q4⟩
def rDictT (K : PySem.W.Frag) : List V → Hp → VK → Prop := fun xs H Q => ∃ (a : Addr) (ads : List Addr) (kvs : List (Key × V)), xs = [.ref a] ∧ PrsI FT (SqT K) H a ads kvs ∧ ∀ p, H p = none → Q (.ref p) (upd H p (.dK (mergeK [] kvs)))
theorem cr_dictT (hc : X.calm = true) : CallR X (.type "dict") (rDictT X.K) := by
  intro pins s σ H xs us Q I r h
  obtain ⟨a, ads, kvs, rfl, R, q⟩ := h
  rw [Vals.ref1 r]
  obtain ⟨o, hd, ho⟩ := R.at_
  obtain ⟨e, hz, its, rv, o2, ho2, hcl, n, hdat⟩ := I.hok a _ ho
  have ei := refs_only rv
  subst ei
  rw [e] at ho2
  cases ho2
  rw [List.length_map] at hz
  obtain ⟨prs, ps, rel, l1, l2, hpr⟩ := pairs2 I (paired_of R.len R.pair)
  have hok : PlainSeq "tuple" s.heap a (ads.map Value.ref).toArray ∧ PairItems s.heap (ads.map Value.ref).toArray (fun j => ads.getD j 0) ps := by
    refine ⟨⟨o, n, e, hcl, hd, hdat⟩, by simp [l2], fun j k v hj => ?_⟩
    obtain ⟨b, k2, q1, q2, q3, q4⟩ := hpr j k v hj
    have e3 : ads.getD j 0 = b := by rw [List.getD_eq_getElem?_getD, q1]; rfl
    refine ⟨by simp [q1, e3], .inl ?_⟩
    show s.heap.IsTuple (ads.getD j 0) _
    rw [e3]
    exact q3
  have hm : (s.heap.objs.size == sysModules) = false := beq_eq_false_iff_ne.mpr (Nat.ne_of_gt I.big)
  refine PySem.call_dict_pairs (knd := mixKind X.prog X.w) (kvs := prs) (PairArg.tuple a _ _ ps) (I.ok.hd hc) hok ⟨by rw [l1, l2], fun i key v hr => ?_⟩ (by rw [l2]; exact hz) fun h2 tk D k => ?_
  · obtain ⟨b, k2, q1, q2, q3, q4⟩ := hpr i key v hr
    exact ⟨k2, q2, q4⟩
  · have hlen : (mergeK [] kvs).length ≤ sizeLine := by
      refine Nat.le_trans (length_mergeK kvs []) ?_
      rw [List.length_nil, Nat.zero_add, rel.length, l1]
      exact hz
    exact ⟨.ref s.heap.objs.size, upd H s.heap.objs.size (.dK (mergeK [] kvs)), I.laid (t' := tk) (fun b o e => k b o (by simp) e) (Nat.le_refl _) (show ObjOk X.prog X.w _ _ _ (.dK (mergeK [] kvs)) from ⟨hlen, hm, merged [] prs, KV.merge rel .nil, D⟩), rfl, q _ (I.hok.fresh (Nat.le_refl _))⟩
/-- tuple(list), its object known -/
def rTupF (K : PySem.W.Frag) : List V → Hp → VK → Prop := fun xs H Q => ∃ p ys, xs = [.ref p] ∧ SqL K H p ys ∧ ∀ (l : Addr) (o : Obj), H l = none → o.dict = none → Q (.ref l) (upd H l (.frz o (.tup ys)))
theorem cr_tupF : CallR X (.type "tuple") (rTupF X.K) := by
  intro pins s σ H xs us Q I r h
  obtain ⟨p, ys, rfl, hq, q⟩ := h
  rw [Vals.ref1 r]
  obtain ⟨its, r2, pl, hz⟩ := I.list hq
  have hlen := r2.length
  refine call_tuple_list pl.isList (fun h2 kp => ?_) (by simp only [List.size_toArray]; omega)
  have I1 : Inv X pins σ H { s with heap := h2 } := I.kept (t' := s.toks) kp
  have e : (h2.push { cls := .type "tuple", data := .seq its.toArray }).get? h2.objs.size = some { cls := .type "tuple", data := .seq its.toArray } := Heap.get?_push_size _ rfl
  have I2 : Inv X pins σ (upd H h2.objs.size (.frz { cls := .type "tuple", data := .seq its.toArray } (.tup ys))) { s with heap := h2.push { cls := .type "tuple", data := .seq its.toArray } } :=
    I1.laid (t' := s.toks) (fun b o e => Heap.get?_push_of_some _ e) (Nat.le_refl _) ⟨e, hz, its, r2, _, e, rfl, _, rfl⟩
  exact ⟨.ref h2.objs.size, _, I2, rfl, q _ _ (I1.hok.fresh (Nat.le_refl _)) rfl⟩
/-- a tuple written, its object known -/
def tTupF (t : TA) : TE := fun σ H Q => t σ H fun xs H1 => xs.length ≤ sizeLine ∧ ∀ (p : Addr) (o : Obj), H1 p = none → o.dict = none → Q (.ref p) (upd H1 p (.frz o (.tup xs)))
theorem pe_tupF {es : List Expr} {x1 : Nat} {pos : Pos} {t : TA} (h : PA X es t) : PE X (.Tuple es x1 pos) (tTupF t) := by
  refine ⟨fun pins s σ H Q I hq => ?_⟩
  refine wpAny_Tuple_spliced (thn (h.run pos pins s σ H _ I hq) fun us s1 ⟨xs, H1, I1, r, z, q⟩ => ⟨by rw [← r.length]; exact z, ?_⟩)
  have hf : H1 s1.heap.objs.size = none := I1.hok.fresh (Nat.le_refl _)
  have e : (s1.heap.push { cls := .type "tuple", data := .seq us.toArray }).get? s1.heap.objs.size = some { cls := .type "tuple", data := .seq us.toArray } := Heap.get?_push_size _ rfl
  exact ⟨.ref s1.heap.objs.size, upd H1 s1.heap.objs.size (.frz _ (.tup xs)), I1.laid (t' := s1.toks) (fun b u e => Heap.get?_push_of_some _ e) (Nat.le_refl _) ⟨e, z, us, r, _, e, rfl, _, rfl⟩, rfl, q _ _ hf rfl⟩
end
/-! ### the rules with the written part and the world named -/
section
variable {X : Cx} (K : PySem.W.Frag) (w : World)
theorem dn {pos : Pos} (hw : X.w = w := by rfl) : PE X (.Dict [] [] pos) (tDN w) := hw ▸ pe_dn
theorem sortI (hc : X.calm = true) (hu : X.A.units + 64 < cLine) (hw : X.w = w := by rfl) : CallR X (.builtin "sorted") (rSortI2 w) := hw ▸ cr_sortI2 hc hu
theorem sortN (hc : X.calm = true) (hu : X.A.units + 64 < cLine) (hK : X.K = K := by rfl) (hw : X.w = w := by rfl) : CallR X (.builtin "sorted") (rSortN K w) := hK ▸ hw ▸ cr_sortN hc hu
theorem sortND (hc : X.calm = true) (hu : X.A.units + 64 < cLine) (hK : X.K = K := by rfl) (hw : X.w = w := by rfl) : CallR X (.builtin "sorted") (rSortND K w) := hK ▸ hw ▸ cr_sortND hc hu
theorem setI (hc : X.calm = true) (hK : X.K = K := by rfl) (hw : X.w = w := by rfl) : CallR X (.type "set") (rSetI K w) := hK ▸ hw ▸ cr_setI hc
theorem setN (hc : X.calm = true) (hu : X.A.units + 64 < cLine) (hK : X.K = K := by rfl) (hw : X.w = w := by rfl) : CallR X (.type "set") (rSetN K w) := hK ▸ hw ▸ cr_setN hc hu
theorem dictN (hc : X.calm = true) (hu : X.A.units + 64 < cLine) (hK : X.K = K := by rfl) (hw : X.w = w := by rfl) : CallR X (.type "dict") (rDictN K w) := hK ▸ hw ▸ cr_dictN hc hu
theorem dictL (hc : X.calm = true) (hK : X.K = K := by rfl) : CallR X (.type "dict") (rDictL K) := hK ▸ cr_dictL hc
theorem dictT (hc : X.calm = true) (hK : X.K = K := by rfl) : CallR X (.type "dict") (rDictT K) := hK ▸ cr_dictT hc
theorem tupF (hK : X.K = K := by rfl) : CallR X (.type "tuple") (rTupF K) := hK ▸ cr_tupF
theorem lenN (hw : X.w = w := by rfl) : CallR X (.builtin "len") (rLenN w) := hw ▸ cr_lenN
theorem lenND (hw : X.w = w := by rfl) : CallR X (.builtin "len") (rLenND w) := hw ▸ cr_lenND
theorem inN (hu : X.A.units + 64 < cLine) (hK : X.K = K := by rfl) (hw : X.w = w := by rfl) : OpR X (compareOp .In) (rInN K w false) := hK ▸ hw ▸ or_inN hu
theorem ninN (hu : X.A.units + 64 < cLine) (hK : X.K = K := by rfl) (hw : X.w = w := by rfl) : OpR X (compareOp .NotIn) (rInN K w true) := hK ▸ hw ▸ or_ninN hu
theorem updN {o e : Expr} {es : List Expr} {to : TE} {t : TA} {apos cpos : Pos} (hc : X.calm = true) (hu : X.A.units + 64 < cLine) (ho : PE X o to) (ha : PA X (e :: es) t)
    (hbase : attributeBase o "update" X.env (eval o X.env) = eval o X.env := by rfl)
    (hfew : ((backTo cpos (starEach (e :: es) X.env)).all (fun x => !x.1) && (backToKw cpos (keywordEach [] X.env)).all (fun x => x.1.isSome)
      && decide ((e :: es).length + ([] : List Keyword).length + (if ([] : List Keyword).isEmpty then 0 else 1) < 30)) = true := by rfl)
    (hline : (apos.endLine == cpos.line) = true := by rfl) (hs : starEach (e :: es) X.env = (false, eval e X.env) :: starEach es X.env := by rfl) (hplain : (backTo cpos (starEach es X.env)).any (·.1) = false := by rfl)
    (hK : X.K = K := by rfl) (hw : X.w = w := by rfl) : PE X (.Call (.Attribute o "update" apos) (e :: es) [] cpos) (tUpdN K w to t) := hK ▸ hw ▸ pe_updN hc hu ho ha hbase hfew hline hs hplain
theorem repT (hK : X.K = K := by rfl) : OpR X (binaryOp .Mult) (rRepT K) := hK ▸ op_repT
end
end N7
namespace N7
open PySem PySem.Spec PyProof.Rows L2
section
variable {H : Hp} {Q : VK} {w : World} {a : Addr} {L : List (Addr × NK)}
theorem x_lenN (h : H a = some (SetNO w a L)) (k : Q (.int L.length) H) : rLenN w [.ref a] H Q := ⟨a, L, rfl, h, k⟩
end
end N7
namespace N7
open PySem PySem.Spec PyProof.Rows L2
section
variable {K : PySem.W.Frag} {H : Hp} {Q : VK} {p : Addr} {ys : List V}
theorem x_tupF (h : SqL K H p ys) (k : ∀ (l : Addr) (o : Obj), H l = none → o.dict = none → Q (.ref l) (upd H l (.frz o (.tup ys)))) : rTupF K [.ref p] H Q := ⟨p, ys, rfl, h, k⟩
theorem x_gtupF {t : TA} {σ : L2.St} (k : t σ H fun xs H1 => xs.length ≤ sizeLine ∧ ∀ (p : Addr) (o : Obj), H1 p = none → o.dict = none → Q (.ref p) (upd H1 p (.frz o (.tup xs)))) : tTupF t σ H Q := k
theorem x_dn {w : World} {σ : L2.St} (k : ∀ p, H p = none → Q (.ref p) (upd H p (NDO w p []))) : tDN w σ H Q := k
theorem hp_frz {a : Addr} {o : HO} {x : Addr} {u : HO} (hn : H a = none) (hx : H x = some u) : upd H a o x = some u := by rw [upd_ne (ne_of_none hx hn)]; exact hx
end
end N7
namespace N7
open PySem PySem.Spec PyProof.Rows L2
/-! ### xs.extend(a tuple) -/
theorem ext_tup (l : Addr) (items : Array Value) (n : Nat) (b : Addr) (items2 : Array Value) (n2 : Nat) (dd : Option Addr) (sl : Array (Option Value)) (h0 : ¬(!items.isEmpty && Builtin.List.listTooLong (items.size + items2.size)) = true) (h1 : items.size ≤ sizeLine) (h2 : items.size + items2.size ≤ sizeLine + 1) :
    Meets (Builtin.«list.extend» ⟨[.ref l, .ref b], []⟩) (fun _ R s => s.heap.get? l = some { cls := .type "list", dict := none, data := .seq items n, slots := #[] } ∧ s.heap.get? b = some { cls := .type "tuple", dict := dd, data := .seq items2 n2, slots := sl } ∧
      R (.ok (.ret Value.none)) { s with heap := s.heap.update l (Obj.mapSeq fun x => x ++ items2), toks := s.toks }) :=
  .of_wp fun prog w A R s h => by
    obtain ⟨hp, g, d, tk, os⟩ := s
    obtain ⟨hl, hb, h⟩ := h
    have f1 := AutoSeq1.idx_int
    have f2 := AutoSeq1.sub_tuple_tuple
    have f3 := AutoSeq1.sub_list_list
    have f4 := AutoSeq1.sub_tuple_list
    have f5 := AutoSeq1.sub_list_tuple
    have hz : (items ++ items2).size ≤ sizeLine + 1 := by rw [Array.size_append]; exact h2
    wp_walk using (wpAny_updateSeq hl rfl (hz := h1) (_hz' := hz)), AutoSeq1.wpAny_loadPart' hl, AutoSeq1.wpAny_loadPart' hb
    exact ⟨_, rfl, h⟩
section
variable {X : Cx}
def rExtT (K : PySem.W.Frag) : V → List V → Hp → VK → Prop := fun x vs H Q => ∃ l b xs zs, x = .ref l ∧ vs = [.ref b] ∧ H l = some (.lst xs) ∧ (SqT K H b zs ∨ H b = some (.lst zs)) ∧ xs.length + zs.length ≤ sizeLine ∧ Q .non (upd H l (.lst (xs ++ zs)))
theorem mt_extT : MtR X "list.extend" (rExtT X.K) := by
  intro pins s σ H x vs v us Q I rx rv h
  obtain ⟨l, b, xs, zs, rfl, rfl, hH, hB, hz, q⟩ := h
  rcases hB with hB | hB
  · cases rx
    obtain ⟨u, rfl, ru⟩ := vals1 rv
    cases ru
    obtain ⟨z, its, n, r, hl, e⟩ := I.lstM hH
    obtain ⟨its2, r2, ⟨⟨c2, d2, dat2, s2⟩, e2, hc2, n2, hd2⟩, _⟩ := I.tuple hB
    simp only at hc2 hd2
    subst hc2 hd2
    have hl2 : its2.length = zs.length := r2.length.symm
    have hsz : its.toArray.size + its2.toArray.size ≤ sizeLine := by rw [List.size_toArray, List.size_toArray]; omega
    have hlong : ¬ (!its.toArray.isEmpty && Builtin.List.listTooLong (its.toArray.size + its2.toArray.size)) = true := by
      rw [notLongL hsz, Bool.and_false]
      exact Bool.false_ne_true
    refine call_meets F.slot_list_extend ⟨_, e, rfl⟩ F.entry_list_extend (F.args_list_extend_2 _ _) (ext_tup l its.toArray n b its2.toArray n2 d2 s2 hlong (by rw [List.size_toArray]; omega) (by omega)) ⟨e, e2, ?_⟩
    refine ⟨.non, _, I.lset (its' := its ++ its2) hH e (by simp) (r.append r2) ?_, rfl, q⟩
    rw [List.length_append]
    omega
  · exact mt_extend pins s σ H _ _ v us Q I rx rv ⟨l, b, xs, zs, rfl, rfl, hH, hB, hz, q⟩
end
section
variable {X : Cx} (K : PySem.W.Frag)
theorem extT (hK : X.K = K := by rfl) : MtR X "list.extend" (rExtT K) := hK ▸ mt_extT
theorem catA (hK : X.K = K := by rfl) : OpR X (binaryOp .Add) (rCatA K) := hK ▸ op_catA
theorem slA (hK : X.K = K := by rfl) : SlR X (rSlA K) := hK ▸ sl_tupA
end
section
variable {K : PySem.W.Frag} {H : Hp} {Q : VK} {a b : Addr} {xs ys : List V}
/-- a slice that leaves something out -/
theorem x_slA {lo hi : Option Int} (h : SqT K H a xs) (n : ¬ (HT.sIx xs.length 0 lo = 0 ∧ HT.sIx xs.length xs.length hi = xs.length)) (k : ∀ p, H p = none → Q (.ref p) (upd H p (.tup (cutV xs lo hi)))) : rSlA K (.ref a) lo hi H Q := ⟨a, xs, rfl, h, fun z => absurd z n, fun _ => k⟩
theorem x_catA (h1 : SqT K H a xs) (h2 : SqT K H b ys) (hz : xs.length + ys.length ≤ 100000) (k : ∀ (p : Addr) (H' : Hp), SqT K H' p (xs ++ ys) → (∀ c o, H c = some o → H' c = some o) → Q (.ref p) H') : rCatA K (.ref a) (.ref b) H Q := by
  refine ⟨a, b, xs, ys, rfl, rfl, h1, h2, by rw [sizeLine_eq]; omega, fun e => ?_, fun _ e => ?_, fun _ _ p hp => k p _ (.inl (.inl upd_same)) fun c o e => ?_⟩
  · subst e
    exact k b H h2 fun _ _ e => e
  · subst e
    exact k a H (by rw [List.append_nil]; exact h1) fun _ _ e => e
  · rw [upd_ne (ne_of_none e hp)]
    exact e
end
/-- a made tuple of two, the first not empty -/
theorem x_catP {K : PySem.W.Frag} {H : Hp} {Q : VK} {a b : Addr} {xs ys : List V} (h1 : H a = some (.tup xs)) (n : xs ≠ []) (h2 : SqT K H b ys) (hz : xs.length + ys.length ≤ 100000) (k : ∀ (p : Addr) (H' : Hp), H' p = some (.tup (xs ++ ys)) → (∀ c o, H c = some o → H' c = some o) → Q (.ref p) H') : rCatA K (.ref a) (.ref b) H Q := by
  refine ⟨a, b, xs, ys, rfl, rfl, SqT.of h1, h2, by rw [sizeLine_eq]; omega, fun e => absurd e n, fun _ e => ?_, fun _ _ p hp => k p _ upd_same fun c o e => ?_⟩
  · subst e
    exact k a H (by rw [List.append_nil]; exact h1) fun _ _ e => e
  · rw [upd_ne (ne_of_none e hp)]
    exact e
/-- a block within a block -/
theorem look_rel {env : Env} : ∀ {names : List (Str × NameKind)} {x : Str} {k : NameKind}, names.lookup x = some k →
    (names.map fun (n, k) => if (k == NameKind.free && env.scope.kind == .function && env.kindOf n == some .cell) then (n, NameKind.cell) else (n, k)).lookup x = some k ∨
    (k = .free ∧ (names.map fun (n, k) => if (k == NameKind.free && env.scope.kind == .function && env.kindOf n == some .cell) then (n, NameKind.cell) else (n, k)).lookup x = some .cell)
  | [], _, _, h => by simp at h
  | (n, k0) :: names, x, k, h => by
    rw [List.lookup_cons] at h
    rw [List.map_cons]
    by_cases e : (x == n) = true
    · rw [e] at h
      simp only [Option.some.injEq] at h
      subst h
      by_cases c : (k0 == NameKind.free && env.scope.kind == .function && env.kindOf n == some .cell) = true
      · right
        simp only [c, if_true, List.lookup_cons, e]
        refine ⟨?_, trivial⟩
        cases k0 <;> first | rfl | exact absurd c (by simp)
      · left
        simp only [c, if_false, List.lookup_cons, e, Bool.false_eq_true]
    · have e2 : (x == n) = false := by cases z : x == n <;> simp_all
      rw [e2] at h
      have ih := look_rel (env := env) h
      by_cases c : (k0 == NameKind.free && env.scope.kind == .function && env.kindOf n == some .cell) = true
      · simp only [c, if_true, List.lookup_cons, e2]
        exact ih
      · simp only [c, if_false, List.lookup_cons, e2, Bool.false_eq_true]
        exact ih
theorem blkIn {X : Cx} {s : Shared} {H : Hp} {sc0 : Scope} {cl : List (Str × Addr)} {C : Addr} {env : Env} {fp : List Addr} {N : List Str} {scope : Scope} {own : List (Str × Nat)} (h : blkC N sc0 scope own = true) :
    BlkOk N (X.blk s H sc0 (compEnvC sc0 cl C env) fp).env.scope scope own := by
  obtain ⟨h1, h2, h3, h4, h5⟩ := blkOk_by h
  refine ⟨h1, h2, h3, fun y hy e => ?_, h5⟩
  show (relabel sc0 env).names.lookup y.1 = some .cell ∨ (relabel sc0 env).names.lookup y.1 = some .free
  rcases h4 y hy e with z | z
  · rcases look_rel (env := env) z with q | ⟨q, _⟩
    · exact .inl q
    · cases q
  · rcases look_rel (env := env) z with q | ⟨_, q⟩
    · exact .inr q
    · exact .inl q
theorem x_setdT {td ty tx : TE} {σ : L2.St} {H : Hp} {Q : VK} (k : td σ H fun x H1 => ∃ a, x = .ref a ∧ IsD H1 a ∧ ty σ H1 fun y H2 => tx σ H2 fun z H3 => ∃ (kvs : List (List Key × V)) (k : List Key) (b : Addr), H3 a = some (.dT kvs) ∧ y = .ref b ∧ H3 b = some (.tup (k.map kV)) ∧ kvs.length < sizeLine ∧
  (∀ v, valV kvs k = some v → Q v H3) ∧ (valV kvs k = none → Q z (upd H3 a (.dT (putK kvs k z))))) : tSetdT td ty tx σ H Q := k
theorem x_dnT {σ : L2.St} {H : Hp} {Q : VK} (k : ∀ p, H p = none → Q (.ref p) (upd H p (.dT []))) : tDNewT σ H Q := k
end N7
namespace N7
open PySem PySem.Spec PyProof.Rows L2
/-! ### zip of a list and a tuple: two feeds, each of its own kind -/
/-- what an iterator at it over the things at l does, its state told by J -/
structure Feed (prog : Program) (w : World) (J : Heap → Nat → Prop) (it l : Addr) (vs : Array Value) : Prop where
  there : ∀ {h k}, J h k → it < h.objs.size
  keep : ∀ {h h' : Heap} {k}, J h k → (∀ o, h.get? it = some o → h'.get? it = some o) → (∀ o, h.get? l = some o → h'.get? l = some o) → J h' k
  next : ∀ {A : Around} {E : Value → Shared → Prop} {s : Shared} {k : Nat} {v : Value} {Q : Value → Shared → Prop}, it ≠ l → J s.heap k → vs[k]? = some v → (∀ h', J h' (k + 1) → Heap.SameBut it s.heap h' → Q v { s with heap := h' }) → wpAny (model prog w) A (Builtin.SmallTypes.nextOf (.ref it)) Q E s
  stop : ∀ {A : Around} {E : Value → Shared → Prop} {s : Shared} {k : Nat} {Q : Value → Shared → Prop}, A.handled = none → J s.heap k → vs[k]? = none → (∀ h' e, Heap.ExtBut it s.heap h' → (∃ o, h'.get? e = some o ∧ o.cls = .type "StopIteration") → E (.ref e) { s with heap := h' }) → wpAny (model prog w) A (Builtin.SmallTypes.nextOf (.ref it)) Q E s
def JL (it l : Addr) (vs : Array Value) (h : Heap) (k : Nat) : Prop := h.IsListIter it l k ∧ h.IsList l vs
def JT (it l : Addr) (vs : Array Value) (h : Heap) (k : Nat) : Prop := h.IsTupleIter it l k ∧ h.IsTuple l vs
section
variable {prog : Program} {w : World} {it l : Addr} {vs : Array Value}
theorem feedL : Feed prog w (JL it l vs) it l vs where
  there := fun ⟨⟨_, e, _⟩, _⟩ => Heap.lt_size e
  keep := fun ⟨a, ⟨o, e, b⟩⟩ h1 h2 => ⟨a.at h1, ⟨o, h2 o e, b⟩⟩
  next := fun n ⟨a, b⟩ hv q => wpAny_nextOf_list_item a b hv fun h' a' sb => q h' ⟨a', b.extBut sb.extBut n.symm⟩ sb
  stop := fun hh ⟨a, b⟩ hv q => wpAny_nextOf_list_end hh a b hv q
theorem feedT : Feed prog w (JT it l vs) it l vs where
  there := fun ⟨⟨_, e, _⟩, _⟩ => Heap.lt_size e
  keep := fun ⟨a, ⟨o, e, b⟩⟩ h1 h2 => ⟨a.at h1, ⟨o, h2 o e, b⟩⟩
  next := fun n ⟨a, b⟩ hv q => RZ.nextOf_tuple_item a b hv fun h' a' sb => q h' ⟨a', b.extBut sb.extBut n.symm⟩ sb
  stop := fun hh ⟨a, b⟩ hv q => RZ.nextOf_tuple_end hh a b hv q
end
section
variable {prog : Program} {w : World} {A : Around} {E : Value → Shared → Prop} {s : Shared}
variable {z TI TO i1 i2 l1 l2 : Addr} {k1 k2 : Nat} {xs ys : Array Value} {J1 J2 : Heap → Nat → Prop} {u0 v0 : Value}
theorem zipG_item {x y : Value} {Q : Value → Shared → Prop} (F1 : Feed prog w J1 i1 l1 xs) (F2 : Feed prog w J2 i2 l2 ys) (D : ZipApart z TI TO i1 i2 l1 l2)
    (hz : IsZip s.heap z TI TO .none) (hTI : IsPair s.heap TI (.ref i1) (.ref i2)) (hTO : IsPair s.heap TO u0 v0) (g1 : J1 s.heap k1) (g2 : J2 s.heap k2) (hx : xs[k1]? = some x) (hy : ys[k2]? = some y)
    (q : ∀ h', IsZip h' z TI TO (rawInt s.heap.objs.size) → IsPair h' TO x y → J1 h' (k1 + 1) → J2 h' (k2 + 1) → IsPair h' s.heap.objs.size x y → (∀ c o, c ≠ z → c ≠ TO → c ≠ i1 → c ≠ i2 → s.heap.get? c = some o → h'.get? c = some o) → Q (.ref s.heap.objs.size) { s with heap := h' }) :
    wpAny (model prog w) A (Builtin.«zip.__next__» ⟨[.ref z], []⟩) (fun fin s' => ∃ v, fin = .done (.ret v) ∧ Q v s') E s := by
  have bump : ∀ {h h' : Heap} {c b : Addr} {o : Obj}, Heap.SameBut b h h' → c ≠ b → h.get? c = some o → h'.get? c = some o := fun sb n e => sb.extBut _ _ n e
  show wpAny _ _ (field (.ref z) 2 >>= _) _ _ _
  refine wpAny_bind (wpAny_field hz rfl (x := .bool false) rfl ?_)
  show wpAny _ _ (field (.ref z) 3 >>= _) _ _ _
  refine wpAny_bind (wpAny_field hz rfl (x := .ref TI) rfl (wpAny_bind (wpAny_seqItems hTI rfl ?_)))
  show wpAny _ _ (Builtin.SmallTypes.ownedTupleIsFree (.ref z) >>= _) _ _ _
  refine wpAny_bind ?_
  unfold Builtin.SmallTypes.ownedTupleIsFree
  refine wpAny_bind (wpAny_field hz rfl (x := .none) rfl (wpAny_pure ?_))
  simp only [if_true]
  refine wpAny_bind (wpAny_rule (wpAny_bind (wpAny_field hz rfl (x := .ref TO) rfl (wpAny_bind (wpAny_setField_rec hz (by simp) fun ha za sa => ?_)))))
  replace za : IsZip ha z TI TO .ellipsis := za
  refine wpAny_bind ?_
  simp only [List.zipIdx_cons, List.zipIdx_nil, List.forIn_cons, List.forIn_nil]
  -- the first of the two
  refine wpAny_bind (wpAny_bind (wpAny_onRaise ?_))
  show wpAny _ _ (Builtin.SmallTypes.nextOf (.ref i1) >>= _) _ _ _
  refine wpAny_bind (F1.next D.l1i1.symm (F1.keep g1 (fun o => bump sa D.i1z) fun o => bump sa D.l1z) hx fun hb g1b sb => wpAny_pure ?_)
  have tob : IsPair hb TO u0 v0 := bump sb D.TOi1 (bump sa D.TOz hTO)
  refine wpAny_bind (wpAny_seqItems tob rfl (wpAny_bind (wpAny_updateSeq_pair tob fun hc toc sc => ?_)))
  replace toc : IsPair hc TO x v0 := toc
  refine wpAny_bind (wpAny_letGo (wpAny_pure ?_))
  -- the second
  refine wpAny_bind (wpAny_bind (wpAny_onRaise ?_))
  show wpAny _ _ (Builtin.SmallTypes.nextOf (.ref i2) >>= _) _ _ _
  have g2c : J2 hc k2 := F2.keep g2 (fun o e => bump sc D.TOi2.symm (bump sb D.i12.symm (bump sa D.i2z e))) fun o e => bump sc D.l2TO (bump sb D.l2i1 (bump sa D.l2z e))
  refine wpAny_bind (F2.next D.l2i2.symm g2c hy fun hd g2d sd => wpAny_pure ?_)
  have tod : IsPair hd TO x v0 := bump sd D.TOi2 toc
  refine wpAny_bind (wpAny_seqItems tod rfl (wpAny_bind (wpAny_updateSeq_pair tod fun he toe se => ?_)))
  replace toe : IsPair he TO x y := toe
  refine wpAny_bind (wpAny_letGo (wpAny_pure (wpAny_pure ?_)))
  -- the pair that is handed out
  refine wpAny_bind (wpAny_seqItems toe rfl (wpAny_bind (wpAny_newTuple ?_)))
  have size : he.objs.size = s.heap.objs.size := by rw [se.1, sd.1, sc.1, sb.1, sa.1]
  have ze : IsZip he z TI TO .ellipsis := bump se D.TOz.symm (bump sd D.i2z.symm (bump sc D.TOz.symm (bump sb D.i1z.symm za)))
  have kept : ∀ c o, c ≠ z → c ≠ TO → c ≠ i1 → c ≠ i2 → s.heap.get? c = some o → he.get? c = some o := fun c o n1 n2 n3 n4 e => bump se n2 (bump sd n4 (bump sc n2 (bump sb n3 (bump sa n1 e))))
  have g1e : J1 he (k1 + 1) := F1.keep g1b (fun o e => bump se D.TOi1.symm (bump sd D.i12 (bump sc D.TOi1.symm e))) fun o e => bump se D.l1TO (bump sd D.l1i2 (bump sc D.l1TO e))
  have g2e : J2 he (k2 + 1) := F2.keep g2d (fun o e => bump se D.TOi2.symm e) fun o e => bump se D.l2TO e
  have zlt : z < he.objs.size := Heap.lt_size ze
  show wpAny _ _ (Builtin.SmallTypes.ownedTupleHandOut (.ref z) (.ref he.objs.size) >>= _) _ _ _
  refine wpAny_bind ?_
  unfold Builtin.SmallTypes.ownedTupleHandOut
  have zf : IsZip (he.push { cls := .type "tuple", data := .seq #[x, y] }) z TI TO .ellipsis := Heap.get?_push_of_some _ ze
  refine wpAny_bind (wpAny_setField_rec zf (by simp) fun hg zg sg => ?_)
  replace zg : IsZip hg z TI TO (rawInt he.objs.size) := zg
  refine wpAny_setField_rec zg (by simp) fun hh zh sh => wpAny_pure ⟨_, rfl, ?_⟩
  replace zh : IsZip hh z TI TO (rawInt he.objs.size) := zh
  have up : ∀ c o, c ≠ z → he.get? c = some o → hh.get? c = some o := fun c o n e => bump sh n (bump sg n (Heap.get?_push_of_some _ e))
  have new : IsPair hh he.objs.size x y := bump sh (Nat.ne_of_gt zlt) (bump sg (Nat.ne_of_gt zlt) (Heap.get?_push_size _ rfl))
  show Q (.ref he.objs.size) _
  rw [size] at zh new ⊢
  exact q hh zh (up _ _ D.TOz toe) (F1.keep g1e (fun o => up _ o D.i1z) fun o => up _ o D.l1z) (F2.keep g2e (fun o => up _ o D.i2z) fun o => up _ o D.l2z) new fun c o n1 n2 n3 n4 e => up c o n1 (kept c o n1 n2 n3 n4 e)
theorem zipG_end {Q : Fin → Shared → Prop} (F1 : Feed prog w J1 i1 l1 xs) (F2 : Feed prog w J2 i2 l2 ys) (hn : A.handled = none) (D : ZipApart z TI TO i1 i2 l1 l2)
    (hz : IsZip s.heap z TI TO .none) (hTI : IsPair s.heap TI (.ref i1) (.ref i2)) (hTO : IsPair s.heap TO u0 v0) (g1 : J1 s.heap k1) (g2 : J2 s.heap k2) (over : xs[k1]? = none ∨ ys[k2]? = none)
    (q : ∀ h' e, (∀ c o, c ≠ z → c ≠ TO → c ≠ i1 → c ≠ i2 → s.heap.get? c = some o → h'.get? c = some o) → (∃ o, h'.get? e = some o ∧ o.cls = .type "StopIteration") → E (.ref e) { s with heap := h' }) :
    wpAny (model prog w) A (Builtin.«zip.__next__» ⟨[.ref z], []⟩) Q E s := by
  have bump : ∀ {h h' : Heap} {c b : Addr} {o : Obj}, Heap.SameBut b h h' → c ≠ b → h.get? c = some o → h'.get? c = some o := fun sb n e => sb.extBut _ _ n e
  have apart : ∀ {h : Heap} {e : Addr} {o : Obj}, IsZip h z TI TO .ellipsis → h.get? e = some o → o.cls = .type "StopIteration" → e ≠ z := fun hz he hc n => by subst n; rw [hz] at he; cases he; simp at hc
  show wpAny _ _ (field (.ref z) 2 >>= _) _ _ _
  refine wpAny_bind (wpAny_field hz rfl (x := .bool false) rfl ?_)
  show wpAny _ _ (field (.ref z) 3 >>= _) _ _ _
  refine wpAny_bind (wpAny_field hz rfl (x := .ref TI) rfl (wpAny_bind (wpAny_seqItems hTI rfl ?_)))
  show wpAny _ _ (Builtin.SmallTypes.ownedTupleIsFree (.ref z) >>= _) _ _ _
  refine wpAny_bind ?_
  unfold Builtin.SmallTypes.ownedTupleIsFree
  refine wpAny_bind (wpAny_field hz rfl (x := .none) rfl (wpAny_pure ?_))
  simp only [if_true]
  refine wpAny_bind (wpAny_rule (wpAny_bind (wpAny_field hz rfl (x := .ref TO) rfl (wpAny_bind (wpAny_setField_rec hz (by simp) fun ha za sa => ?_)))))
  replace za : IsZip ha z TI TO .ellipsis := za
  refine wpAny_bind ?_
  simp only [List.zipIdx_cons, List.zipIdx_nil, List.forIn_cons, List.forIn_nil]
  have g1a : J1 ha k1 := F1.keep g1 (fun o => bump sa D.i1z) fun o => bump sa D.l1z
  refine wpAny_bind (wpAny_bind (wpAny_onRaise ?_))
  show wpAny _ _ (Builtin.SmallTypes.nextOf (.ref i1) >>= _) _ _ _
  cases hx : xs[k1]? with
  | none =>
    refine wpAny_bind (F1.stop hn g1a hx fun hb e xb ⟨oe, he, hc⟩ => ?_)
    have zb : IsZip hb z TI TO .ellipsis := xb _ _ D.i1z.symm za
    exact wpAny_setField_rec zb (by simp) fun hd _ sd => q hd e (fun c o n1 _ n3 _ t => bump sd n1 (xb _ _ n3 (bump sa n1 t))) ⟨oe, bump sd (apart zb he hc) he, hc⟩
  | some x =>
    have hy : ys[k2]? = none := by rcases over with t | t; rw [hx] at t; cases t; exact t
    refine wpAny_bind (F1.next D.l1i1.symm g1a hx fun hb _ sb => wpAny_pure ?_)
    have tob : IsPair hb TO u0 v0 := bump sb D.TOi1 (bump sa D.TOz hTO)
    refine wpAny_bind (wpAny_seqItems tob rfl (wpAny_bind (wpAny_updateSeq_pair tob fun hc _ sc => wpAny_bind (wpAny_letGo (wpAny_pure ?_)))))
    refine wpAny_bind (wpAny_bind (wpAny_onRaise ?_))
    show wpAny _ _ (Builtin.SmallTypes.nextOf (.ref i2) >>= _) _ _ _
    have g2c : J2 hc k2 := F2.keep g2 (fun o e => bump sc D.TOi2.symm (bump sb D.i12.symm (bump sa D.i2z e))) fun o e => bump sc D.l2TO (bump sb D.l2i1 (bump sa D.l2z e))
    refine wpAny_bind (F2.stop hn g2c hy fun hd e xd ⟨oe, he, hce⟩ => ?_)
    have zd : IsZip hd z TI TO .ellipsis := xd _ _ D.i2z.symm (bump sc D.TOz.symm (bump sb D.i1z.symm za))
    exact wpAny_setField_rec zd (by simp) fun hf _ sf => q hf e (fun c o n1 n2 n3 n4 t => bump sf n1 (xd _ _ n4 (bump sc n2 (bump sb n3 (bump sa n1 t))))) ⟨oe, bump sf (apart zd he hce) he, hce⟩
theorem nextG_item {x y : Value} {Q : Option Value → Shared → Prop} (F1 : Feed prog w J1 i1 l1 xs) (F2 : Feed prog w J2 i2 l2 ys) (D : ZipApart z TI TO i1 i2 l1 l2)
    (hz : IsZip s.heap z TI TO .none) (hTI : IsPair s.heap TI (.ref i1) (.ref i2)) (hTO : IsPair s.heap TO u0 v0) (g1 : J1 s.heap k1) (g2 : J2 s.heap k2) (hx : xs[k1]? = some x) (hy : ys[k2]? = some y)
    (q : ∀ h', IsZip h' z TI TO (rawInt s.heap.objs.size) → IsPair h' TO x y → J1 h' (k1 + 1) → J2 h' (k2 + 1) → IsPair h' s.heap.objs.size x y → (∀ c o, c ≠ z → c ≠ TO → c ≠ i1 → c ≠ i2 → s.heap.get? c = some o → h'.get? c = some o) → Q (some (.ref s.heap.objs.size)) { s with heap := h' }) :
    wpAny (model prog w) A (pyNext (.ref z)) Q E s := by
  have ty : s.TypeIs (.ref z) "zip" := ⟨_, hz, rfl⟩
  unfold pyNext
  exact wpAny_bind (wpAny_attempt (wpAny_callSpecial?_slot (name := Str.ofString "__next__") ty F.slot_zip_next (wpAny_call_entry F.slot_zip_next ty F.entry_zip_next
    (zipG_item F1 F2 D hz hTI hTO g1 g2 hx hy fun h' a b c e f g => wpAny_pure (q h' a b c e f g)) (F.args_zip_next_1 _))))
theorem nextG_end {Q : Option Value → Shared → Prop} (F1 : Feed prog w J1 i1 l1 xs) (F2 : Feed prog w J2 i2 l2 ys) (hn : A.handled = none) (D : ZipApart z TI TO i1 i2 l1 l2)
    (hz : IsZip s.heap z TI TO .none) (hTI : IsPair s.heap TI (.ref i1) (.ref i2)) (hTO : IsPair s.heap TO u0 v0) (g1 : J1 s.heap k1) (g2 : J2 s.heap k2) (over : xs[k1]? = none ∨ ys[k2]? = none)
    (q : ∀ h', (∀ c o, c ≠ z → c ≠ TO → c ≠ i1 → c ≠ i2 → s.heap.get? c = some o → h'.get? c = some o) → Q none { s with heap := h' }) : wpAny (model prog w) A (pyNext (.ref z)) Q E s := by
  have ty : s.TypeIs (.ref z) "zip" := ⟨_, hz, rfl⟩
  unfold pyNext
  refine wpAny_bind (wpAny_attempt (wpAny_callSpecial?_slot (name := Str.ofString "__next__") ty F.slot_zip_next (wpAny_call_entry F.slot_zip_next ty F.entry_zip_next
    (zipG_end F1 F2 hn D hz hTI hTO g1 g2 over fun h' e k ⟨o, ho, hc⟩ => ?_) (F.args_zip_next_1 _))))
  exact wpAny_bind (wpAny_isInstance (T := "StopIteration") (b := true) ⟨o, ho, hc⟩ isSubtype_stop (wpAny_pure (q _ k)))
end
end N7
namespace N7
open PySem PySem.Spec PyProof.Rows L2 RZ
/-! ### zip(a list, a tuple): made, turned, looped over -/
section
abbrev lit (l : Addr) : Obj := { cls := .type "list_iterator", data := .fields #[.ref l, .int 0 0] }
abbrev tit (l : Addr) : Obj := { cls := .type "tuple_iterator", data := .fields #[.ref l, .int 0 0] }
abbrev m2h (h : Heap) (l1 l2 : Addr) : Heap := (h.push (lit l1)).push (tit l2)
abbrev m3h (h : Heap) (l1 l2 : Addr) : Heap := (m2h h l1 l2).push { cls := .type "tuple", data := .seq #[.ref h.objs.size, .ref (h.push (lit l1)).objs.size] }
abbrev m4h (h : Heap) (l1 l2 : Addr) : Heap := (m3h h l1 l2).push { cls := .type "tuple", data := .seq #[.none, .none] }
abbrev m5h (h : Heap) (l1 l2 : Addr) : Heap := (m4h h l1 l2).push { cls := .type "zip", data := .fields #[.none, .bool false, .bool false, .ref (m2h h l1 l2).objs.size, .ref (m3h h l1 l2).objs.size] }
theorem meets_zipM (l1 l2 : Addr) (xs ys : Array Value) :
    Meets (Builtin.«zip.__new__» ⟨[.type "zip", .ref l1, .ref l2], []⟩) (fun _ R s => s.heap.IsList l1 xs ∧ s.heap.IsTuple l2 ys ∧ R (.ok (.ret (.ref (m4h s.heap l1 l2).objs.size))) { s with heap := m5h s.heap l1 l2 }) :=
  .of_wp fun prog w A R s h => by
    obtain ⟨hp, g, d, tk, os⟩ := s
    obtain ⟨a, b, h⟩ := h
    have hsub := sub_zip
    have ha : Heap.IsList (Shared.heap ⟨hp, g, d, tk, os⟩) l1 xs := a
    have hb : Heap.IsTuple (Shared.heap ⟨hp.push (lit l1), g, d, tk, os⟩) l2 ys := Heap.IsTuple.push b _
    wp_walk using wpAny_pyIter_list ha, wpAny_pyIter_tuple hb
    exact ⟨_, rfl, h⟩
variable {prog : Program} {w : World} {A : Around} {E : Value → Shared → Prop} {s : Shared}
theorem call_zipM {l1 l2 : Addr} {xs ys : Array Value} {Q : Value → Shared → Prop} (a : s.heap.IsList l1 xs) (b : s.heap.IsTuple l2 ys)
    (q : ∀ h' n, n = s.heap.objs.size → IsZip h' (n + 4) (n + 2) (n + 3) .none → IsPair h' (n + 2) (.ref n) (.ref (n + 1)) → IsPair h' (n + 3) .none .none → h'.IsListIter n l1 0 → h'.IsTupleIter (n + 1) l2 0 →
      (∀ c o, s.heap.get? c = some o → h'.get? c = some o) → Q (.ref (n + 4)) { s with heap := h' }) : wpAny (model prog w) A (call (.type "zip") [.ref l1, .ref l2]) Q E s := by
  refine callType_new F.called_zip (by decide) (F.typeCall_zip_2 _ _) (F.newCall_zip_2 _ _) (fun obj => F.args_object_init_3 obj _ _) F.entry_zip_new (meets_zipM l1 l2 xs ys) ⟨a, b, ?_⟩
  have s1 : (s.heap.push (lit l1)).objs.size = s.heap.objs.size + 1 := Heap.size_push ..
  have s2 : (m2h s.heap l1 l2).objs.size = s.heap.objs.size + 2 := by rw [Heap.size_push, s1]
  have s3 : (m3h s.heap l1 l2).objs.size = s.heap.objs.size + 3 := by rw [Heap.size_push, s2]
  have s4 : (m4h s.heap l1 l2).objs.size = s.heap.objs.size + 4 := by rw [Heap.size_push, s3]
  have up := fun {h : Heap} {o u : Obj} {c : Addr} (e : h.get? c = some o) => Heap.get?_push_of_some (h := h) u e
  have e5 : (m5h s.heap l1 l2).get? (m4h s.heap l1 l2).objs.size = some _ := Heap.get?_push_size _ rfl
  have e4 : (m5h s.heap l1 l2).get? (m3h s.heap l1 l2).objs.size = some _ := up (Heap.get?_push_size _ rfl)
  have e3 : (m5h s.heap l1 l2).get? (m2h s.heap l1 l2).objs.size = some _ := up (up (Heap.get?_push_size _ rfl))
  have e2 : (m5h s.heap l1 l2).get? (s.heap.push (lit l1)).objs.size = some _ := up (up (up (Heap.get?_push_size _ rfl)))
  have e1 : (m5h s.heap l1 l2).get? s.heap.objs.size = some _ := up (up (up (up (Heap.get?_push_size _ rfl))))
  show _ ∧ _
  rw [s2, s3, s4] at e5
  rw [s1, s2] at e3
  rw [s3] at e4
  rw [s1] at e2
  rw [s4]
  exact ⟨⟨_, e5, rfl⟩, q _ _ rfl e5 e3 e4 ⟨_, e1, rfl, rfl⟩ ⟨_, e2, rfl, rfl⟩ fun c o e => up (up (up (up (up e))))⟩
end
/-- the list at a and the tuple at b, item by item, in new pairs -/
def ItzM (K : PySem.W.Frag) (a b : Addr) : It :=
  ⟨fun i H => ∃ (xs ys : List V) (x y : V), SqL K H a xs ∧ SqT K H b ys ∧ xs[i]? = some x ∧ ys[i]? = some y,
    fun i H v H' => ∃ T x y, v = .ref T ∧ H T = none ∧ H' = upd H T (.tup [x, y]) ∧ (∀ xs, SqL K H a xs → xs[i]? = some x) ∧ ∀ ys, SqT K H b ys → ys[i]? = some y,
    fun i H => ∃ xs ys : List V, SqL K H a xs ∧ SqT K H b ys ∧ (xs.length ≤ i ∨ ys.length ≤ i)⟩
theorem turn_zipM {P : Program} {w : World} {K : PySem.W.Frag} {elts : List Expr} {kk : Nat} {tpos : Pos} {a b z TI TO i1 i2 : Addr} (D : ZipApart z TI TO i1 i2 a b) :
    Turn P w K (.Tuple elts kk tpos) (ItzM K a b) [z, TI, TO, i1, i2] z (fun i h => IsZip h z TI TO .none ∧ IsPair h TI (.ref i1) (.ref i2) ∧ (∃ x y, IsPair h TO x y) ∧ h.IsListIter i1 a i ∧ h.IsTupleIter i2 b i) where
  mem := List.mem_cons_self
  obj := by
    rintro i h ⟨e1, e2, ⟨x, y, e3⟩, ⟨o4, e4, _, d4⟩, ⟨o5, e5, _, d5⟩⟩ c hc
    simp only [List.mem_cons, List.not_mem_nil, or_false] at hc
    rcases hc with rfl | rfl | rfl | rfl | rfl
    · exact ⟨_, e1, fun v q => nomatch q⟩
    · exact ⟨_, e2, fun v q => nomatch q⟩
    · exact ⟨_, e3, fun v q => nomatch q⟩
    · exact ⟨o4, e4, fun v q => by rw [d4] at q; cases q⟩
    · exact ⟨o5, e5, fun v q => by rw [d5] at q; cases q⟩
  keep := by
    rintro i h h' ⟨e1, e2, ⟨x, y, e3⟩, e4, e5⟩ k
    exact ⟨k z (by simp) _ e1, k TI (by simp) _ e2, ⟨x, y, k TO (by simp) _ e3⟩, e4.at fun o => k i1 (by simp) o, e5.at fun o => k i2 (by simp) o⟩
  item := by
    intro X hP hw hK hc i pins s σ H E I hf st hg
    subst hP hw hK
    obtain ⟨e1, e2, ⟨x0, y0, e3⟩, e4, e5⟩ := st
    obtain ⟨xs, ys, x, y, sx, sy, hx, hy⟩ := hg
    obtain ⟨its, r1, p1, _⟩ := I.list sx
    obtain ⟨its2, r2, p2, _⟩ := I.tuple sy
    obtain ⟨u, hu, ru⟩ := r1.get hx
    obtain ⟨v, hv, rv⟩ := r2.get hy
    have zlt : z < s.heap.objs.size := Heap.lt_size e1
    refine nextG_item (feedL (vs := its.toArray)) (feedT (vs := its2.toArray)) D e1 e2 e3 ⟨e4, p1.isList⟩ ⟨e5, p2⟩ (x := u) (y := v) (by simpa using hu) (by simpa using hv) fun h' za toa ja jb new kp => ?_
    refine ⟨_, rfl, wpAny_letOwnedTupleGo_zip (s := { s with heap := h' }) za fun h2 zb sb => ?_⟩
    have out : ∀ c o, c ∉ [z, TI, TO, i1, i2] → s.heap.get? c = some o → h2.get? c = some o := fun c o hb e => by
      simp only [List.mem_cons, List.not_mem_nil, or_false, not_or] at hb
      exact (sb.2 c hb.1).trans (kp c o hb.1 hb.2.2.1 hb.2.2.2.1 hb.2.2.2.2 e)
    have new2 : h2.get? s.heap.objs.size = some { cls := .type "tuple", data := .seq #[u, v] } := (sb.2 _ (Nat.ne_of_gt zlt)).trans new
    have ok : ObjOk X.prog X.w (upd H s.heap.objs.size (.tup [x, y])) h2 s.heap.objs.size (.tup [x, y]) := ⟨by show 2 ≤ sizeLine; decide, [u, v], .cons ru (.cons rv .nil), ⟨_, new2, rfl, _, rfl⟩⟩
    have I1 : Inv X pins σ (upd H s.heap.objs.size (.tup [x, y])) { s with heap := h2 } := I.turnedNew (t' := s.toks) (ch := [z, TI, TO, i1, i2]) out hf (Nat.le_refl _) ok
    refine ⟨.ref s.heap.objs.size, _, I1, rfl, ⟨_, x, y, rfl, I.hok.fresh (Nat.le_refl _), rfl, fun l hl => by rw [I.list_inj hl sx]; exact hx, fun l hl => by rw [I.tuple_inj hl sy]; exact hy⟩,
      ⟨zb, (sb.2 _ D.TIz).trans (kp _ _ D.TIz D.TITO D.TIi1 D.TIi2 e2), ⟨u, v, (sb.2 _ D.TOz).trans toa⟩, ja.1.at fun o e => (sb.2 _ D.i1z).trans e, jb.1.at fun o e => (sb.2 _ D.i2z).trans e⟩, fun c hcm => ?_⟩
    have lt : c < s.heap.objs.size := by
      simp only [List.mem_cons, List.not_mem_nil, or_false] at hcm
      rcases hcm with rfl | rfl | rfl | rfl | rfl
      · exact zlt
      · exact Heap.lt_size e2
      · exact Heap.lt_size e3
      · obtain ⟨_, e, _⟩ := e4; exact Heap.lt_size e
      · obtain ⟨_, e, _⟩ := e5; exact Heap.lt_size e
    rw [upd_ne (Nat.ne_of_lt lt)]
    exact (hf c hcm).1
  done := by
    intro X hP hw hK hc i pins s σ H E I hf st hg
    subst hP hw hK
    obtain ⟨e1, e2, ⟨x0, y0, e3⟩, e4, e5⟩ := st
    obtain ⟨xs, ys, sx, sy, over⟩ := hg
    obtain ⟨its, r1, p1, _⟩ := I.list sx
    obtain ⟨its2, r2, p2, _⟩ := I.tuple sy
    have n1 := r1.length
    have n2 := r2.length
    refine nextG_end (feedL (vs := its.toArray)) (feedT (vs := its2.toArray)) (I.ok.hd hc) D e1 e2 e3 ⟨e4, p1.isList⟩ ⟨e5, p2⟩ (over.imp (fun q => by simp; omega) fun q => by simp; omega) fun h' kp => ?_
    refine ⟨rfl, I.turnedL (t' := s.toks) (ch := [z, TI, TO, i1, i2]) (fun c o hb e => ?_) hf⟩
    simp only [List.mem_cons, List.not_mem_nil, or_false, not_or] at hb
    exact kp c o hb.1 hb.2.2.1 hb.2.2.2.1 hb.2.2.2.2 e
  self := fun A i s Q E st h => wpAny_pyIter_zip st.1 h
def iZipM (K : PySem.W.Frag) (ta : TA) : TI := fun σ H R => ta σ H fun vs H1 => ∃ a b xs ys, vs = [.ref a, .ref b] ∧ SqL K H1 a xs ∧ SqT K H1 b ys ∧ R (ItzM K a b) H1
theorem pi_zipM {X : Cx} {e e2 : Expr} {ta : TA} {p pos tpos : Pos} {elts : List Expr} {kk : Nat} (K : PySem.W.Frag) (hg : Gl X "zip") (hm : X.mg "zip" = none) (ha : PA X [e, e2] ta)
    (hs : starEach [e, e2] X.env = (false, eval e X.env) :: starEach [e2] X.env := by rfl) (hpl : (backTo pos (starEach [e2] X.env)).any (·.1) = false := by rfl) (hK : X.K = K := by rfl) :
    PI X (.Tuple elts kk tpos) (.Call (.Name "zip" p) [e, e2] [] pos) (iZipM K ta) := by
  subst hK
  refine ⟨fun pins s σ H R I h => Call_ (ld_blt I hg hm PyProof.Rows.boot_zip (PyProof.Rows.callWith_type1 (thn (ha.run pos pins s σ H _ I h) fun us s1 ⟨vs, H1, I1, r1, a, b, xs, ys, ex, sx, sy, q⟩ => ?_) hs hpl))⟩
  subst ex
  obtain ⟨u, v, rfl, ru, rv⟩ : ∃ u v, us = [u, v] ∧ RelV (.ref a) u ∧ RelV (.ref b) v := by
    cases r1 with
    | cons r rr => cases rr with
      | cons r' rr => cases rr; exact ⟨_, _, rfl, r, r'⟩
  cases ru
  cases rv
  obtain ⟨its, t1, p1, _⟩ := I1.list sx
  obtain ⟨its2, t2, p2, _⟩ := I1.tuple sy
  obtain ⟨o2, ho2, _⟩ := id p2
  have p2' : s1.heap.IsTuple b its2.toArray := p2
  refine call_zipM p1.isList p2' fun h' n hn hz hTI hTO h1 h2 hk => wpAny_pyIter_zip hz ?_
  subst hn
  have I2 : Inv X pins σ H1 { s1 with heap := h' } := I1.kept (t' := s1.toks) hk
  refine ⟨s1.heap.objs.size + 4, [s1.heap.objs.size + 4, s1.heap.objs.size + 2, s1.heap.objs.size + 3, s1.heap.objs.size, s1.heap.objs.size + 1], _, _, H1, rfl, I2, turn_zipM (PySem.W.ktu_apart s1.heap.objs.size a b p1.lt (Heap.lt_size ho2)), ⟨hz, hTI, ⟨_, _, hTO⟩, h1, h2⟩, fun c hc => ?_, q⟩
  have le : s1.heap.objs.size ≤ c := by
    simp only [List.mem_cons, List.not_mem_nil, or_false] at hc
    show (s1.heap.objs.size : Nat) ≤ c
    rcases hc with rfl | rfl | rfl | rfl | rfl
    · exact Nat.le_add_right _ _
    · exact Nat.le_add_right _ _
    · exact Nat.le_add_right _ _
    · exact Nat.le_refl _
    · exact Nat.le_add_right _ _
  exact I1.fpOk le (I1.hok.fresh le)
end N7
namespace N7
open PySem PySem.Spec PyProof.Rows L2 RZ
theorem for_zipM {K : PySem.W.Frag} {a b : Addr} {xs ys : List V} {g : TG} {tb : TS} {D : Ends} {σ : L2.St} {H : Hp} (hl : xs.length = ys.length) (Pv : Nat → L2.St → Hp → Prop) (h0 : Pv 0 σ H) (hq : ∀ i σ H, Pv i σ H → SqL K H a xs ∧ SqT K H b ys)
    (hs : ∀ (i : Nat) (x y : V) (T : Addr) (σ : L2.St) (H : Hp), xs[i]? = some x → ys[i]? = some y → Pv i σ H → H T = none → g (.ref T) σ (upd H T (.tup [x, y])) fun σ2 H2 => tb { D with nx := Pv (i + 1), ct := Pv (i + 1), bk := D.nx } σ2 H2) (hd : ∀ σ H, Pv xs.length σ H → D.nx σ H) :
    ∃ W : Nat → Nat → L2.St → Hp → Prop, (∃ m, W 0 m σ H) ∧ ∀ i m σ H, W i m σ H →
      ((ItzM K a b).stop i H ∧ D.nx σ H) ∨ ((ItzM K a b).go i H ∧ ∃ N : L2.St → Hp → Prop, (∀ σ' H', N σ' H' → ∃ m', m' < m ∧ W (i + 1) m' σ' H') ∧ ∀ v H', (ItzM K a b).yld i H v H' → g v σ H' fun σ2 H2 => tb { D with nx := N, ct := N, bk := D.nx } σ2 H2) := by
  refine ⟨fun i m σ H => m = xs.length - i ∧ i ≤ xs.length ∧ Pv i σ H, ⟨xs.length, rfl, Nat.zero_le _, h0⟩, ?_⟩
  rintro i m σ H ⟨rfl, hi, p⟩
  obtain ⟨sx, sy⟩ := hq i σ H p
  rcases Nat.lt_or_ge i xs.length with lt | ge
  · refine .inr ⟨⟨xs, ys, _, _, sx, sy, List.getElem?_eq_getElem lt, List.getElem?_eq_getElem (Nat.lt_of_lt_of_eq lt hl)⟩, Pv (i + 1), fun σ' H' p' => ⟨xs.length - (i + 1), by omega, rfl, lt, p'⟩, ?_⟩
    rintro v H' ⟨T, x, y, rfl, hT, rfl, f1, f2⟩
    exact hs i x y T σ H (f1 xs sx) (f2 ys sy) p hT
  · obtain rfl : i = xs.length := by omega
    exact .inl ⟨⟨xs, ys, sx, sy, .inl (Nat.le_refl _)⟩, hd σ H p⟩
theorem x_zipM {K : PySem.W.Frag} {ta : TA} {σ : L2.St} {H : Hp} {R : It → Hp → Prop} (k : ta σ H fun vs H1 => ∃ a b xs ys, vs = [.ref a, .ref b] ∧ SqL K H1 a xs ∧ SqT K H1 b ys ∧ R (ItzM K a b) H1) : iZipM K ta σ H R := k
end N7
open PySem in
local macro_rules | `(tactic| walk_at "g1") => `(tactic| first
  | ((with_reducible show L2.tVar _ _ _ _); refine B.x_var rfl ?_)
  | with_reducible refine B.x_c ?_
  | with_reducible refine B.x_op ?_
  | with_reducible refine B.x_tst ?_
  | with_reducible refine B.x_nx ?_
  | with_reducible refine B.x_seq ?_
  | with_reducible refine B.x_asg ?_
  | with_reducible refine B.x_name ?_
  | with_reducible refine B.x_ifS ?_
  | ((with_reducible refine B.x_eq ?hc ?kk); (case hc => rfl))
  | ((with_reducible refine B.x_ne ?hc ?kk); (case hc => rfl))
  | with_reducible refine B.x_i0 ?_
  | with_reducible refine B.x_exbl ?_
  | with_reducible refine B.x_ret ?_
  | with_reducible refine B.x_rt ?_
  | with_reducible refine B.x_cons ?_
  | with_reducible refine B.x_nil ?_
  | with_reducible refine B.x_call ?_
  | with_reducible refine B.x_cb ?_
  | with_reducible refine B.x_fld ?_
  | with_reducible refine B.x_sfld ?_
  | with_reducible refine B.x_tb ?_
  | with_reducible refine B.x_and ?_
  | with_reducible refine B.x_or ?_
  | with_reducible refine B.x_not ?_
  | with_reducible refine B.x_if ?_
  | with_reducible refine B.x_next ?_
  | with_reducible refine B.x_drop ?_
  | with_reducible refine B.x_bm ?_
  | with_reducible refine B.x_bm0 ?_
  | with_reducible refine B.x_meth ?_
  | with_reducible refine B.x_un ?_
  | with_reducible refine B.x_u ?_
  | with_reducible refine B.x_andV ?_
  | with_reducible refine B.x_orV ?_
  | with_reducible refine B.x_notV ?_
  | with_reducible refine B.x_chain ?_
  | with_reducible refine B.x_tup ?_
  | with_reducible refine B.x_lst ?_
  | with_reducible refine B.x_retN ?_
  | with_reducible refine B.x_gsub ?_
  | with_reducible refine B.x_dget ?_
  | with_reducible refine B.x_dput ?_
  | with_reducible refine B.x_din ?_
  | with_reducible refine B.x_dnin ?_
  | with_reducible refine B.x_sl ?_
  | with_reducible refine B.x_make ?_
  | with_reducible refine B.x_par ?_
  | with_reducible refine B.x_tyes ?_
  | with_reducible refine B.x_isN ?_
  | with_reducible refine B.x_notN ?_
  | with_reducible refine B.x_sp1 ?_
  | with_reducible refine B.x_sp2 ?_
  | with_reducible refine B.x_sp3 ?_
  | with_reducible refine B.x_sp4 ?_
  | ((with_reducible refine' B.x_i ?hc ?kk); (case hc => first | assumption | omega | (unfold L2.CMul; omega) | (unfold L2.CDiv; omega) | (unfold L2.CPow; omega) | decide))
  | ((with_reducible refine' B.x_isi (a := "int") (.base (.int _)) ?he ?kk); (case he => first | exact B.kb_int_int | exact B.kb_int_bool | exact B.kb_int_str | exact B.kb_int_tuple | exact B.kb_int_list))
  | ((with_reducible refine' B.x_isi (a := "str") (.base (.str _)) ?he ?kk); (case he => first | exact B.kb_str_int | exact B.kb_str_bool | exact B.kb_str_str | exact B.kb_str_tuple | exact B.kb_str_list))
  | ((with_reducible refine' B.x_isi (a := "bool") (.base (.bl _)) ?he ?kk); (case he => first | exact B.kb_bool_int | exact B.kb_bool_bool | exact B.kb_bool_str | exact B.kb_bool_tuple | exact B.kb_bool_list))
  | ((with_reducible refine' B.x_isi (a := "NoneType") (.base .non) ?he ?kk); (case he => first | exact B.kb_NoneType_int | exact B.kb_NoneType_bool | exact B.kb_NoneType_str | exact B.kb_NoneType_tuple | exact B.kb_NoneType_list))
  | ((with_reducible refine' B.x_isi (a := "tuple") (.base (.tup ?hh)) ?he ?kk); (case hh => walk_at "hp"); (case he => first | exact B.kb_tuple_int | exact B.kb_tuple_bool | exact B.kb_tuple_str | exact B.kb_tuple_tuple | exact B.kb_tuple_list))
  | ((with_reducible refine' B.x_isi (a := "list") (.base (.lst ?hh)) ?he ?kk); (case hh => walk_at "hp"); (case he => first | exact B.kb_list_int | exact B.kb_list_bool | exact B.kb_list_str | exact B.kb_list_tuple | exact B.kb_list_list))
  | ((with_reducible refine' B.x_lenL ?hh ?kk); (case hh => walk_at "hp"))
  | ((with_reducible refine' B.x_lenT ?hh ?kk); (case hh => walk_at "hp"))
  | ((with_reducible refine' B.x_listL ?hh ?kk); (case hh => walk_at "hp"))
  | ((with_reducible refine' B.x_listT ?hh ?kk); (case hh => walk_at "hp"))
  | ((with_reducible refine' B.x_tupL ?hh ?kk); (case hh => walk_at "hp"))
  | ((with_reducible refine' B.x_tupT ?hh ?kk); (case hh => walk_at "hp"))
  | ((with_reducible refine' B.x_inT ?hh ?hv ?hf ?kk); (case hh => walk_at "hp"); (case hv => rfl); (case hf => rfl))
  | ((with_reducible refine' B.x_inL ?hh ?hv ?hf ?kk); (case hh => walk_at "hp"); (case hv => rfl); (case hf => rfl))
  | ((with_reducible refine' B.x_ixL ?hh ?hi ?kk); (case hh => walk_at "hp"); (case hi => first | assumption | rfl))
  | ((with_reducible refine' B.x_ixT ?hh ?hi ?kk); (case hh => walk_at "hp"); (case hi => first | assumption | rfl))
  | with_reducible refine B.x_nn ?_
  | with_reducible refine B.x_intB ?_
  | with_reducible refine B.x_intI ?_
  | with_reducible refine B.x_max ?_
  | with_reducible refine B.x_lc ?_
  | with_reducible refine B.x_forr ?_
  | with_reducible refine B.x_iR1 ?_
  | with_reducible refine B.x_iR2 ?_
  | with_reducible refine B.x_iL ?_
  | with_reducible refine B.x_iT ?_
  | ((with_reducible refine' B.x_eL ?hh ?kk); (case hh => walk_at "hp"))
  | ((with_reducible refine' B.x_eT ?hh ?kk); (case hh => walk_at "hp"))
  | ((with_reducible refine' B.x_eR1 ?hh ?kk); (case hh => first | assumption | decide | omega))
  | with_reducible refine B.x_disp ?_
  | with_reducible refine B.x_pcons ?_
  | with_reducible refine B.x_pnil ?_
  | with_reducible refine B.x_gnil ?_
  | with_reducible refine B.x_gcons ?_
  | ((with_reducible refine' B.x_gtup ?hh ?hl ?kk); (case hh => walk_at "hp"); (case hl => rfl))
  | ((with_reducible refine' B.x_new ?hc ?kk); (case hc => first | assumption | decide | (simp; done) | omega))
  | ((with_reducible refine' B.x_eqNilL ?ha ?hb ?hf ?kk); (case ha => walk_at "hp"); (case hb => walk_at "hp"); (case hf => first | rfl | assumption))
  | ((with_reducible refine' B.x_neNilL ?ha ?hb ?hf ?kk); (case ha => walk_at "hp"); (case hb => walk_at "hp"); (case hf => first | rfl | assumption))
  | ((with_reducible refine' B.x_eqNilT ?ha ?hb ?hf ?kk); (case ha => walk_at "hp"); (case hb => walk_at "hp"); (case hf => first | rfl | assumption))
  | ((with_reducible refine' B.x_tyL ?hh ?kk); (case hh => walk_at "hp"))
  | ((with_reducible refine' B.x_app ?hh ?hz ?kk); (case hh => walk_at "hp"); (case hz => first | assumption | omega))
  | ((with_reducible refine' B.x_pop0 ?hh ?kk); (case hh => walk_at "hp"))
  | ((with_reducible refine B.x_ifyes ?hc ?kk); (case hc => first | decide | rfl))
  | ((with_reducible refine B.x_ifno ?hc ?kk); (case hc => first | decide | rfl))
  | fail)
local macro_rules | `(tactic| walk_at "ne") => `(tactic| first
  | assumption
  | exact Ne.symm (by assumption)
  | exact L2.ne_of_none (by assumption) (by assumption)
  | exact (L2.ne_of_none (by assumption) (by assumption)).symm
  | exact L2.ne_of (by assumption) (by assumption) (by intro z; cases z)
  | fail)
open PySem in
local macro_rules | `(tactic| walk_at "hp") => `(tactic| first
  | assumption
  | exact L2.upd_same
  | ((with_reducible refine' L2.SqL.of ?hs); (case hs => walk_at "hp"))
  | ((with_reducible refine' L2.SqT.of ?hs); (case hs => walk_at "hp"))
  | ((with_reducible refine' Eq.trans (L2.upd_ne ?ne) ?hq); (case ne => walk_at "ne"); (case hq => walk_at "hp"))
  | fail)
local macro_rules | `(tactic| walk_at "go") => `(tactic| repeat' (walk_at "g1"))
namespace B
open PySem PySem.Spec PyProof.Rows L2
/-! ### d.update(a list of pairs) -/
section
variable {prog : Program} {w : World}
theorem meets_dupd {S l : Addr} {ol : Obj} {items : Array Value} {n : Nat} {prs acc : List (Key × Value)} : MeetsIn prog w (Builtin.«dict.update» ⟨[.ref S, .ref l], []⟩) (fun A R s => A.handled = none ∧ s.heap.get? l = some ol ∧ ol.cls = .type "list" ∧ ol.dict = none ∧ ol.data = .seq items n ∧
    items.size = prs.length ∧ acc.length + prs.length ≤ sizeLine ∧ S ≠ l ∧ (∀ (j : Nat) (q : Key × Value), prs[j]? = some q → ∃ (b : Addr) (u : Value), items[j]? = some (.ref b) ∧ b ≠ S ∧ IsTup s.heap b #[u, q.2] ∧ keyIs q.1 u = true) ∧
    s.heap.DictOf (mixKind prog w) S acc ∧ ∀ h' tk, h'.DictOf (mixKind prog w) S (merged acc prs) → (∀ b o, b ≠ S → s.heap.get? b = some o → h'.get? b = some o) → R (.ok (.ret .none)) { s with heap := h', toks := tk }) := by
  rintro A R s ⟨hh, hl, hc, hd, hdat, hsz, hln, hSl, ht, hD, h⟩
  unfold Builtin.«dict.update»
  refine wpAny_bind ?_
  unfold Builtin.Dict.selfAndRest
  refine wpAny_bind (wpAny_notOrdered_dict hD.typeIs ?_)
  show wpAny _ _ (pure (S, [Value.ref l])) _ _ _
  refine wpAny_pure ?_
  show wpAny _ _ (Builtin.Dict.updateFrom "dict.update" S (.ref l) [] .none) _ _ _
  unfold Builtin.Dict.updateFrom
  refine wpAny_bind (wpAny_typeOf (T := "list") ⟨ol, hl, hc⟩ ?_)
  rw [if_pos (by first | decide | rfl | simp)]
  refine wpAny_bind (miss_list hl hc hdat hd hh fun h1 tk1 hk1 => ?_)
  rw [if_pos (show (none : Option Value).isNone = true from rfl)]
  refine wpAny_bind (wpAny_rule ?_)
  have hl1 : h1.IsList l items := ⟨ol, hk1 _ _ hl, hc, n, hdat⟩
  have hS1 : S < h1.objs.size := by
    obtain ⟨o, _, _, e, _⟩ := hD
    exact Heap.lt_size (hk1 _ _ e)
  have hl1' : l < h1.objs.size := Heap.lt_size (hk1 _ _ hl)
  refine wpAny_bind (wpAny_pyIter_list hl1 ?_)
  have k2 : ∀ b o, h1.get? b = some o → (h1.push { cls := .type "list_iterator", data := .fields #[.ref l, .int 0 0] }).get? b = some o := fun b o e => Heap.get?_push_of_some _ e
  have key := upd_loop (prog := prog) (w := w) (A := A) (R := R) (S := S) (I := h1.objs.size) (l := l) (items := items) (res := Value.none) hh
    (Nat.ne_of_lt hl1') (Nat.ne_of_lt hS1) hSl prs 0 acc 0 0
    { s with heap := h1.push { cls := .type "list_iterator", data := .fields #[.ref l, .int 0 0] }, toks := tk1 } (by rw [hsz, Nat.zero_add]) hln
    (fun j q e => by
      obtain ⟨b, u, e1, e0, e2, e3⟩ := ht j q e
      have hb : b < s.heap.objs.size := e2.lt
      have hb1 : b < h1.objs.size := by
        obtain ⟨o, ho, _⟩ := id e2
        exact Heap.lt_size (hk1 _ _ ho)
      exact ⟨b, u, by rw [Nat.zero_add]; exact e1, e0, Nat.ne_of_lt hb1, e2.keeps fun c o z => k2 _ _ (hk1 _ _ z), e3⟩)
    ⟨_, Heap.get?_push_size _ rfl, rfl, rfl⟩ (hl1.at fun o e => k2 _ _ e) ((hD.at fun o e => hk1 _ _ e).at fun o e => k2 _ _ e)
    (fun h' tk hd' k => h h' tk hd' fun b o hb e => k b o hb (Nat.ne_of_lt (Heap.lt_size (hk1 _ _ e))) (k2 _ _ (hk1 _ _ e)))
  first
    | exact wpAny_pure ⟨plainId_quiet ud_plain _, key⟩
    | exact wpAny_bind (wpAny_pure (wpAny_pure ⟨plainId_quiet ud_plain _, key⟩))
end
section
variable {X : Cx}
def rDUpd (K : PySem.W.Frag) : V → List V → Hp → VK → Prop := fun x vs H Q => ∃ (d a : Addr) (ps : List Addr) (kvs0 kvs : List (Key × V)), x = .ref d ∧ vs = [.ref a] ∧ H d = some (.dK kvs0) ∧ SqL K H a (ps.map V.ref) ∧ Paired (fun p kv => SqT K H p [kV kv.1, kv.2]) ps kvs ∧
  kvs0.length + kvs.length ≤ sizeLine ∧ Q .non (upd H d (.dK (mergeK kvs0 kvs)))
theorem mt_dupdate (hcalm : X.calm = true) : MtR X "dict.update" (rDUpd X.K) := by
  intro pins s σ H x vs v us Q I rx rv h
  obtain ⟨d, a, ps, kvs0, kvs, rfl, rfl, hd0, hq, hp, hlen, q⟩ := h
  cases rx
  obtain ⟨u, rfl, ru⟩ := vals1 rv
  cases ru
  obtain ⟨its, rv2, pl, hz⟩ := I.list hq
  have ei := refs_at rv2
  subst ei
  obtain ⟨prs, rel, hl, hpr⟩ := pairs_of I hp
  obtain ⟨o, n, ho, hc, hdd, hdat⟩ := pl
  obtain ⟨hz0, hsm, vs0, r0, hD⟩ := I.hok d _ hd0
  have hda : d ≠ a := fun z => by
    obtain ⟨od, _, _, e, ed, _⟩ := id hD
    rw [z, ho] at e
    have e := Option.some.inj e
    rw [← e] at ed
    have := ed.1
    rw [hc] at this
    exact absurd this (by decide)
  refine call_meetsIn PySem.F.slot_dict_update hD.typeIs PySem.F.entry_dict_update (PySem.F.args_dict_update_2 _ _) (meets_dupd (prog := X.prog) (w := X.w) (ol := o) (items := (ps.map Value.ref).toArray) (n := n) (prs := prs) (acc := vs0))
    ⟨I.ok.hd hcalm, ho, hc, hdd, hdat, by simp [hl], by rw [← r0.length, ← rel.length]; exact hlen, hda, fun j q' e => ?_, hD, fun h' tk hd' k => ?_⟩
  · obtain ⟨b, u, e1, e2, e3⟩ := hpr j q' e
    refine ⟨b, u, by simp [e1], fun z => ?_, e2, e3⟩
    obtain ⟨ob, hob, hcb, _⟩ := id e2
    obtain ⟨od, _, _, e, ed, _⟩ := id hD
    rw [z, e] at hob
    have e := Option.some.inj hob
    rw [← e] at hcb
    have := ed.1
    rw [hcb] at this
    exact absurd this (by decide)
  · have hlen2 : (mergeK kvs0 kvs).length ≤ sizeLine := Nat.le_trans (length_mergeK kvs kvs0) hlen
    have he : ∃ u, h'.get? d = some u := by obtain ⟨od, _, _, e, _⟩ := hd'; exact ⟨od, e⟩
    exact ⟨.non, _, I.write (x := d) (e := d) (o := .dK (mergeK kvs0 kvs)) (t' := tk) (by rw [hd0]; trivial) (.inl rfl) (fun b u hb e => k b u hb e) he (show ObjOk X.prog X.w _ _ _ (.dK (mergeK kvs0 kvs)) from ⟨hlen2, hsm, merged vs0 prs, KV.merge rel r0, hd'⟩), rfl, q⟩
end
end B
namespace B
open PySem PySem.Spec PyProof.Rows L2
section
variable {X : Cx} (K : PySem.W.Frag)
theorem dUpd (hcalm : X.calm = true) (hK : X.K = K := by rfl) : MtR X "dict.update" (rDUpd K) := hK ▸ mt_dupdate hcalm
end
section
variable {K : PySem.W.Frag} {H : Hp} {Q : VK} {a : Addr} {xs : List V}
theorem ty_tup (h : SqT K H a xs) : TyX K H (.ref a) (.type "tuple") := by
  rcases h with (h | ⟨o, h⟩) | ⟨o, _, _, h, hc, _⟩
  · exact .base (.tup h)
  · exact .fTuple h
  · exact .kTuple h hc
theorem ty_lst (h : SqL K H a xs) : TyX K H (.ref a) (.type "list") := by
  rcases h with (h | ⟨o, h⟩) | ⟨o, _, _, h, hc, _⟩
  · exact .base (.lst h)
  · exact .base (.frz h)
  · exact .kList h hc
/-- isinstance(x, (tuple, list)) of one of these -/
theorem x_isiTL {t : Addr} {T : String} (ht : H t = some (.tup [.ty "tuple", .ty "list"])) (ty : TyX K H (.ref a) (.type T)) (hT : T = "tuple" ∨ T = "list") (k : Q (.bl true) H) : rIsiT K [.ref a, .ref t] H Q := by
  refine ⟨.ref a, t, [.ty "tuple", .ty "list"], .type T, [.type "tuple", .type "list"], true, rfl, ht, .cons (.ty _) (.cons (.ty _) .nil), ty, ?_, k⟩
  rcases hT with rfl | rfl
  · exact kitAny_cons (b := true) (kit_ty kb_tuple_tuple) (fun h => by cases h) fun _ => rfl
  · exact kitAny_cons (b := false) (kit_ty kb_list_tuple) (fun _ => kitAny_cons (b := true) (kit_ty kb_list_list) (fun h => by cases h) fun _ => rfl) fun h => by cases h
end
end B
namespace B
open PySem PySem.Spec PyProof.Rows L2
section
variable {X : Cx} (K : PySem.W.Frag)
/-- x[i] of a list or a tuple -/
def rIxLT (K : PySem.W.Frag) : R2 := fun x y H Q => rIxL K x y H Q ∨ rIxT K x y H Q
theorem ixLT (hK : X.K = K := by rfl) : IxR X (rIxLT K) := (ixL K hK).or (ixT K hK)
end
section
variable {K : PySem.W.Frag} {H : Hp} {Q : VK} {p : Addr} {xs : List V} {i : Int} {v : V}
theorem x_ixLTl (h : SqL K H p xs) (ha : atI xs i = some v) (k : Q v H) : rIxLT K (.ref p) (.int i) H Q := .inl (x_ixL h ha k)
theorem x_ixLTt (h : SqT K H p xs) (ha : atI xs i = some v) (k : Q v H) : rIxLT K (.ref p) (.int i) H Q := .inr (x_ixT h ha k)
end
theorem x_parE {R : V → V → Prop} {a b : V} (k : R a b) : ∃ v w, [a, b] = [v, w] ∧ R v w := ⟨a, b, rfl, k⟩
theorem x_parE3 {R : V → V → V → Prop} {a b c : V} (k : R a b c) : ∃ u v w, [a, b, c] = [u, v, w] ∧ R u v w := ⟨a, b, c, rfl, k⟩
theorem x_par3 {i j l : Nat} {t : TA} {D : Ends} {σ : St} {H : Hp} (k : t σ H fun vs H1 => ∃ u v w, vs = [u, v, w] ∧ D.nx (((σ.set i (some u)).set j (some v)).set l (some w)) H1) : tPar3 i j l t D σ H := k
theorem hp_new {H : Hp} {a x : Addr} {o u : HO} (hn : H a = none) (hq : H x = some u) : upd H a o x = some u := by rw [upd_ne (ne_of_none hq hn)]; exact hq
theorem hp_dk {H : Hp} {a x : Addr} {kvs : List (L2.Key × V)} {xs : List V} {o : HO} (ha : H a = some (.dK kvs)) (hq : H x = some (.lst xs)) : upd H a o x = some (.lst xs) := by rw [upd_ne (ne_of hq ha (by intro z; cases z))]; exact hq
theorem hp_dkt {H : Hp} {a x : Addr} {kvs : List (L2.Key × V)} {xs : List V} {o : HO} (ha : H a = some (.dK kvs)) (hq : H x = some (.tup xs)) : upd H a o x = some (.tup xs) := by rw [upd_ne (ne_of hq ha (by intro z; cases z))]; exact hq
theorem x_npart {σ : St} {H : Hp} {Q : Option Int → Hp → Prop} (k : Q none H) : tNoPart σ H Q := k
theorem x_part {t : TE} {σ : St} {H : Hp} {Q : Option Int → Hp → Prop} (k : t σ H fun x H1 => ∃ i, x = .int i ∧ Q (some i) H1) : tPart t σ H Q := k
theorem x_exint {i : Int} {R : Int → Prop} (k : R i) : ∃ j, V.int i = .int j ∧ R j := ⟨i, rfl, k⟩
theorem x_slL {K : PySem.W.Frag} {a : Addr} {xs : List V} {lo hi : Option Int} {H : Hp} {Q : VK} (h : SqL K H a xs) (k : ∀ p, H p = none → Q (.ref p) (upd H p (.lst (cutV xs lo hi)))) : rSlL K (.ref a) lo hi H Q := ⟨a, xs, rfl, h, k⟩
end B
local macro_rules | `(tactic| walk_at "g1") => `(tactic| first
  | ((with_reducible refine' B.x_isi (a := "tuple") (B.ty_tup ?hh) ?he ?kk); (case hh => walk_at "hp"); (case he => first | exact B.kb_tuple_int | exact B.kb_tuple_bool | exact B.kb_tuple_str | exact B.kb_tuple_tuple | exact B.kb_tuple_list))
  | ((with_reducible refine' B.x_isi (a := "list") (B.ty_lst ?hh) ?he ?kk); (case hh => walk_at "hp"); (case he => first | exact B.kb_list_int | exact B.kb_list_bool | exact B.kb_list_str | exact B.kb_list_tuple | exact B.kb_list_list))
  | ((with_reducible refine' B.x_ixLTl ?hh ?hi ?kk); (case hh => walk_at "hp"); (case hi => first | assumption | rfl))
  | ((with_reducible refine' B.x_ixLTt ?hh ?hi ?kk); (case hh => walk_at "hp"); (case hi => first | assumption | rfl))
  | with_reducible refine B.x_parE ?_
  | with_reducible refine B.x_parE3 ?_
  | with_reducible refine B.x_par3 ?_
  | with_reducible refine B.x_npart ?_
  | with_reducible refine B.x_part ?_
  | with_reducible refine B.x_exint ?_
  | ((with_reducible refine' B.x_slL ?hh ?kk); (case hh => walk_at "hp"))
  | fail)
local macro_rules | `(tactic| walk_at "hp") => `(tactic| first
  | assumption
  | exact L2.upd_same
  | ((with_reducible refine' B.hp_new ?hn ?hq); (case hn => assumption); (case hq => walk_at "hp"))
  | ((with_reducible refine' B.hp_dk ?ha ?hq); (case ha => walk_at "hp"); (case hq => walk_at "hp"))
  | ((with_reducible refine' B.hp_dkt ?ha ?hq); (case ha => walk_at "hp"); (case hq => walk_at "hp"))
  | fail)
open PySem in
local macro_rules | `(tactic| walk_at "g1") => `(tactic| first
  | ((with_reducible refine' N7.x_lenN ?hh ?kk); (case hh => first | assumption | exact L2.upd_same))
  | ((with_reducible refine' N7.x_tupF ?hh ?kk); (case hh => walk_at "hp"))
  | with_reducible refine N7.x_gtupF ?_
  | with_reducible refine N7.x_dn ?_
  | with_reducible refine N7.x_setdT ?_
  | with_reducible refine N7.x_zipM ?_
  | with_reducible refine N7.x_dnT ?_
  | fail)
local macro_rules | `(tactic| walk_at "kp") => `(tactic| first
  | assumption
  | exact B.Kp.refl _
  | (refine B.Kp.trans ?_ (B.Kp.new (by assumption)); walk_at "kp"))
namespace K7
open PySem PySem.Spec PyProof.Rows L2 B
abbrev St := L2.St
def top (i : Nat) : Stmt := PySem.Challenge.pw_bitserial_k17_pairs_judged.main.body.getD i (.Pass ⟨0, 0, 0, 0⟩)
/-! BadProgram.__init__ -/
abbrev s_BadProgram_init : Stmt := inClass (top 2) 0
abbrev N_BadProgram_init : List Str := ["self", "row"]
theorem sc_BadProgram_init : FnScope N_BadProgram_init ["self", "row"] (defScope s_BadProgram_init) := ⟨rfl, rfl, rfl, by decide +kernel, rfl, by decide +kernel, by decide +kernel⟩
/-! BadNet.__init__ -/
abbrev s_BadNet_init : Stmt := inClass (top 5) 0
abbrev N_BadNet_init : List Str := ["self", "cell"]
theorem sc_BadNet_init : FnScope N_BadNet_init ["self", "cell"] (defScope s_BadNet_init) := ⟨rfl, rfl, rfl, by decide +kernel, rfl, by decide +kernel, by decide +kernel⟩
/-! BadText.__init__ -/
abbrev s_BadText_init : Stmt := inClass (top 8) 0
abbrev N_BadText_init : List Str := ["self", "row"]
theorem sc_BadText_init : FnScope N_BadText_init ["self", "row"] (defScope s_BadText_init) := ⟨rfl, rfl, rfl, by decide +kernel, rfl, by decide +kernel, by decide +kernel⟩
/-! is_number -/
abbrev s_is_number : Stmt := top 15
abbrev N_is_number : List Str := ["part", "low", "high"]
theorem sc_is_number : FnScope N_is_number ["part", "low", "high"] (defScope s_is_number) := ⟨rfl, rfl, rfl, by decide +kernel, rfl, by decide +kernel, by decide +kernel⟩
/-! is_part -/
abbrev s_is_part : Stmt := top 16
abbrev N_is_part : List Str := ["part", "sort", "rows", "most"]
theorem sc_is_part : FnScope N_is_part ["part", "sort", "rows"] (defScope s_is_part) := ⟨rfl, rfl, rfl, by decide +kernel, rfl, by decide +kernel, by decide +kernel⟩
/-! is_row -/
abbrev s_is_row : Stmt := top 17
abbrev N_is_row : List Str := ["row", "rows", "form", "k"]
theorem sc_is_row : FnScope N_is_row ["row", "rows"] (defScope s_is_row) := ⟨rfl, rfl, rfl, by decide +kernel, rfl, by decide +kernel, by decide +kernel⟩
/-! need_program -/
abbrev s_need_program : Stmt := top 18
abbrev N_need_program : List Str := ["program", "number"]
theorem sc_need_program : FnScope N_need_program ["program"] (defScope s_need_program) := ⟨rfl, rfl, rfl, by decide +kernel, rfl, by decide +kernel, by decide +kernel⟩
/-! Maker.__init__ -/
abbrev s_Maker_init : Stmt := inClass (top 23) 0
abbrev N_Maker_init : List Str := ["self"]
theorem sc_Maker_init : FnScope N_Maker_init ["self"] (defScope s_Maker_init) := ⟨rfl, rfl, rfl, by decide +kernel, rfl, by decide +kernel, by decide +kernel⟩
/-! Maker.get -/
abbrev s_Maker_get : Stmt := inClass (top 23) 1
abbrev N_Maker_get : List Str := ["self", "parts"]
theorem sc_Maker_get : FnScope N_Maker_get ["self", "parts"] (defScope s_Maker_get) := ⟨rfl, rfl, rfl, by decide +kernel, rfl, by decide +kernel, by decide +kernel⟩
/-! Maker.loop -/
abbrev s_Maker_loop : Stmt := inClass (top 23) 2
abbrev N_Maker_loop : List Str := ["self", "number"]
theorem sc_Maker_loop : FnScope N_Maker_loop ["self", "number"] (defScope s_Maker_loop) := ⟨rfl, rfl, rfl, by decide +kernel, rfl, by decide +kernel, by decide +kernel⟩
/-! Maker.memory -/
abbrev s_Maker_memory : Stmt := inClass (top 23) 3
abbrev N_Maker_memory : List Str := ["self"]
theorem sc_Maker_memory : FnScope N_Maker_memory ["self"] (defScope s_Maker_memory) := ⟨rfl, rfl, rfl, by decide +kernel, rfl, by decide +kernel, by decide +kernel⟩
/-! Maker.lay -/
abbrev s_Maker_lay : Stmt := inClass (top 23) 4
abbrev N_Maker_lay : List Str := ["self", "row", "word", "one", "other"]
theorem sc_Maker_lay : FnScope N_Maker_lay ["self", "row"] (defScope s_Maker_lay) := ⟨rfl, rfl, rfl, by decide +kernel, rfl, by decide +kernel, by decide +kernel⟩
/-! Maker.constant -/
abbrev s_Maker_constant : Stmt := inClass (top 23) 5
abbrev N_Maker_constant : List Str := ["self", "number", "found", "pulse"]
theorem sc_Maker_constant : FnScope N_Maker_constant ["self", "number"] (defScope s_Maker_constant) := ⟨rfl, rfl, rfl, by decide +kernel, rfl, by decide +kernel, by decide +kernel⟩
/-! Maker.single -/
abbrev s_Maker_single : Stmt := inClass (top 23) 6
abbrev N_Maker_single : List Str := ["self", "word", "one"]
theorem sc_Maker_single : FnScope N_Maker_single ["self", "word", "one"] (defScope s_Maker_single) := ⟨rfl, rfl, rfl, by decide +kernel, rfl, by decide +kernel, by decide +kernel⟩
/-! Maker.double -/
abbrev s_Maker_double : Stmt := inClass (top 23) 7
abbrev N_Maker_double : List Str := ["self", "word", "one", "other"]
theorem sc_Maker_double : FnScope N_Maker_double ["self", "word", "one", "other"] (defScope s_Maker_double) := ⟨rfl, rfl, rfl, by decide +kernel, rfl, by decide +kernel, by decide +kernel⟩
/-! Maker.added -/
abbrev s_Maker_added : Stmt := inClass (top 23) 8
abbrev N_Maker_added : List Str := ["self", "one", "other", "half", "carry", "both", "more"]
theorem sc_Maker_added : FnScope N_Maker_added ["self", "one", "other"] (defScope s_Maker_added) := ⟨rfl, rfl, rfl, by decide +kernel, rfl, by decide +kernel, by decide +kernel⟩
/-! Maker.taken -/
abbrev s_Maker_taken : Stmt := inClass (top 23) 9
abbrev N_Maker_taken : List Str := ["self", "one", "other", "half", "borrow", "lacks", "more"]
theorem sc_Maker_taken : FnScope N_Maker_taken ["self", "one", "other"] (defScope s_Maker_taken) := ⟨rfl, rfl, rfl, by decide +kernel, rfl, by decide +kernel, by decide +kernel⟩
/-! Maker.alike -/
abbrev s_Maker_alike : Stmt := inClass (top 23) 10
abbrev N_Maker_alike : List Str := ["self", "one", "other", "ahead", "unlike"]
theorem sc_Maker_alike : FnScope N_Maker_alike ["self", "one", "other"] (defScope s_Maker_alike) := ⟨rfl, rfl, rfl, by decide +kernel, rfl, by decide +kernel, by decide +kernel⟩
/-! Maker.net -/
abbrev s_Maker_net : Stmt := inClass (top 23) 11
abbrev N_Maker_net : List Str := ["self", "loops", "loop", "flag"]
theorem sc_Maker_net : FnScope N_Maker_net ["self"] (defScope s_Maker_net) := ⟨rfl, rfl, rfl, by decide +kernel, rfl, by decide +kernel, by decide +kernel⟩
/-! made -/
abbrev s_made : Stmt := top 24
abbrev N_made : List Str := ["program", "number", "maker", "row"]
theorem sc_made : FnScope N_made ["program"] (defScope s_made) := ⟨rfl, rfl, rfl, by decide +kernel, rfl, by decide +kernel, by decide +kernel⟩
/-! is_cell -/
abbrev s_is_cell : Stmt := top 25
abbrev N_is_cell : List Str := ["cell", "number", "many", "form", "most", "k"]
theorem sc_is_cell : FnScope N_is_cell ["cell", "number", "many"] (defScope s_is_cell) := ⟨rfl, rfl, rfl, by decide +kernel, rfl, by decide +kernel, by decide +kernel⟩
/-! are_told -/
abbrev s_are_told : Stmt := top 26
abbrev N_are_told : List Str := ["pairs", "most", "many", "pair", "numbers", "number", "cell"]
theorem sc_are_told : FnScope N_are_told ["pairs", "most", "many"] (defScope s_are_told) := ⟨rfl, rfl, rfl, by decide +kernel, rfl, by decide +kernel, by decide +kernel⟩
/-! need_net -/
abbrev s_need_net : Stmt := top 27
abbrev N_need_net : List Str := ["net", "cells", "loops", "flags", "number"]
theorem sc_need_net : FnScope N_need_net ["net"] (defScope s_need_net) := ⟨rfl, rfl, rfl, by decide +kernel, rfl, by decide +kernel, by decide +kernel⟩
/-! beat_of -/
abbrev s_beat_of : Stmt := top 28
abbrev N_beat_of : List Str := ["cells", "kept", "bits", "is_first", "told", "cell", "word"]
theorem sc_beat_of : FnScope N_beat_of ["cells", "kept", "bits", "is_first"] (defScope s_beat_of) := ⟨rfl, rfl, rfl, by decide +kernel, rfl, by decide +kernel, by decide +kernel⟩
/-! gate -/
abbrev s_gate : Stmt := top 29
abbrev N_gate : List Str := ["word", "one", "other"]
theorem sc_gate : FnScope N_gate ["word", "one", "other"] (defScope s_gate) := ⟨rfl, rfl, rfl, by decide +kernel, rfl, by decide +kernel, by decide +kernel⟩
/-! renumbered -/
abbrev s_renumbered : Stmt := top 30
abbrev N_renumbered : List Str := ["net", "numbers", "cells", "loops", "flags", "found", "cell", "parts", "part", "told", "one", "pairs"]
theorem sc_renumbered : FnScope N_renumbered ["net", "numbers"] (defScope s_renumbered) := ⟨rfl, rfl, rfl, by decide +kernel, rfl, by decide +kernel, by decide +kernel⟩
/-! merged -/
abbrev s_merged : Stmt := top 31
abbrev N_merged : List Str := ["net", "known", "number", "numbers", "cell"]
theorem sc_merged : FnScope N_merged ["net"] (defScope s_merged) := ⟨rfl, rfl, rfl, by decide +kernel, rfl, by decide +kernel, by decide +kernel⟩
/-! without -/
abbrev s_without : Stmt := top 32
abbrev N_without : List Str := ["net", "stay", "places", "k", "cells", "loops", "flags", "number"]
theorem sc_without : FnScope N_without ["net", "stay"] (defScope s_without) := ⟨rfl, rfl, rfl, by decide +kernel, rfl, by decide +kernel, by decide +kernel⟩
/-! needed -/
abbrev s_needed : Stmt := top 33
abbrev N_needed : List Str := ["net", "cells", "loops", "flags", "found", "left", "one", "cell", "number"]
theorem sc_needed : FnScope N_needed ["net"] (defScope s_needed) := ⟨rfl, rfl, rfl, by decide +kernel, rfl, by decide +kernel, by decide +kernel⟩
/-! trimmed -/
abbrev s_trimmed : Stmt := top 34
abbrev N_trimmed : List Str := ["net", "found"]
theorem sc_trimmed : FnScope N_trimmed ["net"] (defScope s_trimmed) := ⟨rfl, rfl, rfl, by decide +kernel, rfl, by decide +kernel, by decide +kernel⟩
/-! memories -/
abbrev s_memories : Stmt := top 37
abbrev N_memories : List Str := ["net", "number"]
theorem sc_memories : FnScope N_memories ["net"] (defScope s_memories) := ⟨rfl, rfl, rfl, by decide +kernel, rfl, by decide +kernel, by decide +kernel⟩
/-! used -/
abbrev s_used : Stmt := top 38
abbrev N_used : List Str := ["net", "cell", "loop"]
theorem sc_used : FnScope N_used ["net"] (defScope s_used) := ⟨rfl, rfl, rfl, by decide +kernel, rfl, by decide +kernel, by decide +kernel⟩
/-! Pairs.__init__ -/
abbrev s_Pairs_init : Stmt := inClass (top 39) 0
abbrev N_Pairs_init : List Str := ["self", "one", "other"]
theorem sc_Pairs_init : FnScope N_Pairs_init ["self", "one", "other"] (defScope s_Pairs_init) := ⟨rfl, rfl, rfl, by decide +kernel, rfl, by decide +kernel, by decide +kernel⟩
/-! Pairs.letters -/
abbrev s_Pairs_letters : Stmt := inClass (top 39) 1
abbrev N_Pairs_letters : List Str := ["self", "found", "loop", "longer", "bits", "bit"]
theorem sc_Pairs_letters : FnScope N_Pairs_letters ["self"] (defScope s_Pairs_letters) := ⟨rfl, rfl, rfl, by decide +kernel, rfl, by decide +kernel, by decide +kernel⟩
/-! Pairs.half -/
abbrev s_Pairs_half : Stmt := inClass (top 39) 2
abbrev N_Pairs_half : List Str := ["self", "which", "kept", "bits", "net", "places", "cells", "old", "place", "bit", "told", "outs", "loops", "loop", "ends", "flags", "flag"]
theorem sc_Pairs_half : FnScope N_Pairs_half ["self", "which", "kept", "bits"] (defScope s_Pairs_half) := ⟨rfl, rfl, rfl, by decide +kernel, rfl, by decide +kernel, by decide +kernel⟩
/-! Pairs.step -/
abbrev s_Pairs_step : Stmt := inClass (top 39) 3
abbrev N_Pairs_step : List Str := ["self", "pair", "bits", "one", "mine", "other", "theirs"]
theorem sc_Pairs_step : FnScope N_Pairs_step ["self", "pair", "bits"] (defScope s_Pairs_step) := ⟨rfl, rfl, rfl, by decide +kernel, rfl, by decide +kernel, by decide +kernel⟩
/-! Pairs.go -/
abbrev s_Pairs_go : Stmt := inClass (top 39) 4
abbrev N_Pairs_go : List Str := ["self", "letters", "met", "level", "further", "pair", "row", "bits", "same", "behind"]
theorem sc_Pairs_go : FnScope N_Pairs_go ["self"] (defScope s_Pairs_go) := ⟨rfl, rfl, rfl, by decide +kernel, rfl, by decide +kernel, by decide +kernel⟩
/-! are_bits -/
abbrev s_are_bits : Stmt := top 40
abbrev N_are_bits : List Str := ["part", "many", "bit"]
theorem sc_are_bits : FnScope N_are_bits ["part", "many"] (defScope s_are_bits) := ⟨rfl, rfl, rfl, by decide +kernel, rfl, by decide +kernel, by decide +kernel⟩
/-! need_pairs -/
abbrev s_need_pairs : Stmt := top 41
abbrev N_need_pairs : List Str := ["one", "other", "pairs", "sizes", "pair", "good"]
theorem sc_need_pairs : FnScope N_need_pairs ["one", "other", "pairs"] (defScope s_need_pairs) := ⟨rfl, rfl, rfl, by decide +kernel, rfl, by decide +kernel, by decide +kernel⟩
/-! shows -/
abbrev s_shows : Stmt := top 42
abbrev N_shows : List Str := ["one", "other", "pairs", "both", "known", "pair", "letters", "bits", "same", "behind"]
theorem sc_shows : FnScope N_shows ["one", "other", "pairs"] (defScope s_shows) := ⟨rfl, rfl, rfl, by decide +kernel, rfl, by decide +kernel, by decide +kernel⟩
/-! _law_taken -/
abbrev s_law_taken : Stmt := top 44
abbrev N_law_taken : List Str := ["_law_row", "_law_many", "_law_found", "_law_cell"]
theorem sc_law_taken : FnScope N_law_taken ["_law_row", "_law_many"] (defScope s_law_taken) := ⟨rfl, rfl, rfl, by decide +kernel, rfl, by decide +kernel, by decide +kernel⟩
/-! _law_word -/
abbrev s_law_word : Stmt := top 45
abbrev N_law_word : List Str := ["_law_work", "e", "_law_kinds", "_law_word_here"]
theorem sc_law_word : FnScope N_law_word ["_law_work"] (defScope s_law_word) := ⟨rfl, rfl, rfl, by decide +kernel, rfl, by decide +kernel, by decide +kernel⟩
/-! _law_loop -/
abbrev s_law_loop : Stmt := top 46
abbrev N_law_loop : List Str := ["_law_row"]
theorem sc_law_loop : FnScope N_law_loop ["_law_row"] (defScope s_law_loop) := ⟨rfl, rfl, rfl, by decide +kernel, rfl, by decide +kernel, by decide +kernel⟩
/-! _law_constant -/
abbrev s_law_constant : Stmt := top 47
abbrev N_law_constant : List Str := ["_law_row", "_law_some"]
theorem sc_law_constant : FnScope N_law_constant ["_law_row"] (defScope s_law_constant) := ⟨rfl, rfl, rfl, by decide +kernel, rfl, by decide +kernel, by decide +kernel⟩
/-! _law_plain -/
abbrev s_law_plain : Stmt := top 48
abbrev N_law_plain : List Str := ["_law_row", "_law_way"]
theorem sc_law_plain : FnScope N_law_plain ["_law_row"] (defScope s_law_plain) := ⟨rfl, rfl, rfl, by decide +kernel, rfl, by decide +kernel, by decide +kernel⟩
/-! _law_net -/
abbrev s_law_net : Stmt := top 49
abbrev N_law_net : List Str := ["_law_row", "_law_most", "_law_loops", "_law_many", "_law_low", "_law_cells", "_law_number", "_law_way", "_law_kinds", "_law_word_here", "_law_outs", "_law_k", "_law_flags", "_law_flag"]
theorem sc_law_net : FnScope N_law_net ["_law_row", "_law_most", "_law_loops"] (defScope s_law_net) := ⟨rfl, rfl, rfl, by decide +kernel, rfl, by decide +kernel, by decide +kernel⟩
/-! _law_words -/
abbrev s_law_words : Stmt := top 50
abbrev N_law_words : List Str := ["_law_row", "_law_loop_here"]
theorem sc_law_words : FnScope N_law_words ["_law_row"] (defScope s_law_words) := ⟨rfl, rfl, rfl, by decide +kernel, rfl, by decide +kernel, by decide +kernel⟩
/-! _law_start -/
abbrev s_law_start : Stmt := top 51
abbrev N_law_start : List Str := ["_law_one", "_law_other", "_law_loops", "_law_net_here", "_law_cell", "_law_loop_here", "_law_places", "_law_k"]
theorem sc_law_start : FnScope N_law_start ["_law_one", "_law_other"] (defScope s_law_start) := ⟨rfl, rfl, rfl, by decide +kernel, rfl, by decide +kernel, by decide +kernel⟩
/-! _law_letters -/
abbrev s_law_letters : Stmt := top 52
abbrev N_law_letters : List Str := ["_law_loops", "_law_found", "_law_number", "_law_bits", "_law_k"]
theorem sc_law_letters : FnScope N_law_letters ["_law_loops"] (defScope s_law_letters) := ⟨rfl, rfl, rfl, by decide +kernel, rfl, by decide +kernel, by decide +kernel⟩
/-! _law_beat -/
abbrev s_law_beat : Stmt := top 53
abbrev N_law_beat : List Str := ["_law_net_here", "_law_places", "_law_kept", "_law_bits", "_law_cells", "_law_loops", "_law_flags", "_law_told", "_law_number", "_law_word_here", "_law_parts", "_law_some", "_law_part", "_law_gates", "_law_outs", "_law_loop_here", "_law_cell", "_law_ends", "_law_flag", "_law_place"]
theorem sc_law_beat : FnScope N_law_beat ["_law_net_here", "_law_places", "_law_kept", "_law_bits"] (defScope s_law_beat) := ⟨rfl, rfl, rfl, by decide +kernel, rfl, by decide +kernel, by decide +kernel⟩
/-! _law_both -/
abbrev s_law_both : Stmt := top 54
abbrev N_law_both : List Str := ["_law_case", "_law_pair", "_law_bits", "_law_nets", "_law_loops", "_law_places", "_law_one", "_law_other"]
theorem sc_law_both : FnScope N_law_both ["_law_case", "_law_pair", "_law_bits"] (defScope s_law_both) := ⟨rfl, rfl, rfl, by decide +kernel, rfl, by decide +kernel, by decide +kernel⟩
/-! _law_held -/
abbrev s_law_held : Stmt := top 55
abbrev N_law_held : List Str := ["_law_one", "_law_other", "_law_most", "_law_case", "_law_letters_here", "_law_met", "_law_level", "_law_width", "_law_further", "_law_pair", "_law_bits", "_law_same_here", "_law_behind"]
theorem sc_law_held : FnScope N_law_held ["_law_one", "_law_other", "_law_most"] (defScope s_law_held) := ⟨rfl, rfl, rfl, by decide +kernel, rfl, by decide +kernel, by decide +kernel⟩
/-! _law_few -/
abbrev s_law_few : Stmt := top 56
abbrev N_law_few : List Str := ["_law_row", "_law_found", "_law_k", "_law_one", "_law_part"]
theorem sc_law_few : FnScope N_law_few ["_law_row"] (defScope s_law_few) := ⟨rfl, rfl, rfl, by decide +kernel, rfl, by decide +kernel, by decide +kernel⟩
/-! _law_same -/
abbrev s_law_same : Stmt := top 57
abbrev N_law_same : List Str := ["_law_row", "_law_one", "_law_word_here", "_law_r", "_law_p", "_law_ways", "_law_q", "_law_both_here"]
theorem sc_law_same : FnScope N_law_same ["_law_row", "_law_one"] (defScope s_law_same) := ⟨rfl, rfl, rfl, by decide +kernel, rfl, by decide +kernel, by decide +kernel⟩
/-! _law_moved -/
abbrev s_law_moved : Stmt := top 58
abbrev N_law_moved : List Str := ["_law_one", "_law_far", "_law_begin", "_law_end", "_law_part"]
theorem sc_law_moved : FnScope N_law_moved ["_law_one", "_law_far"] (defScope s_law_moved) := ⟨rfl, rfl, rfl, by decide +kernel, rfl, by decide +kernel, by decide +kernel⟩
/-! _law_late -/
abbrev s_law_late : Stmt := top 59
abbrev N_law_late : List Str := ["_law_row", "_law_many", "_law_cells", "_law_k", "_law_loop_here"]
theorem sc_law_late : FnScope N_law_late ["_law_row"] (defScope s_law_late) := ⟨rfl, rfl, rfl, by decide +kernel, rfl, by decide +kernel, by decide +kernel⟩
/-! _law_two -/
abbrev s_law_two : Stmt := top 60
abbrev N_law_two : List Str := ["_law_row", "_law_some", "_law_other", "_law_one", "_law_last", "_law_far", "_law_nets", "_law_rows"]
theorem sc_law_two : FnScope N_law_two ["_law_row"] (defScope s_law_two) := ⟨rfl, rfl, rfl, by decide +kernel, rfl, by decide +kernel, by decide +kernel⟩
/-! _law_shows -/
abbrev s_law_shows : Stmt := top 61
abbrev N_law_shows : List Str := ["_law_one", "_law_other", "_law_pairs", "_law_case", "_law_known", "_law_pair", "_law_bits", "_law_same_here", "_law_behind"]
theorem sc_law_shows : FnScope N_law_shows ["_law_one", "_law_other", "_law_pairs"] (defScope s_law_shows) := ⟨rfl, rfl, rfl, by decide +kernel, rfl, by decide +kernel, by decide +kernel⟩
/-! _law_bent -/
abbrev s_law_bent : Stmt := top 62
abbrev N_law_bent : List Str := ["_law_row", "_law_pairs", "_law_sizes", "_law_way", "_law_new", "_law_k", "_law_size", "_law_at"]
theorem sc_law_bent : FnScope N_law_bent ["_law_row", "_law_pairs", "_law_sizes"] (defScope s_law_bent) := ⟨rfl, rfl, rfl, by decide +kernel, rfl, by decide +kernel, by decide +kernel⟩
/-! _law_are_apart -/
abbrev s_law_are_apart : Stmt := top 63
abbrev N_law_are_apart : List Str := ["_law_one", "_law_other", "_law_cell", "_law_pairs"]
theorem sc_law_are_apart : FnScope N_law_are_apart [] (defScope s_law_are_apart) := ⟨rfl, rfl, rfl, by decide +kernel, rfl, by decide +kernel, by decide +kernel⟩
/-! law -/
abbrev s_law : Stmt := top 64
abbrev N_law : List Str := ["_law_script", "_law_row", "_law_turn", "_law_one", "_law_other", "_law_held_here", "_law_sizes", "_law_cell", "_law_net_here", "_law_again", "_law_pairs", "_law_change", "_law_handed", "_law_found", "_law_bits", "_law_k", "_law_size", "_law_odd", "_law_bad", "_law_at"]
theorem sc_law : FnScope N_law ["_law_script"] (defScope s_law) := ⟨rfl, rfl, rfl, by decide +kernel, rfl, by decide +kernel, by decide +kernel⟩

/-! ### a promise for each set of loops -/
def U (sp : (Nat → Prop) → Sp) : Sp := fun vs H Q E => ∃ S, sp S vs H Q E
instance arU {n : Nat} {sp : (Nat → Prop) → Sp} [h : ∀ S, Ar (sp S) n] : Ar (U sp) n := ⟨by rintro vs H Q E ⟨S, z⟩; exact (h S).ar vs H Q E z⟩
section
variable {P : Program} {w : World} {K : PySem.W.Frag} {mg : Str → Option Value} {base : Heap} {CX : CXT} {k : Nat} {C : Addr} {x : Str} {sp : (Nat → Prop) → Sp}
theorem _root_.B.Cal.at (c : Cal P w K mg base CX k x (U sp)) (S : Nat → Prop) : Cal P w K mg base CX k x (sp S) := by
  obtain ⟨f, fd, ps, F, r⟩ := c.ex
  exact ⟨f, fd, ps, F.imp fun vs H Q E h => ⟨S, h⟩, r⟩
theorem _root_.B.Met.at (c : Met P w K mg base CX k C x (U sp)) (S : Nat → Prop) : Met P w K mg base CX k C x (sp S) := by
  obtain ⟨f, fd, ps, a, b, F, r⟩ := c.ex
  exact ⟨f, fd, ps, a, b, F.imp fun vs H Q E h => ⟨S, h⟩, r⟩
theorem _root_.B.Mak.at (c : Mak P w K mg base CX k x C (U sp)) (S : Nat → Prop) : Mak P w K mg base CX k x C (sp S) := by
  obtain ⟨f, fd, ps, a, F, r⟩ := c.ex
  exact ⟨f, fd, ps, a, F.imp fun vs H Q E h => ⟨S, h⟩, r⟩
end
/-! ### the data: rows -/
abbrev nt (n : Nat) : V := .int (n : Int)
inductive O1 | move | inv | twice | half
inductive O2 | add | take | and | or | odd
inductive Ins
  | put (r n : Nat) | one (o : O1) (r p : Nat) | two (o : O2) (r p q : Nat) | less (f p q : Nat) | same (f p q : Nat) | pick (r f p q : Nat)
  | inn (r : Nat) | out (r : Nat) | jump (j : Nat) | when (f j : Nat) | fin
def O1.nm : O1 → Str
  | .move => "move" | .inv => "not" | .twice => "twice" | .half => "half"
def O2.nm : O2 → Str
  | .add => "add" | .take => "take" | .and => "and" | .or => "or" | .odd => "odd"
def Ins.nm : Ins → Str
  | .put .. => "put" | .one o .. => o.nm | .two o .. => o.nm | .less .. => "less" | .same .. => "same" | .pick .. => "pick" | .inn .. => "in" | .out .. => "out" | .jump .. => "jump" | .when .. => "when" | .fin => "end"
/-- the sorts of its parts: r 114, n 110, f 102, j 106 -/
def Ins.form : Ins → List Nat
  | .put .. => [114, 110] | .one .. => [114, 114] | .two .. => [114, 114, 114] | .less .. => [102, 114, 114] | .same .. => [102, 114, 114] | .pick .. => [114, 102, 114, 114] | .inn .. => [114] | .out .. => [114] | .jump .. => [106] | .when .. => [102, 106] | .fin => []
def Ins.args : Ins → List Nat
  | .put r n => [r, n] | .one _ r p => [r, p] | .two _ r p q => [r, p, q] | .less f p q => [f, p, q] | .same f p q => [f, p, q] | .pick r f p q => [r, f, p, q] | .inn r => [r] | .out r => [r] | .jump j => [j] | .when f j => [f, j] | .fin => []
def Ins.vals (i : Ins) : List V := .str i.nm :: i.args.map nt
def cap (rows c : Nat) : Nat := if c = 114 then 8 else if c = 102 then 4 else if c = 110 then 16777216 else rows
def Ins.ok (rows : Nat) (i : Ins) : Prop := ∀ (k c n : Nat), i.form[k]? = some c → i.args[k]? = some n → n < cap rows c
theorem Ins.len (i : Ins) : i.args.length = i.form.length := by cases i <;> rfl
structure ProgAt (H : Hp) (a : Addr) (prog : List Ins) (ads : List Addr) : Prop where
  at_ : H a = some (.tup (ads.map V.ref))
  len : ads.length = prog.length
  row : ∀ (i : Nat) (ad : Addr) (ins : Ins), ads[i]? = some ad → prog[i]? = some ins → H ad = some (.tup ins.vals)
structure ProgOk (prog : List Ins) : Prop where
  ne : prog ≠ []
  le : prog.length ≤ 60
  ok : ∀ i ∈ prog, i.ok prog.length
/-! ### cells, nets -/
inductive G2 | and | or | odd
  deriving DecidableEq
inductive Cell | none | first | bit (r : Nat) | inv (c : Nat) | gate (g : G2) (a b : Nat) | later (l : Nat)
  deriving DecidableEq
def G2.nm : G2 → Str
  | .and => "and" | .or => "or" | .odd => "odd"
def Cell.nm : Cell → Str
  | .none => "none" | .first => "first" | .bit _ => "bit" | .inv _ => "not" | .gate g _ _ => g.nm | .later _ => "later"
def Cell.args : Cell → List Nat
  | .none => [] | .first => [] | .bit r => [r] | .inv c => [c] | .gate _ a b => [a, b] | .later l => [l]
/-- the sorts: r 114, c 99, l 108 -/
def Cell.form : Cell → List Nat
  | .none => [] | .first => [] | .bit _ => [114] | .inv _ => [99] | .gate _ _ _ => [99, 99] | .later _ => [108]
def Cell.vals (c : Cell) : List V := .str c.nm :: c.args.map nt
def Cell.key (c : Cell) : List L2.Key := Sum.inr c.nm :: c.args.map fun n : Nat => (Sum.inl (n : Int) : L2.Key)
theorem Cell.key_vals (c : Cell) : c.key.map kV = c.vals := by cases c <;> rfl
theorem Cell.len (c : Cell) : c.args.length = c.form.length := by cases c <;> rfl
/-- a cell at the place i of so many, its loops in S -/
def Cell.ok (S : Nat → Prop) (i many : Nat) : Cell → Prop
  | .none => True | .first => True | .bit r => r < 8 ∧ S r | .inv c => c < i | .gate _ a b => a < i ∧ b < i | .later l => l < many
theorem Cell.ok.more {S : Nat → Prop} {i m m2 : Nat} (h : m ≤ m2) : ∀ {c : Cell}, c.ok S i m → c.ok S i m2
  | .none, _ => trivial
  | .first, _ => trivial
  | .bit _, q => q
  | .inv _, q => q
  | .gate _ _ _, q => q
  | .later _, q => Nat.lt_of_lt_of_le q h
structure Ads where
  F : Addr
  C : Addr
  S : Addr
def straight : List Str := ["put", "move", "not", "twice", "add", "take", "and", "or", "odd", "less", "same"]
structure Txt (K : PySem.W.Frag) (w : World) (mg : Str → Option Value) (d : Ads) : Prop where
  n_isinstance : mg "isinstance" = none
  n_int : mg "int" = none
  n_bool : mg "bool" = none
  n_str : mg "str" = none
  n_tuple : mg "tuple" = none
  n_list : mg "list" = none
  n_len : mg "len" = none
  n_range : mg "range" = none
  n_max : mg "max" = none
  n_sorted : mg "sorted" = none
  n_set : mg "set" = none
  n_dict : mg "dict" = none
  n_sum : mg "sum" = none
  n_zip : mg "zip" = none
  c_LOOPS : ∃ u, mg "LOOPS" = some u ∧ RelV (.int 8) u
  c_FLAGS : ∃ u, mg "FLAGS" = some u ∧ RelV (.int 4) u
  c_MOST_ROWS : ∃ u, mg "MOST_ROWS" = some u ∧ RelV (.int 60) u
  c_WORDS : ∃ u, mg "WORDS" = some u ∧ RelV (.int 16777216) u
  c_MOST_CELLS : ∃ u, mg "MOST_CELLS" = some u ∧ RelV (.int 3000) u
  c_STRAIGHT : ∃ u, mg "STRAIGHT" = some u ∧ RelV (.ref d.S) u
  d_FORMS : ∃ u, mg "FORMS" = some u ∧ RelV (.ref d.F) u
  d_CELLS : ∃ u, mg "CELLS" = some u ∧ RelV (.ref d.C) u
  k_FORMS : KD K w d.F
  k_CELLS : KD K w d.C
  forms : ∀ i : Ins, ∃ t, PySem.W.nsIn K d.F i.nm = some (some (.str ⟨i.form.toArray⟩ t))
  cforms : ∀ c : Cell, ∃ t, PySem.W.nsIn K d.C c.nm = some (some (.str ⟨c.form.toArray⟩ t))
  st_seq : ∀ H : Hp, SqT K H d.S (straight.map V.str)
section
variable {P : Program} {w : World} {K : PySem.W.Frag} {mg : Str → Option Value} {base : Heap} {d : Ads}
def pIsNumber : V → V → V → Hp → VK → XK → Prop := fun a b c H Q _ => ∃ x lo hi : Int, a = .int x ∧ b = .int lo ∧ c = .int hi ∧ Q (.bl (decide (lo ≤ x ∧ x ≤ hi))) H
theorem ok_is_number (G : Txt K w mg d) (D : Df K mg "is_number" s_is_number ["part", "low", "high"]) : Cal P w K mg base CX0 1 "is_number" (sp3 pIsNumber) := by
  refine cal0 D sc_is_number rfl fun f cdv A outer s H vs Q E hr h => ?_
  obtain ⟨_, _, _, rfl, x, lo, hi, rfl, rfl, rfl, q⟩ := h
  refine ⟨_, (pss_one (ps_ret (pe_and (pe_callB (isi1 K) (by rfl) G.n_isinstance (by decide +kernel) (pa_cons (pv 0) (pa_cons (pe_bltn (v := .ty "int") (by rfl) G.n_int (by decide +kernel) rfl) pa_nil))) (pe_and (pe_not (pe_callB (isi1 K) (by rfl) G.n_isinstance (by decide +kernel) (pa_cons (pv 0) (pa_cons (pe_bltn (v := .ty "bool") (by rfl) G.n_bool (by decide +kernel) rfl) pa_nil)))) (pe_one (pe_chain op_le op_le (pv 1) (pv 0) (pv 2))))))), ?_⟩
  refine B.x_start (σ' := [some (.int x), some (.int lo), some (.int hi)]) rfl ?_
  walk_at "go"
  refine x_ite (fun h1 => ?_) (fun h1 => ?_)
  · walk_at "go"
    rw [show (decide (lo ≤ x ∧ x ≤ hi)) = decide (x ≤ hi) by simp at h1; simp [h1]] at q
    exact q
  · rw [show (decide (lo ≤ x ∧ x ≤ hi)) = false by simp at h1; simp; omega] at q
    exact q
end
end K7
namespace K7
open PySem PySem.Spec PyProof.Rows L2 B
section
variable {P : Program} {w : World} {K : PySem.W.Frag} {mg : Str → Option Value} {base : Heap} {d : Ads}
/-- one sign of a form -/
def capI (rows : Int) (c : Nat) : Int := if c = 114 then 7 else if c = 102 then 3 else if c = 110 then 16777215 else rows - 1
def pIsPart : V → V → V → Hp → VK → XK → Prop := fun a b c H Q _ => ∃ (x rows : Int) (s : Nat), a = .int x ∧ b = .str ⟨#[s]⟩ ∧ c = .int rows ∧ (s = 114 ∨ s = 102 ∨ s = 110 ∨ s = 106) ∧ 0 ≤ x ∧ x ≤ capI rows s ∧ ∀ H', Kp No H H' → Q (.bl true) H'
theorem cap_dict (rows : Int) (s : Nat) (h : s = 114 ∨ s = 102 ∨ s = 110 ∨ s = 106) : valV (mergeK [] [((Sum.inr "r" : Key), V.int (8 - 1)), (Sum.inr "f", V.int (4 - 1)), (Sum.inr "n", V.int (16777216 - 1)), (Sum.inr "j", V.int (rows - 1))]) (Sum.inr ⟨#[s]⟩) = some (.int (capI rows s)) := by
  rcases h with rfl | rfl | rfl | rfl <;> rfl
theorem ok_is_part (G : Txt K w mg d) (D : Df K mg "is_part" s_is_part ["part", "sort", "rows"]) (c_is_number : Cal P w K mg base CX0 1 "is_number" (sp3 pIsNumber)) : Cal P w K mg base CX0 2 "is_part" (sp3 pIsPart) := by
  refine cal0 D sc_is_part rfl fun f cdv A outer s H vs Q E hr h => ?_
  obtain ⟨_, _, _, rfl, x, rows, z, rfl, rfl, rfl, hz, h0, h1, q⟩ := h
  refine ⟨_, (pss_cons (ps_set (i := 3) sc_is_part.nd rfl (Or.inl rfl) (pe_dget (hu_of hr) (pe_disp (pps_cons pe_str (pe_op op_sub (pe_gc (by rfl) G.c_LOOPS) pe_int) (pps_cons pe_str (pe_op op_sub (pe_gc (by rfl) G.c_FLAGS) pe_int) (pps_cons pe_str (pe_op op_sub (pe_gc (by rfl) G.c_WORDS) pe_int) (pps_cons pe_str (pe_op op_sub (pv 2) pe_int) pps_nil)))) (by rfl) (by rfl) (fun z => by cases z) (by decide)) (pv 1) (fun _ _ => rfl)))
    (pss_one (ps_ret (pe_c c_is_number hr (by first | decide | omega) (by rfl) pass0 (pa_cons (pv 0) (pa_cons pe_int (pa_cons (pv 3) pa_nil))))))), ?_⟩
  refine B.x_start (σ' := [some (.int x), some (.str ⟨#[z]⟩), some (.int rows), none]) rfl ?_
  walk_at "go"
  intro p hp
  walk_at "go"
  refine ⟨upd_same, [((Sum.inr "r" : Key), V.int (8 - 1)), (Sum.inr "f", V.int (4 - 1)), (Sum.inr "n", V.int (16777216 - 1)), (Sum.inr "j", V.int (rows - 1))], rfl, by show 4 ≤ 15; decide, ?_⟩
  walk_at "go"
  refine ⟨p, _, rfl, .inl ⟨_, Sum.inr ⟨#[z]⟩, .inl upd_same, rfl, (cap_dict rows z hz).symm⟩, ?_⟩
  walk_at "go"
  exact ⟨x, 0, capI rows z, rfl, rfl, rfl, by rw [decide_eq_true (show 0 ≤ x ∧ x ≤ capI rows z from ⟨h0, h1⟩)]; exact q _ ((Kp.new hp).old hp)⟩
/-! is_row: of a row that can be -/
def pIsRow (K : PySem.W.Frag) : V → V → Hp → VK → XK → Prop := fun a b H Q _ => ∃ (p : Addr) (i : Ins) (rows : Nat), a = .ref p ∧ b = nt rows ∧ H p = some (.tup i.vals) ∧ i.ok rows ∧ ∀ H', Kp No H H' → Q (.bl true) H'
def names18 : List Str := ["put", "move", "not", "twice", "half", "add", "take", "and", "or", "odd", "less", "same", "pick", "in", "out", "jump", "when", "end"]
theorem Ins.nm_in (i : Ins) : i.nm ∈ names18 := by
  cases i with
  | one o _ _ => cases o <;> simp [Ins.nm, O1.nm, names18]
  | two o _ _ _ => cases o <;> simp [Ins.nm, O2.nm, names18]
  | _ => simp [Ins.nm, names18]
theorem names_ok : ∀ x ∈ names18, PyData.strOk x = true := by decide +kernel
theorem Ins.nm_ok (i : Ins) : PyData.strOk i.nm = true := names_ok _ i.nm_in
theorem Ins.flat (i : Ins) : i.vals.all okF = true := by
  rw [show i.vals = .str i.nm :: i.args.map nt from rfl, List.all_cons, Bool.and_eq_true]
  refine ⟨i.nm_ok, List.all_eq_true.mpr fun x hx => ?_⟩
  obtain ⟨n, _, rfl⟩ := List.mem_map.mp hx
  rfl
theorem Ins.sorts (i : Ins) : ∀ c ∈ i.form, c = 114 ∨ c = 102 ∨ c = 110 ∨ c = 106 := by
  cases i <;> simp [Ins.form]
theorem Ins.few (i : Ins) : i.form.length ≤ 4 := by cases i <;> simp [Ins.form]
theorem Ins.at_ {i : Ins} {k n : Nat} (h : i.args[k]? = some n) : i.vals[k + 1]? = some (nt n) := by
  show (i.args.map nt)[k]? = _
  rw [List.getElem?_map, h]
  rfl
theorem ok_is_row (G : Txt K w mg d) (D : Df K mg "is_row" s_is_row ["row", "rows"]) (c_is_part : Cal P w K mg base CX0 2 "is_part" (sp3 pIsPart)) : Cal P w K mg base CX0 3 "is_row" (sp2 (pIsRow K)) := by
  refine cal0 D sc_is_row rfl fun f cdv A outer s H vs Q E hr h => ?_
  obtain ⟨_, _, rfl, p, i, rows, rfl, rfl, hp, ok, q⟩ := h
  refine ⟨_, (pss_cons (ps_if (PW.pt (pw_or (pt_not (pt_val (pe_callB (isi1 K) (by rfl) G.n_isinstance (by decide +kernel) (pa_cons (pv 0) (pa_cons (pe_bltn (v := .ty "tuple") (by rfl) G.n_tuple (by decide +kernel) rfl) pa_nil))))) (pw_or (pt_cmpR (eqD K hr.units) (pv 0) (pe_tup pa_nil) (nomark _)) (pw_or (pt_not (pt_val (pe_callB (isi1 K) (by rfl) G.n_isinstance (by decide +kernel) (pa_cons (pe_ix (ixT K) (pv 0) pe_int (fun _ _ => rfl)) (pa_cons (pe_bltn (v := .ty "str") (by rfl) G.n_str (by decide +kernel) rfl) pa_nil))))) (pw_or1 (pt_cmpR (ninKD K G.k_FORMS) (pe_ix (ixT K) (pv 0) pe_int (fun _ _ => rfl)) (pe_gc (by rfl) G.d_FORMS) (by rfl)))))))
      (pss_one (ps_ret pe_bl))
      pss_nil)
    (pss_cons (ps_set (i := 2) sc_is_row.nd rfl (Or.inr rfl) (pe_ix (ixKD K G.k_FORMS) (pe_gc (by rfl) G.d_FORMS) (pe_ix (ixT K) (pv 0) pe_int (fun _ _ => rfl)) (fun _ _ => rfl)))
    (pss_cons (ps_if (pt_cmpR op_ne (pe_callB (lenS K) (by rfl) G.n_len (by decide +kernel) (pa_cons (pv 0) pa_nil)) (pe_op op_add (pe_callB call_len_str (by rfl) G.n_len (by decide +kernel) (pa_cons (pv 2) pa_nil)) pe_int) (nomark _))
      (pss_one (ps_ret pe_bl))
      pss_nil)
    (pss_one (ps_ret (pe_cmpR (eqD K hr.units) (pe_lc (own := [("k", 3)]) (g := gName 3) rfl sc_is_row.nd (pi_range1 (by rfl) G.n_range (pa_cons (pe_callB call_len_str (by rfl) G.n_len (by decide +kernel) (pa_cons (pv 2) pa_nil)) pa_nil)) (blkOk_by (own := [("k", 3)]) (N := N_is_row) (sc := defScope s_is_row) (by decide +kernel)) (fun _ _ _ _ _ => (pg_name (i := 3) sc_is_row.nd rfl (Or.inl rfl))) (fun _ _ _ _ _ => pts_one (pt_not (pt_val (pe_c c_is_part hr (by first | decide | omega) (by rfl) pass0 (pa_cons (pe_ix (ixT K) (pv 0) (pe_op op_add (pv 3) pe_int) (fun _ _ => rfl)) (pa_cons (pe_ix ix_str (pv 2) (pv 3) (fun _ _ => rfl)) (pa_cons (pv 1) pa_nil))))))) (fun _ _ _ _ _ => (pv 3))) (pe_lst pa_nil) (nomark _))))))), ?_⟩
  refine B.x_start (σ' := [some (.ref p), some (nt rows), none, none]) rfl ?_
  have e0 : atI i.vals 0 = some (.str i.nm) := atI_nat (j := 0) rfl
  obtain ⟨tk, hF⟩ := G.forms i
  walk_at "go"
  intro e he
  have npe : p ≠ e := ne_of_none hp he
  have hf := i.flat
  have hs : ∀ H' : Hp, Kp No H H' → H' p = some (.tup i.vals) := fun H' k => k.at0 hp
  refine x_eqNilT (SqT.of (by walk_at "hp")) (SqT.of upd_same) hf ?_
  have hp1 : (upd H e (HO.tup [])) p = some (.tup i.vals) := by walk_at "hp"
  walk_at "go"
  refine x_ninKD hF ?_
  walk_at "go"
  refine x_ixKD (v := .str ⟨i.form.toArray⟩) hF ⟨_, rfl⟩ ?_
  have hz : (⟨i.form.toArray⟩ : Str).length ≤ sizeLine := Nat.le_trans (show i.form.toArray.size ≤ 4 by rw [List.size_toArray]; exact i.few) (by decide)
  have el : (((⟨i.form.toArray⟩ : Str).length : Nat) : Int) = (i.args.length : Int) := by
    show ((i.form.toArray.size : Nat) : Int) = _
    rw [List.size_toArray, i.len]
  have ev : ((i.vals.length : Nat) : Int) = (i.args.length : Int) + 1 := by
    show (((i.args.map nt).length + 1 : Nat) : Int) = _
    rw [List.length_map]
    rfl
  walk_at "go"
  refine x_lenS hz ?_
  walk_at "go"
  refine x_no (by rw [ev, el]; simp) ?_
  walk_at "go"
  refine x_lenS hz ?_
  rw [el]
  walk_at "go"
  have few : i.args.length ≤ 4 := by rw [i.len]; exact i.few
  refine x_eR1 (n := (i.args.length : Int)) ⟨by omega, by omega⟩ ?_
  refine lc_r (n := i.args.length) (fun D k H' => Kp No (upd H e (.tup [])) H' ∧ H' D = some (.lst [])) (fun D hD => ⟨.new hD, upd_same⟩) ?_ ?_
  · rintro D k H' hD hk ⟨k1, k2⟩
    obtain ⟨n, hn⟩ : ∃ n, i.args[k]? = some n := ⟨i.args[k], List.getElem?_eq_getElem hk⟩
    obtain ⟨c, hc⟩ : ∃ c, i.form[k]? = some c := ⟨i.form[k]'(by rw [← i.len]; exact hk), List.getElem?_eq_getElem _⟩
    have hcap := ok k c n hc hn
    have hcs := i.sorts c (List.mem_of_getElem? hc)
    have e1 : atI i.vals ((k : Int) + 1) = some (nt n) := atI_nat (j := k + 1) (i.at_ hn)
    have e2 : atI (⟨i.form.toArray⟩ : Str).cps.toList (k : Int) = some c := atI_nat (j := k) hc
    have hp2 := k1.at0 hp1
    walk_at "go"
    refine ⟨rfl, ?_⟩
    walk_at "go"
    refine x_ixS hz e2 ?_
    walk_at "go"
    refine ⟨(n : Int), (rows : Int), c, rfl, rfl, rfl, hcs, by omega, ?_, fun H'' k3 => ?_⟩
    · rcases hcs with rfl | rfl | rfl | rfl <;> simp [capI, cap] at hcap ⊢ <;> omega
    · walk_at "go"
      exact ⟨k1.trans k3, k3.at0 k2⟩
  · rintro D H' hD ⟨k1, k2⟩
    walk_at "go"
    intro l hl
    walk_at "go"
    exact q _ (((Kp.new he).trans k1).trans (.new hl))
/-! need_program -/
def pNeedProgram : V → Hp → VK → XK → Prop := fun a H Q _ => ∃ (p : Addr) (prog : List Ins) (ads : List Addr), a = .ref p ∧ ProgAt H p prog ads ∧ ProgOk prog ∧ ∀ H', Kp No H H' → Q .non H'
def progD (prog : List Ins) : List PyData := prog.map fun i => .tuple (i.vals.map fd)
theorem lay_prog : ∀ prog : List Ins, PyData.canLayAll0 (progD prog) = true
  | [] => by simp [progD, PyData.canLayAll0]
  | i :: r => by
    have ih := lay_prog r
    show PyData.canLayAll0 (.tuple (i.vals.map fd) :: progD r) = true
    rw [PyData.canLayAll0, ih, Bool.and_true, PyData.canLay0]
    exact lay_flat i.flat
theorem depth_prog : ∀ prog : List Ins, PyData.depthAll (progD prog) ≤ 1
  | [] => by simp [progD, PyData.depthAll]
  | i :: r => by
    have ih := depth_prog r
    show PyData.depthAll (.tuple (i.vals.map fd) :: progD r) ≤ 1
    rw [PyData.depthAll, PyData.depth, depth_flat]
    omega
theorem shaped_prog (prog : List Ins) : SeqAt.shaped (.tuple (progD prog)) = true := by
  unfold SeqAt.shaped
  rw [Bool.and_eq_true]
  refine ⟨by rw [PyData.canLay0]; exact lay_prog prog, decide_eq_true ?_⟩
  rw [PyData.depth]
  have := depth_prog prog
  omega
theorem dpAll_prog {K : PySem.W.Frag} {H : Hp} : ∀ {ads : List Addr} {prog : List Ins}, ads.length = prog.length → (∀ (i : Nat) (ad : Addr) (ins : Ins), ads[i]? = some ad → prog[i]? = some ins → H ad = some (.tup ins.vals)) → DpAll K H (ads.map V.ref) (progD prog)
  | [], [], _, _ => .nil
  | a :: ads, i :: prog, hl, h => .cons (.tup (SqT.of (h 0 a i rfl rfl)) (dpAll_flat i.flat)) (dpAll_prog (by simpa using hl) fun k ad ins h1 h2 => h (k + 1) ad ins (by simpa using h1) (by simpa using h2))
theorem ProgAt.keep {M : Addr → Prop} {H H' : Hp} {a : Addr} {prog : List Ins} {ads : List Addr} (h : ProgAt H a prog ads) (k : Kp M H H') (n : ¬ M a) (ns : ∀ b ∈ ads, ¬ M b) : ProgAt H' a prog ads :=
  ⟨k.at h.at_ n, h.len, fun i ad ins h1 h2 => k.at (h.row i ad ins h1 h2) (ns ad (List.mem_of_getElem? h1))⟩
theorem ProgAt.keep0 {H H' : Hp} {a : Addr} {prog : List Ins} {ads : List Addr} (h : ProgAt H a prog ads) (k : Kp No H H') : ProgAt H' a prog ads := h.keep k (fun z => z) fun _ _ z => z
theorem ok_need_program (G : Txt K w mg d) (D : Df K mg "need_program" s_need_program ["program"]) (c_is_row : Cal P w K mg base CX0 3 "is_row" (sp2 (pIsRow K))) : Cal P w K mg base CX0 4 "need_program" (sp1 pNeedProgram) := by
  refine cal0 D sc_need_program rfl fun f cdv A outer s H vs Q E hr h => ?_
  obtain ⟨_, rfl, p, prog, ads, rfl, hp, ok, q⟩ := h
  refine ⟨_, (pss_cons (ps_if (PW.pt (pw_or (pt_not (pt_val (pe_callB (isi1 K) (by rfl) G.n_isinstance (by decide +kernel) (pa_cons (pv 0) (pa_cons (pe_bltn (v := .ty "tuple") (by rfl) G.n_tuple (by decide +kernel) rfl) pa_nil))))) (pw_or1 (pt_cmpR (eqD K hr.units) (pv 0) (pe_tup pa_nil) (nomark _)))))
      (pss_one ps_never)
      pss_nil)
    (pss_one (ps_for PassesOwn.never rfl (pi_range1 (by rfl) G.n_range (pa_cons (pe_callB (lenS K) (by rfl) G.n_len (by decide +kernel) (pa_cons (pv 0) pa_nil)) pa_nil)) (pg_name (i := 1) sc_need_program.nd rfl (Or.inl rfl))
      (pss_one (ps_if (PW.pt (pw_or (pt_cmpR op_ge (pv 1) (pe_gc (by rfl) G.c_MOST_ROWS) (nomark _)) (pw_or1 (pt_not (pt_val (pe_c c_is_row hr (by first | decide | omega) (by rfl) pass0 (pa_cons (pe_ix (ixT K) (pv 0) (pv 1) (fun _ _ => rfl)) (pa_cons (pe_callB (lenS K) (by rfl) G.n_len (by decide +kernel) (pa_cons (pv 0) pa_nil)) pa_nil))))))))
        (pss_one ps_never)
        pss_nil))))), ?_⟩
  refine B.x_start (σ' := [some (.ref p), none]) rfl ?_
  have hp0 := hp.at_
  have hle : prog.length ≤ 60 := ok.le
  have hpos : 0 < prog.length := List.length_pos_iff.mpr ok.ne
  have hlen : ads.length = prog.length := hp.len
  have el : (((ads.map V.ref).length : Nat) : Int) = (prog.length : Int) := by rw [List.length_map, hlen]
  walk_at "go"
  intro l hl
  have k0 : Kp No H (upd H l (.tup [])) := .new hl
  have hp1 := hp.keep0 k0
  refine x_eqNilTD (.tup (SqT.of hp1.at_) (dpAll_prog hp1.len hp1.row)) (shaped_prog prog) (SqT.of upd_same) ?_
  walk_at "go"
  refine x_no (by cases prog with | nil => exact absurd hpos (by simp) | cons a b => rfl) ?_
  have hp1a := hp1.at_
  walk_at "go"
  rw [el]
  refine fr_r (n := prog.length) (fun i σ H' => ∃ o, σ = [some (V.ref p), o] ∧ Kp No H H') ⟨_, rfl, k0⟩ ?_ ?_
  · rintro i σ H' hi ⟨o, rfl, k1⟩
    have hp2 := hp.keep0 k1
    have hp2a := hp2.at_
    obtain ⟨ins, hins⟩ : ∃ ins, prog[i]? = some ins := ⟨prog[i], List.getElem?_eq_getElem hi⟩
    obtain ⟨ad, had⟩ : ∃ ad, ads[i]? = some ad := ⟨ads[i]'(by rw [hlen]; exact hi), List.getElem?_eq_getElem _⟩
    have hrow := hp2.row i ad ins had hins
    have e1 : atI (ads.map V.ref) (i : Int) = some (.ref ad) := atI_nat (j := i) (by rw [List.getElem?_map, had]; rfl)
    walk_at "go"
    refine x_no (by simp; omega) ?_
    walk_at "go"
    rw [el]
    refine ⟨ad, ins, prog.length, rfl, rfl, hrow, ok.ok ins (List.mem_of_getElem? hins), fun H2 k2 => ?_⟩
    walk_at "go"
    exact ⟨_, rfl, k1.trans k2⟩
  · rintro σ H' ⟨o, rfl, k1⟩
    walk_at "go"
    exact q _ k1
end
end K7
namespace K7
open PySem PySem.Spec PyProof.Rows L2 B
/-! ### the maker -/
structure MAd where
  x : Addr
  C : Addr
  dx : Addr
  c : Addr
  l : Addr
  f : Addr
  k : Addr
def MAd.mem (a : MAd) : Addr → Prop := fun b => b = a.c ∨ b = a.l ∨ b = a.f ∨ b = a.k
def mkF (a : MAd) : List (Str × V) := [("cells", .ref a.c), ("loops", .ref a.l), ("flags", .ref a.f), ("known", .ref a.k)]
/-- a dict from places to cells -/
def dOf (ps : List (Nat × Nat)) : List (L2.Key × V) := ps.map fun p => (Sum.inl (p.1 : Int), nt p.2)
structure Dok (P : Nat → Prop) (n : Nat) (ps : List (Nat × Nat)) : Prop where
  at_ : ∀ p ∈ ps, P p.1 ∧ p.2 < n
  nd : (ps.map (·.1)).Nodup
theorem Dok.more {P : Nat → Prop} {n m : Nat} {ps : List (Nat × Nat)} (h : Dok P n ps) (hm : n ≤ m) : Dok P m ps := ⟨fun p hp => ⟨(h.at_ p hp).1, Nat.lt_of_lt_of_le (h.at_ p hp).2 hm⟩, h.nd⟩
theorem Dok.few {P : Nat → Prop} {n m : Nat} {ps : List (Nat × Nat)} (h : Dok P n ps) (hP : ∀ r, P r → r < m) : ps.length ≤ m := by
  have q := nat_nodup_len (ps.map (·.1)) (List.range m) h.nd fun x hx => by
    obtain ⟨p, hp, rfl⟩ := List.mem_map.mp hx
    exact List.mem_range.mpr (hP _ (h.at_ p hp).1)
  simpa using q
def pPut (ps : List (Nat × Nat)) (r v : Nat) : List (Nat × Nat) := if r ∈ ps.map (·.1) then ps.map (fun p => if p.1 = r then (p.1, v) else p) else ps ++ [(r, v)]
theorem put_dOf (ps : List (Nat × Nat)) (r v : Nat) : putK (dOf ps) (Sum.inl (r : Int)) (nt v) = dOf (pPut ps r v) := by
  have e : ((dOf ps).any fun kv => decide (kv.1 = (Sum.inl (r : Int) : L2.Key))) = decide (r ∈ ps.map (·.1)) := by
    rw [Bool.eq_iff_iff, List.any_eq_true, decide_eq_true_iff]
    constructor
    · rintro ⟨kv, hkv, q⟩
      obtain ⟨p, hp, rfl⟩ := List.mem_map.mp hkv
      have q2 : (p.1 : Int) = (r : Int) := Sum.inl.inj (of_decide_eq_true q)
      exact List.mem_map.mpr ⟨p, hp, by omega⟩
    · intro h
      obtain ⟨p, hp, e2⟩ := List.mem_map.mp h
      exact ⟨_, List.mem_map.mpr ⟨p, hp, rfl⟩, by simp [e2]⟩
  unfold putK pPut
  rw [e]
  by_cases h : r ∈ ps.map (·.1)
  · rw [if_pos (by simpa using h), if_pos h, dOf, dOf, List.map_map, List.map_map]
    refine List.map_congr_left fun p _ => ?_
    show (if (Sum.inl (p.1 : Int) : L2.Key) = Sum.inl (r : Int) then _ else _) = _
    by_cases e2 : p.1 = r
    · simp [e2]
    · have e3 : ¬ (Sum.inl (p.1 : Int) : L2.Key) = Sum.inl (r : Int) := fun z => e2 (by have := Sum.inl.inj z; omega)
      rw [if_neg e3]
      simp [e2]
  · rw [if_neg (by simpa using h), if_neg h, dOf, dOf, List.map_append]
    rfl
theorem Dok.put {P : Nat → Prop} {n : Nat} {ps : List (Nat × Nat)} (h : Dok P n ps) {r v : Nat} (hr : P r) (hv : v < n) : Dok P n (pPut ps r v) := by
  unfold pPut
  split
  · refine ⟨fun p hp => ?_, ?_⟩
    · obtain ⟨q, hq, rfl⟩ := List.mem_map.mp hp
      by_cases e : q.1 = r
      · simp only [e, if_true]; exact ⟨hr, hv⟩
      · simp only [e, if_false]; exact h.at_ q hq
    · rw [List.map_map]
      have e : (fun p : Nat × Nat => (if p.1 = r then (p.1, v) else p).1) = fun p => p.1 := by
        funext p
        by_cases e : p.1 = r <;> simp [e]
      show (ps.map fun p : Nat × Nat => (if p.1 = r then (p.1, v) else p).1).Nodup
      rw [e]
      exact h.nd
  · rename_i hn
    refine ⟨fun p hp => ?_, ?_⟩
    · rcases List.mem_append.mp hp with hp | hp
      · exact h.at_ p hp
      · rw [List.mem_singleton.mp hp]; exact ⟨hr, hv⟩
    · rw [List.map_append, List.nodup_append]
      refine ⟨h.nd, by simp, fun x hx y hy e => hn ?_⟩
      simp at hy
      rw [← hy, ← e]
      exact hx
theorem val_dOf {ps : List (Nat × Nat)} {r : Nat} {v : V} (h : valV (dOf ps) (Sum.inl (r : Int)) = some v) : ∃ n, v = nt n ∧ (r, n) ∈ ps := by
  unfold valV at h
  obtain ⟨kv, hf, rfl⟩ := Option.map_eq_some_iff.mp h
  have hm := List.mem_of_find?_eq_some hf
  have hk := List.find?_some hf
  obtain ⟨p, hp, rfl⟩ := List.mem_map.mp hm
  have e : (p.1 : Int) = (r : Int) := Sum.inl.inj (of_decide_eq_true hk)
  exact ⟨p.2, rfl, by rw [show r = p.1 by omega]; exact hp⟩
/-- the maker at a, with these cells -/
structure MkIn (S : Nat → Prop) (H : Hp) (a : MAd) (cells : List Cell) (ads : List Addr) (L F : List (Nat × Nat)) (N : List (List L2.Key × V)) : Prop where
  ob : H a.x = some (.ins a.C a.dx (mkF a))
  cl : H a.c = some (.lst (ads.map V.ref))
  len : ads.length = cells.length
  row : ∀ (i : Nat) (ad : Addr) (c : Cell), ads[i]? = some ad → cells[i]? = some c → H ad = some (.tup c.vals)
  lo : H a.l = some (.dK (dOf L))
  fl : H a.f = some (.dK (dOf F))
  kn : H a.k = some (.dT N)
  lf : a.l ≠ a.f
  ok : ∀ (i : Nat) (c : Cell), cells[i]? = some c → c.ok S i cells.length
  lok : Dok (fun r => r < 8 ∧ S r) cells.length L
  fok : Dok (· < 4) cells.length F
  nok : ∀ p ∈ N, ∃ n : Nat, p.2 = nt n ∧ n < cells.length
  nfew : N.length ≤ cells.length
def Mk (S : Nat → Prop) (H : Hp) (a : MAd) (n : Nat) : Prop := ∃ cells ads L F N, MkIn S H a cells ads L F N ∧ cells.length = n
section
variable {S : Nat → Prop} {H H' : Hp} {a : MAd} {cells : List Cell} {ads : List Addr} {L F : List (Nat × Nat)} {N : List (List L2.Key × V)}
theorem MkIn.keep {M : Addr → Prop} (h : MkIn S H a cells ads L F N) (k : Kp M H H') (n1 : ¬ M a.x) (n2 : ∀ b, a.mem b → ¬ M b) (n3 : ∀ b ∈ ads, ¬ M b) : MkIn S H' a cells ads L F N :=
  ⟨k.at h.ob n1, k.at h.cl (n2 _ (.inl rfl)), h.len, fun i ad c h1 h2 => k.at (h.row i ad c h1 h2) (n3 _ (List.mem_of_getElem? h1)), k.at h.lo (n2 _ (.inr (.inl rfl))), k.at h.fl (n2 _ (.inr (.inr (.inl rfl)))), k.at h.kn (n2 _ (.inr (.inr (.inr rfl)))), h.lf, h.ok, h.lok, h.fok, h.nok, h.nfew⟩
theorem Mk.keep0 {n : Nat} (h : Mk S H a n) (k : Kp No H H') : Mk S H' a n := by
  obtain ⟨cells, ads, L, F, N, h, e⟩ := h
  exact ⟨cells, ads, L, F, N, h.keep k (fun z => z) (fun _ _ z => z) fun _ _ z => z, e⟩
theorem Mk.ob {n : Nat} (h : Mk S H a n) : H a.x = some (.ins a.C a.dx (mkF a)) := by
  obtain ⟨cells, ads, L, F, N, h, e⟩ := h
  exact h.ob
theorem MkIn.nc (h : MkIn S H a cells ads L F N) : a.c ≠ a.l ∧ a.c ≠ a.f ∧ a.c ≠ a.k ∧ a.l ≠ a.k ∧ a.f ≠ a.k ∧ a.x ≠ a.c ∧ a.x ≠ a.l ∧ a.x ≠ a.f ∧ a.x ≠ a.k := by
  refine ⟨ne_of h.cl h.lo (by intro z; cases z), ne_of h.cl h.fl (by intro z; cases z), ne_of h.cl h.kn (by intro z; cases z), ne_of h.lo h.kn (by intro z; cases z), ne_of h.fl h.kn (by intro z; cases z),
    ne_of h.ob h.cl (by intro z; cases z), ne_of h.ob h.lo (by intro z; cases z), ne_of h.ob h.fl (by intro z; cases z), ne_of h.ob h.kn (by intro z; cases z)⟩
theorem MkIn.nt_ (h : MkIn S H a cells ads L F N) {b : Addr} {xs : List V} (hb : H b = some (.tup xs)) : ¬ a.mem b ∧ b ≠ a.x := by
  refine ⟨?_, ne_of hb h.ob (by intro z; cases z)⟩
  rintro (z | z | z | z)
  · exact ne_of hb h.cl (by intro z; cases z) z
  · exact ne_of hb h.lo (by intro z; cases z) z
  · exact ne_of hb h.fl (by intro z; cases z) z
  · exact ne_of hb h.kn (by intro z; cases z) z
/-- a tuple stays while the maker works -/
theorem tup_kept {M : Addr → Prop} {b : Addr} {xs : List V} (k : Kp M H H') (hb : H b = some (.tup xs)) (h : ¬ M b) : H' b = some (.tup xs) := k.at hb h
/-- a cell put at the end -/
theorem MkIn.push (h : MkIn S H a cells ads L F N) {t : Addr} {c : Cell} (ht : H t = some (.tup c.vals)) (hc : c.ok S cells.length (cells.length + 1)) : MkIn S (upd H a.c (.lst (ads.map V.ref ++ [.ref t]))) a (cells ++ [c]) (ads ++ [t]) L F N := by
  obtain ⟨n1, n2, n3, n4, n5, n6, n7, n8, n9⟩ := h.nc
  have hl : (cells ++ [c]).length = cells.length + 1 := by simp
  have tn : ∀ {b : Addr} {xs : List V}, H b = some (.tup xs) → b ≠ a.c := fun hb z => (h.nt_ hb).1 (.inl z)
  refine ⟨by rw [upd_ne n6]; exact h.ob, by rw [upd_same, List.map_append]; rfl, by simp [h.len], fun i ad c2 h1 h2 => ?_, by rw [upd_ne n1.symm]; exact h.lo, by rw [upd_ne n2.symm]; exact h.fl, by rw [upd_ne n3.symm]; exact h.kn, h.lf, fun i c2 h2 => ?_, h.lok.more (by omega), h.fok.more (by omega),
    fun p hp => ?_, by have := h.nfew; omega⟩
  · rcases Nat.lt_trichotomy i cells.length with z | z | z
    · rw [List.getElem?_append_left (by rw [h.len]; exact z)] at h1
      rw [List.getElem?_append_left z] at h2
      have q := h.row i ad c2 h1 h2
      rw [upd_ne (tn q)]
      exact q
    · subst z
      rw [List.getElem?_append_right (by rw [h.len]; exact Nat.le_refl _), h.len, Nat.sub_self] at h1
      rw [List.getElem?_append_right (Nat.le_refl _), Nat.sub_self] at h2
      cases h1
      cases h2
      rw [upd_ne (tn ht)]
      exact ht
    · rw [List.getElem?_eq_none (by simp; omega)] at h2
      cases h2
  · rw [hl]
    rcases Nat.lt_trichotomy i cells.length with z | z | z
    · rw [List.getElem?_append_left z] at h2
      exact (h.ok i c2 h2).more (Nat.le_succ _)
    · subst z
      rw [List.getElem?_append_right (Nat.le_refl _), Nat.sub_self] at h2
      cases h2
      exact hc
    · rw [List.getElem?_eq_none (by simp; omega)] at h2
      cases h2
  · obtain ⟨n, e1, e2⟩ := h.nok p hp
    exact ⟨n, e1, by omega⟩
theorem MkIn.known (h : MkIn S H a cells ads L F N) {k : List L2.Key} {n : Nat} (hn : n ≤ cells.length) (hN : valV N k = none) (t : Addr) (c : Cell) (ht : H t = some (.tup c.vals)) (hc : c.ok S cells.length (cells.length + 1)) (e : n = cells.length) :
    MkIn S (upd (upd H a.k (.dT (putK N k (nt n)))) a.c (.lst (ads.map V.ref ++ [.ref t]))) a (cells ++ [c]) (ads ++ [t]) L F (putK N k (nt n)) := by
  obtain ⟨n1, n2, n3, n4, n5, n6, n7, n8, n9⟩ := h.nc
  have hl : (cells ++ [c]).length = cells.length + 1 := by simp
  have tn : ∀ {b : Addr} {xs : List V}, H b = some (.tup xs) → upd (upd H a.k (.dT (putK N k (nt n)))) a.c (.lst (ads.map V.ref ++ [.ref t])) b = some (.tup xs) := fun {b xs} hb => by
    rw [upd_ne (fun z => (h.nt_ hb).1 (.inl z)), upd_ne (fun z => (h.nt_ hb).1 (.inr (.inr (.inr z))))]
    exact hb
  have hp := h.push ht hc
  refine ⟨by rw [upd_ne n6, upd_ne n9]; exact h.ob, by rw [upd_same, List.map_append]; rfl, hp.len, fun i ad c2 h1 h2 => ?_, by rw [upd_ne n1.symm, upd_ne n4]; exact h.lo, by rw [upd_ne n2.symm, upd_ne n5]; exact h.fl, by rw [upd_ne n3.symm, upd_same], h.lf, hp.ok, hp.lok, hp.fok, ?_, ?_⟩
  · have q := hp.row i ad c2 h1 h2
    by_cases z : ad = a.c
    · rw [z, upd_same] at q; cases q
    · rw [upd_ne z] at q
      exact tn q
  · rw [putK_new _ hN]
    intro p hp2
    rcases List.mem_append.mp hp2 with q | q
    · obtain ⟨m, e1, e2⟩ := h.nok p q
      exact ⟨m, e1, by omega⟩
    · rw [List.mem_singleton.mp q]
      exact ⟨n, rfl, by omega⟩
  · rw [putK_new _ hN, List.length_append, List.length_singleton, hl]
    have := h.nfew
    omega
theorem MkIn.val (h : MkIn S H a cells ads L F N) {k : List L2.Key} {v : V} (hv : valV N k = some v) : ∃ n, v = nt n ∧ n < cells.length := by
  unfold valV at hv
  obtain ⟨kv, hf, rfl⟩ := Option.map_eq_some_iff.mp hv
  exact h.nok kv (List.mem_of_find?_eq_some hf)
/-- a cell exchanged -/
theorem MkIn.set (h : MkIn S H a cells ads L F N) {t : Addr} {j l : Nat} (hj : j < cells.length) (hl : l < cells.length) (ht : H t = some (.tup (Cell.later l).vals)) : MkIn S (upd H a.c (.lst ((ads.map V.ref).set j (.ref t)))) a (cells.set j (.later l)) (ads.set j t) L F N := by
  obtain ⟨n1, n2, n3, n4, n5, n6, n7, n8, n9⟩ := h.nc
  have tn : ∀ {b : Addr} {xs : List V}, H b = some (.tup xs) → b ≠ a.c := fun hb z => (h.nt_ hb).1 (.inl z)
  refine ⟨by rw [upd_ne n6]; exact h.ob, by rw [upd_same, List.map_set], by simp [h.len], fun i ad c2 h1 h2 => ?_, by rw [upd_ne n1.symm]; exact h.lo, by rw [upd_ne n2.symm]; exact h.fl, by rw [upd_ne n3.symm]; exact h.kn, h.lf, fun i c2 h2 => ?_, by simpa using h.lok, by simpa using h.fok, by simpa using h.nok, by simpa using h.nfew⟩
  · rw [List.getElem?_set] at h1 h2
    by_cases z : j = i
    · subst z
      rw [if_pos rfl, if_pos (by rw [h.len]; exact hj)] at h1
      rw [if_pos rfl, if_pos hj] at h2
      cases h1
      cases h2
      rw [upd_ne (tn ht)]
      exact ht
    · rw [if_neg z] at h1 h2
      have q := h.row i ad c2 h1 h2
      rw [upd_ne (tn q)]
      exact q
  · rw [List.getElem?_set] at h2
    rw [List.length_set]
    by_cases z : j = i
    · rw [if_pos z, if_pos hj] at h2
      cases h2
      exact hl
    · rw [if_neg z] at h2
      exact h.ok i c2 h2
theorem MkIn.putL (h : MkIn S H a cells ads L F N) {r v : Nat} (hr : r < 8 ∧ S r) (hv : v < cells.length) : MkIn S (upd H a.l (.dK (putK (dOf L) (Sum.inl (r : Int)) (nt v)))) a cells ads (pPut L r v) F N := by
  obtain ⟨n1, n2, n3, n4, n5, n6, n7, n8, n9⟩ := h.nc
  rw [put_dOf]
  exact ⟨by rw [upd_ne n7]; exact h.ob, by rw [upd_ne n1]; exact h.cl, h.len, fun i ad c h1 h2 => by rw [upd_ne (fun z => (h.nt_ (h.row i ad c h1 h2)).1 (.inr (.inl z)))]; exact h.row i ad c h1 h2, upd_same, by rw [upd_ne h.lf.symm]; exact h.fl, by rw [upd_ne n4.symm]; exact h.kn, h.lf, h.ok, h.lok.put hr hv, h.fok, h.nok, h.nfew⟩
theorem MkIn.putF (h : MkIn S H a cells ads L F N) {r v : Nat} (hr : r < 4) (hv : v < cells.length) : MkIn S (upd H a.f (.dK (putK (dOf F) (Sum.inl (r : Int)) (nt v)))) a cells ads L (pPut F r v) N := by
  obtain ⟨n1, n2, n3, n4, n5, n6, n7, n8, n9⟩ := h.nc
  rw [put_dOf]
  exact ⟨by rw [upd_ne n8]; exact h.ob, by rw [upd_ne n2]; exact h.cl, h.len, fun i ad c h1 h2 => by rw [upd_ne (fun z => (h.nt_ (h.row i ad c h1 h2)).1 (.inr (.inr (.inl z))))]; exact h.row i ad c h1 h2, by rw [upd_ne h.lf]; exact h.lo, upd_same, by rw [upd_ne n5.symm]; exact h.kn, h.lf, h.ok, h.lok, h.fok.put hr hv, h.nok, h.nfew⟩
end
/-! ### reading a field, calling a method -/
structure MTxt (K : PySem.W.Frag) (C : Addr) : Prop where
  cl : Cls K C
  na : ∀ f : Str, f = "cells" ∨ f = "loops" ∨ f = "flags" ∨ f = "known" → NoAttr K C f
section
variable {K : PySem.W.Frag} {S : Nat → Prop} {H : Hp} {a : MAd}
theorem fget {R : V → Prop} {f : Str} {v : V} (T : MTxt K a.C) (M : H a.x = some (.ins a.C a.dx (mkF a))) (hf : f = "cells" ∨ f = "loops" ∨ f = "flags" ∨ f = "known") (hv : (mkF a).lookup f = some v) (k : R v) :
    ∃ b C dx fs v, V.ref a.x = .ref b ∧ H b = some (.ins C dx fs) ∧ Cls K C ∧ NoAttr K C f ∧ fs.lookup f = some v ∧ R v := ⟨_, _, _, _, v, rfl, M, T.cl, T.na f hf, hv, k⟩
theorem fg_c {R : V → Prop} (T : MTxt K a.C) (M : H a.x = some (.ins a.C a.dx (mkF a))) (k : R (.ref a.c)) : ∃ b C dx fs v, V.ref a.x = .ref b ∧ H b = some (.ins C dx fs) ∧ Cls K C ∧ NoAttr K C "cells" ∧ fs.lookup ("cells" : Str) = some v ∧ R v := fget T M (.inl rfl) rfl k
theorem fg_l {R : V → Prop} (T : MTxt K a.C) (M : H a.x = some (.ins a.C a.dx (mkF a))) (k : R (.ref a.l)) : ∃ b C dx fs v, V.ref a.x = .ref b ∧ H b = some (.ins C dx fs) ∧ Cls K C ∧ NoAttr K C "loops" ∧ fs.lookup ("loops" : Str) = some v ∧ R v := fget T M (.inr (.inl rfl)) rfl k
theorem fg_f {R : V → Prop} (T : MTxt K a.C) (M : H a.x = some (.ins a.C a.dx (mkF a))) (k : R (.ref a.f)) : ∃ b C dx fs v, V.ref a.x = .ref b ∧ H b = some (.ins C dx fs) ∧ Cls K C ∧ NoAttr K C "flags" ∧ fs.lookup ("flags" : Str) = some v ∧ R v := fget T M (.inr (.inr (.inl rfl))) rfl k
theorem fg_k {R : V → Prop} (T : MTxt K a.C) (M : H a.x = some (.ins a.C a.dx (mkF a))) (k : R (.ref a.k)) : ∃ b C dx fs v, V.ref a.x = .ref b ∧ H b = some (.ins C dx fs) ∧ Cls K C ∧ NoAttr K C "known" ∧ fs.lookup ("known" : Str) = some v ∧ R v := fget T M (.inr (.inr (.inr rfl))) rfl k
theorem mmeth {R : Prop} {m : Str} (M : H a.x = some (.ins a.C a.dx (mkF a))) (hm : (["cells", "loops", "flags", "known"] : List Str).contains m = false) (k : R) : ∃ b dx fs, V.ref a.x = .ref b ∧ H b = some (.ins a.C dx fs) ∧ fs.lookup m = none ∧ R := by
  refine ⟨_, _, _, rfl, M, ?_, k⟩
  show (List.zip (["cells", "loops", "flags", "known"] : List Str) [V.ref a.c, .ref a.l, .ref a.f, .ref a.k]).lookup m = none
  exact zip_none hm
end
end K7
local macro_rules | `(tactic| walk_at "g1") => `(tactic| first
  | ((with_reducible refine' K7.fg_c ?hT ?hM ?kk); (case hT => assumption); (case hM => first | assumption | exact K7.Mk.ob (by assumption)))
  | ((with_reducible refine' K7.fg_l ?hT ?hM ?kk); (case hT => assumption); (case hM => first | assumption | exact K7.Mk.ob (by assumption)))
  | ((with_reducible refine' K7.fg_f ?hT ?hM ?kk); (case hT => assumption); (case hM => first | assumption | exact K7.Mk.ob (by assumption)))
  | ((with_reducible refine' K7.fg_k ?hT ?hM ?kk); (case hT => assumption); (case hM => first | assumption | exact K7.Mk.ob (by assumption)))
  | ((with_reducible refine' K7.mmeth ?hM ?hm ?kk); (case hM => first | assumption | exact K7.Mk.ob (by assumption)); (case hm => decide +kernel))
  | fail)
namespace K7
open PySem PySem.Spec PyProof.Rows L2 B
section
variable {P : Program} {w : World} {K : PySem.W.Frag} {mg : Str → Option Value} {base : Heap} {d : Ads} {C : Addr} {S : Nat → Prop}
/-! ### Maker's methods: only the bounds are told -/
/-- what comes of a method: a cell's place, the maker with at most c more cells -/
def Goes (S : Nat → Prop) (a : MAd) (n c : Nat) (H : Hp) (Q : VK) : Prop := ∀ (k n' : Nat) (H' : Hp), n ≤ n' → n' ≤ n + c → k < n' → Mk S H' a n' → Kp a.mem H H' → Q (nt k) H'
def pGet (S : Nat → Prop) (C : Addr) : V → V → Hp → VK → XK → Prop := fun x y H Q _ => ∃ (a : MAd) (n : Nat) (t : Addr) (c : Cell), a.C = C ∧ x = .ref a.x ∧ y = .ref t ∧ Mk S H a n ∧ n < 100000 ∧ H t = some (.tup c.vals) ∧ c.ok S n (n + 1) ∧ Goes S a n 1 H Q
theorem ok_get (G : Txt K w mg d) (T : MTxt K C) (D : Mf K C "get" "Maker.get" s_Maker_get ["self", "parts"]) : Met P w K mg base CX0 1 C "get" (U fun S => sp2 (pGet S C)) := by
  refine met0 D sc_Maker_get rfl fun f cdv A outer s H vs Q E hr h => ?_
  obtain ⟨S, h⟩ := h
  obtain ⟨_, _, rfl, a, n, t, c, rfl, rfl, rfl, hM, hn, ht, hc, q⟩ := h
  refine ⟨_, (pss_cons (ps_if (pt_cmp (pc_dnotin (hu_of hr) (pv 1) (fldK K (pv 0))) (by rfl))
      (pss_cons (ps_dput (hu_of hr) (fldK K (pv 0)) (pv 1) (pe_callB (lenS K) (by rfl) G.n_len (by decide +kernel) (pa_cons (fldK K (pv 0)) pa_nil)) rfl)
      (pss_one (ps_expr (bm K PySem.F.plainAttrs_list PySem.F.slot_list_append PySem.F.type_list_append mt_append (fldK K (pv 0)) (pa_cons (pv 1) pa_nil)))))
      pss_nil)
    (pss_one (ps_ret (pe_dget (hu_of hr) (fldK K (pv 0)) (pv 1) (fun _ _ => rfl))))), ?_⟩
  refine B.x_start (σ' := [some (.ref a.x), some (.ref t)]) rfl ?_
  obtain ⟨cells, ads, L, F, N, M, rfl⟩ := hM
  have ob := M.ob
  have cl := M.cl
  have ht2 : H t = some (.tup (c.key.map kV)) := by rw [c.key_vals]; exact ht
  walk_at "go"
  refine ⟨a.k, valV N c.key, rfl, DGet.t M.kn ht2, ?_⟩
  walk_at "go"
  refine x_ite (fun e => ?_) (fun e => ?_)
  · have hN : valV N c.key = none := by
      cases z : valV N c.key with
      | none => rfl
      | some v => rw [z] at e; cases e
    walk_at "go"
    refine ⟨a.k, _, rfl, DPut.t M.kn ht2 (by have := M.nfew; rw [sizeLine_eq]; omega), ?_⟩
    obtain ⟨n1, n2, n3, n4, n5, n6, n7, n8, n9⟩ := M.nc
    have ob1 : upd H a.k (.dT (putK N c.key (.int ((ads.map V.ref).length : Nat)))) a.x = some (.ins a.C a.dx (mkF a)) := by rw [upd_ne n9]; exact ob
    have cl1 : upd H a.k (.dT (putK N c.key (.int ((ads.map V.ref).length : Nat)))) a.c = some (.lst (ads.map V.ref)) := by rw [upd_ne n3]; exact cl
    walk_at "go"
    have el : (ads.map V.ref).length = cells.length := by rw [List.length_map, M.len]
    rw [el]
    have M2 := M.known (k := c.key) (n := cells.length) (Nat.le_refl _) hN t c ht hc rfl
    have hk : Kp a.mem H (upd (upd H a.k (.dT (putK N c.key (nt cells.length)))) a.c (.lst (ads.map V.ref ++ [.ref t]))) := (Kp.set (.inr (.inr (.inr rfl)))).trans (Kp.set (.inl rfl))
    have ob2 := M2.ob
    have kn2 := M2.kn
    have ht3 : upd (upd H a.k (.dT (putK N c.key (nt cells.length)))) a.c (.lst (ads.map V.ref ++ [.ref t])) t = some (.tup (c.key.map kV)) := hk.at ht2 (M.nt_ ht).1
    walk_at "go"
    refine ⟨a.k, nt cells.length, rfl, ?_, ?_⟩
    · have z := DGet.t kn2 ht3
      rw [valV_put, if_pos rfl] at z
      exact z
    · exact q cells.length (cells.length + 1) _ (by omega) (by omega) (by omega) ⟨_, _, _, _, _, M2, by simp⟩ hk
  · obtain ⟨v, hv⟩ : ∃ v, valV N c.key = some v := by
      cases z : valV N c.key with
      | none => rw [z] at e; cases e
      | some v => exact ⟨v, rfl⟩
    obtain ⟨k, rfl, hk⟩ := M.val hv
    walk_at "go"
    refine ⟨a.k, nt k, rfl, by rw [← hv]; exact DGet.t M.kn ht2, ?_⟩
    exact q k cells.length H (Nat.le_refl _) (by omega) hk ⟨_, _, _, _, _, M, rfl⟩ (.refl H)
def pLoopM (S : Nat → Prop) (C : Addr) : V → V → Hp → VK → XK → Prop := fun x y H Q _ => ∃ (a : MAd) (n r : Nat), a.C = C ∧ x = .ref a.x ∧ y = nt r ∧ r < 8 ∧ S r ∧ Mk S H a n ∧ n < 100000 ∧ Goes S a n 1 H Q
theorem ok_loopM (G : Txt K w mg d) (T : MTxt K C) (D : Mf K C "loop" "Maker.loop" s_Maker_loop ["self", "number"]) (c_Maker_get : Met P w K mg base CX0 1 C "get" (U fun S => sp2 (pGet S C))) : Met P w K mg base CX0 2 C "loop" (U fun S => sp2 (pLoopM S C)) := by
  refine met0 D sc_Maker_loop rfl fun f cdv A outer s H vs Q E hr h => ?_
  obtain ⟨S, h⟩ := h
  replace c_Maker_get := c_Maker_get.at S
  obtain ⟨_, _, rfl, a, n, r, rfl, rfl, rfl, hr8, hS, hM, hn, q⟩ := h
  refine ⟨_, (pss_one (ps_ret (pe_ifExp (pt_cmp (pc_din (hu_of hr) (pv 1) (fldK K (pv 0))) (by rfl)) (pe_dget (hu_of hr) (fldK K (pv 0)) (pv 1) (fun _ _ => rfl)) (pe_mt c_Maker_get hr (by decide) pass0 (pv 0) (pa_cons (pe_tup (pa_cons pe_str (pa_cons (pv 1) pa_nil))) pa_nil))))), ?_⟩
  refine B.x_start (σ' := [some (.ref a.x), some (nt r)]) rfl ?_
  obtain ⟨cells, ads, L, F, N, M, rfl⟩ := id hM
  have ob := M.ob
  walk_at "go"
  refine ⟨a.l, valV (dOf L) (Sum.inl (r : Int)), rfl, DGet.k (k := Sum.inl (r : Int)) M.lo, ?_⟩
  walk_at "go"
  refine x_ite (fun e => ?_) (fun e => ?_)
  · obtain ⟨v, hv⟩ : ∃ v, valV (dOf L) (Sum.inl (r : Int)) = some v := by
      cases z : valV (dOf L) (Sum.inl (r : Int)) with
      | none => rw [z] at e; cases e
      | some v => exact ⟨v, rfl⟩
    obtain ⟨k, rfl, hk⟩ := val_dOf hv
    walk_at "go"
    refine ⟨a.l, nt k, rfl, by rw [← hv]; exact DGet.k (k := Sum.inl (r : Int)) M.lo, ?_⟩
    exact q k _ H (Nat.le_refl _) (by omega) (M.lok.at_ _ hk).2 hM (.refl H)
  · walk_at "go"
    intro t ht
    walk_at "go"
    refine ⟨a, _, t, .bit r, rfl, rfl, rfl, hM.keep0 (.new ht), hn, upd_same, ⟨hr8, hS⟩, fun k n' H' h1 h2 h3 h4 h5 => q k n' H' h1 h2 h3 h4 ((Kp.new ht).trans h5)⟩
def pMemory (S : Nat → Prop) (C : Addr) : V → Hp → VK → XK → Prop := fun x H Q _ => ∃ (a : MAd) (n : Nat), a.C = C ∧ x = .ref a.x ∧ Mk S H a n ∧ n < 100000 ∧ ∀ H', Mk S H' a (n + 1) → Kp a.mem H H' → Q (nt n) H'
theorem ok_memory (G : Txt K w mg d) (T : MTxt K C) (D : Mf K C "memory" "Maker.memory" s_Maker_memory ["self"]) : Met P w K mg base CX0 1 C "memory" (U fun S => sp1 (pMemory S C)) := by
  refine met0 D sc_Maker_memory rfl fun f cdv A outer s H vs Q E hr h => ?_
  obtain ⟨S, h⟩ := h
  obtain ⟨_, rfl, a, n, rfl, rfl, hM, hn, q⟩ := h
  refine ⟨_, (pss_cons (ps_expr (bm K PySem.F.plainAttrs_list PySem.F.slot_list_append PySem.F.type_list_append mt_append (fldK K (pv 0)) (pa_cons (pe_tup (pa_cons pe_str (pa_cons pe_int pa_nil))) pa_nil)))
    (pss_one (ps_ret (pe_op op_sub (pe_callB (lenS K) (by rfl) G.n_len (by decide +kernel) (pa_cons (fldK K (pv 0)) pa_nil)) pe_int)))), ?_⟩
  refine B.x_start (σ' := [some (.ref a.x)]) rfl ?_
  obtain ⟨cells, ads, L, F, N, M, rfl⟩ := id hM
  have ob := M.ob
  have cl := M.cl
  walk_at "go"
  intro t ht
  have M1 := M.keep (Kp.new (M := No) (o := .tup (Cell.later 0).vals) ht) (fun z => z) (fun _ _ z => z) fun _ _ z => z
  have cl1 := M1.cl
  have hl1 : (ads.map V.ref).length < 16777216 := by rw [List.length_map, M.len]; omega
  walk_at "go"
  have M2 := M1.push (t := t) (c := .later 0) upd_same (Nat.succ_pos _)
  have ob2 := M2.ob
  have cl2 := M2.cl
  walk_at "go"
  have e : (((ads ++ [t]).map V.ref).length : Int) - 1 = (cells.length : Int) := by rw [List.length_map, List.length_append, M.len]; simp
  rw [e]
  exact q _ ⟨_, _, _, _, _, M2, by simp⟩ ((Kp.new ht).trans (Kp.set (.inl rfl)))
end
end K7
namespace K7
open PySem PySem.Spec PyProof.Rows L2 B
section
variable {P : Program} {w : World} {K : PySem.W.Frag} {mg : Str → Option Value} {base : Heap} {d : Ads} {C : Addr} {S : Nat → Prop}
theorem get_step {a : MAd} {n : Nat} {t : Addr} {H : Hp} {Q : VK} {E : XK} (c : Cell) (hM : Mk S H a n) (hn : n < 100000) (hc : c.ok S n (n + 1)) (ht : H t = none) (q : Goes S a n 1 H Q) : pGet S a.C (.ref a.x) (.ref t) (upd H t (.tup c.vals)) Q E :=
  ⟨a, n, t, c, rfl, rfl, rfl, hM.keep0 (.new ht), hn, upd_same, hc, fun k n' H' h1 h2 h3 h4 h5 => q k n' H' h1 h2 h3 h4 ((Kp.new ht).trans h5)⟩
/-- a cell exchanged for one that comes later -/
theorem Mk.later {a : MAd} {n j l : Nat} {t : Addr} {H : Hp} (hM : Mk S H a n) (hj : j < n) (hl : l < n) (ht : H t = none) {R : Hp → Prop} (k : ∀ H', Mk S H' a n → Kp a.mem H H' → R H') :
    rSetL (.ref a.c) (nt j) (.ref t) (upd H t (.tup (Cell.later l).vals)) R := by
  obtain ⟨cells, ads, L, F, N, M, rfl⟩ := hM
  have M1 := M.keep (Kp.new (M := No) (o := .tup (Cell.later l).vals) ht) (fun z => z) (fun _ _ z => z) fun _ _ z => z
  have M2 := M1.set hj hl upd_same
  refine x_setL M1.cl (j := j) (Evl.ixN_nat (by rw [List.length_map, M.len]; exact hj)) ?_
  exact k _ ⟨_, _, _, _, _, M2, by simp⟩ ((Kp.new ht).trans (Kp.set (.inl rfl)))
def pTwo (S : Nat → Prop) (C : Addr) (c : Nat) : V → V → V → Hp → VK → XK → Prop := fun x y z H Q _ => ∃ (a : MAd) (n i j : Nat), a.C = C ∧ x = .ref a.x ∧ y = nt i ∧ z = nt j ∧ i < n ∧ j < n ∧ Mk S H a n ∧ n < 99000 ∧ Goes S a n c H Q
theorem ok_added (G : Txt K w mg d) (T : MTxt K C) (D : Mf K C "added" "Maker.added" s_Maker_added ["self", "one", "other"]) (c_Maker_get : Met P w K mg base CX0 1 C "get" (U fun S => sp2 (pGet S C))) (c_Maker_memory : Met P w K mg base CX0 1 C "memory" (U fun S => sp1 (pMemory S C))) :
    Met P w K mg base CX0 2 C "added" (U fun S => sp3 (pTwo S C 6)) := by
  refine met0 D sc_Maker_added rfl fun f cdv A outer s H vs Q E hr h => ?_
  obtain ⟨S, h⟩ := h
  replace c_Maker_get := c_Maker_get.at S
  replace c_Maker_memory := c_Maker_memory.at S
  obtain ⟨_, _, _, rfl, a, n, i, j, rfl, rfl, rfl, rfl, hi, hj, M0, hn, q⟩ := h
  refine ⟨_, (pss_cons (ps_set (i := 3) sc_Maker_added.nd rfl (Or.inl rfl) (pe_mt c_Maker_get hr (by decide) pass0 (pv 0) (pa_cons (pe_tup (pa_cons pe_str (pa_cons (pv 1) (pa_cons (pv 2) pa_nil)))) pa_nil)))
    (pss_cons (ps_set (i := 4) sc_Maker_added.nd rfl (Or.inl rfl) (pe_mt0 c_Maker_memory hr (by decide) pass0 (pv 0)))
    (pss_cons (ps_set (i := 5) sc_Maker_added.nd rfl (Or.inl rfl) (pe_mt c_Maker_get hr (by decide) pass0 (pv 0) (pa_cons (pe_tup (pa_cons pe_str (pa_cons (pv 1) (pa_cons (pv 2) pa_nil)))) pa_nil)))
    (pss_cons (ps_set (i := 6) sc_Maker_added.nd rfl (Or.inl rfl) (pe_mt c_Maker_get hr (by decide) pass0 (pv 0) (pa_cons (pe_tup (pa_cons pe_str (pa_cons (pv 5) (pa_cons (pe_mt c_Maker_get hr (by decide) pass0 (pv 0) (pa_cons (pe_tup (pa_cons pe_str (pa_cons (pv 3) (pa_cons (pv 4) pa_nil)))) pa_nil)) pa_nil)))) pa_nil)))
    (pss_cons (ps_asg (pe_tup (pa_cons pe_str (pa_cons (pv 6) pa_nil))) (pg_sub (fldK K (pv 0)) (pv 4) set_list))
    (pss_one (ps_ret (pe_mt c_Maker_get hr (by decide) pass0 (pv 0) (pa_cons (pe_tup (pa_cons pe_str (pa_cons (pv 3) (pa_cons (pv 4) pa_nil)))) pa_nil))))))))), ?_⟩
  refine B.x_start (σ' := [some (.ref a.x), some (nt i), some (nt j), none, none, none, none]) rfl ?_
  walk_at "go"
  intro t1 ht1
  walk_at "go"
  refine get_step (.gate .odd i j) M0 (by omega) ⟨hi, hj⟩ ht1 fun k1 n1 H1 a1 b1 c1 M1 e1 => ?_
  walk_at "go"
  refine ⟨a, n1, rfl, rfl, M1, by omega, fun H2 M2 e2 => ?_⟩
  walk_at "go"
  intro t3 ht3
  walk_at "go"
  refine get_step (.gate .and i j) M2 (by omega) ⟨by omega, by omega⟩ ht3 fun k3 n3 H3 a3 b3 c3 M3 e3 => ?_
  walk_at "go"
  intro t4 ht4
  walk_at "go"
  refine get_step (.gate .and k1 n1) M3 (by omega) ⟨by omega, by omega⟩ ht4 fun k4 n4 H4 a4 b4 c4 M4 e4 => ?_
  walk_at "go"
  intro t5 ht5
  walk_at "go"
  refine get_step (.gate .or k3 k4) M4 (by omega) ⟨by omega, by omega⟩ ht5 fun k5 n5 H5 a5 b5 c5 M5 e5 => ?_
  walk_at "go"
  intro t6 ht6
  have ob6 : (upd H5 t6 (.tup (Cell.later k5).vals)) a.x = some (.ins a.C a.dx (mkF a)) := (M5.keep0 (.new ht6)).ob
  walk_at "go"
  refine M5.later (j := n1) (l := k5) (by omega) (by omega) ht6 fun H6 M6 e6 => ?_
  walk_at "go"
  intro t7 ht7
  walk_at "go"
  refine get_step (.gate .odd k1 n1) M6 (by omega) ⟨by omega, by omega⟩ ht7 fun k7 n7 H7 a7 b7 c7 M7 e7 => ?_
  exact q k7 n7 H7 (by omega) (by omega) c7 M7 ((((((e1.trans e2).trans e3).trans e4).trans e5).trans e6).trans e7)
def pTaken2 (S : Nat → Prop) (C : Addr) : V → V → V → Hp → VK → XK → Prop := fun x y z H Q _ => ∃ (a : MAd) (n i j : Nat), a.C = C ∧ x = .ref a.x ∧ y = nt i ∧ z = nt j ∧ i < n ∧ j < n ∧ Mk S H a n ∧ n < 99000 ∧
  ∀ (k1 k2 n' : Nat) (t : Addr) (H' : Hp), n ≤ n' → n' ≤ n + 8 → k1 < n' → k2 < n' → Mk S H' a n' → H' t = some (.tup [nt k1, nt k2]) → Kp a.mem H H' → Q (.ref t) H'
theorem ok_taken2 (G : Txt K w mg d) (T : MTxt K C) (D : Mf K C "taken" "Maker.taken" s_Maker_taken ["self", "one", "other"]) (c_Maker_get : Met P w K mg base CX0 1 C "get" (U fun S => sp2 (pGet S C))) (c_Maker_memory : Met P w K mg base CX0 1 C "memory" (U fun S => sp1 (pMemory S C))) :
    Met P w K mg base CX0 2 C "taken" (U fun S => sp3 (pTaken2 S C)) := by
  refine met0 D sc_Maker_taken rfl fun f cdv A outer s H vs Q E hr h => ?_
  obtain ⟨S, h⟩ := h
  replace c_Maker_get := c_Maker_get.at S
  replace c_Maker_memory := c_Maker_memory.at S
  obtain ⟨_, _, _, rfl, a, n, i, j, rfl, rfl, rfl, rfl, hi, hj, M0, hn, q⟩ := h
  refine ⟨_, (pss_cons (ps_set (i := 3) sc_Maker_taken.nd rfl (Or.inl rfl) (pe_mt c_Maker_get hr (by decide) pass0 (pv 0) (pa_cons (pe_tup (pa_cons pe_str (pa_cons (pv 1) (pa_cons (pv 2) pa_nil)))) pa_nil)))
    (pss_cons (ps_set (i := 4) sc_Maker_taken.nd rfl (Or.inl rfl) (pe_mt0 c_Maker_memory hr (by decide) pass0 (pv 0)))
    (pss_cons (ps_set (i := 5) sc_Maker_taken.nd rfl (Or.inl rfl) (pe_mt c_Maker_get hr (by decide) pass0 (pv 0) (pa_cons (pe_tup (pa_cons pe_str (pa_cons (pe_mt c_Maker_get hr (by decide) pass0 (pv 0) (pa_cons (pe_tup (pa_cons pe_str (pa_cons (pv 1) pa_nil))) pa_nil)) (pa_cons (pv 2) pa_nil)))) pa_nil)))
    (pss_cons (ps_set (i := 6) sc_Maker_taken.nd rfl (Or.inl rfl) (pe_mt c_Maker_get hr (by decide) pass0 (pv 0) (pa_cons (pe_tup (pa_cons pe_str (pa_cons (pv 5) (pa_cons (pe_mt c_Maker_get hr (by decide) pass0 (pv 0) (pa_cons (pe_tup (pa_cons pe_str (pa_cons (pe_mt c_Maker_get hr (by decide) pass0 (pv 0) (pa_cons (pe_tup (pa_cons pe_str (pa_cons (pv 3) pa_nil))) pa_nil)) (pa_cons (pv 4) pa_nil)))) pa_nil)) pa_nil)))) pa_nil)))
    (pss_cons (ps_asg (pe_tup (pa_cons pe_str (pa_cons (pv 6) pa_nil))) (pg_sub (fldK K (pv 0)) (pv 4) set_list))
    (pss_one (ps_ret (pe_tup (pa_cons (pe_mt c_Maker_get hr (by decide) pass0 (pv 0) (pa_cons (pe_tup (pa_cons pe_str (pa_cons (pv 3) (pa_cons (pv 4) pa_nil)))) pa_nil)) (pa_cons (pv 6) pa_nil)))))))))), ?_⟩
  refine B.x_start (σ' := [some (.ref a.x), some (nt i), some (nt j), none, none, none, none]) rfl ?_
  walk_at "go"
  intro t1 ht1
  walk_at "go"
  refine get_step (.gate .odd i j) M0 (by omega) ⟨hi, hj⟩ ht1 fun k1 n1 H1 a1 b1 c1 M1 e1 => ?_
  walk_at "go"
  refine ⟨a, n1, rfl, rfl, M1, by omega, fun H2 M2 e2 => ?_⟩
  walk_at "go"
  intro t3 ht3
  walk_at "go"
  refine get_step (.inv i) M2 (by omega) (show i < n1 + 1 by omega) ht3 fun k3 n3 H3 a3 b3 c3 M3 e3 => ?_
  walk_at "go"
  intro t4 ht4
  walk_at "go"
  refine get_step (.gate .and k3 j) M3 (by omega) ⟨by omega, by omega⟩ ht4 fun k4 n4 H4 a4 b4 c4 M4 e4 => ?_
  walk_at "go"
  intro t5 ht5
  walk_at "go"
  refine get_step (.inv k1) M4 (by omega) (show k1 < n4 by omega) ht5 fun k5 n5 H5 a5 b5 c5 M5 e5 => ?_
  walk_at "go"
  intro t6 ht6
  walk_at "go"
  refine get_step (.gate .and k5 n1) M5 (by omega) ⟨by omega, by omega⟩ ht6 fun k6 n6 H6 a6 b6 c6 M6 e6 => ?_
  walk_at "go"
  intro t7 ht7
  walk_at "go"
  refine get_step (.gate .or k4 k6) M6 (by omega) ⟨by omega, by omega⟩ ht7 fun k7 n7 H7 a7 b7 c7 M7 e7 => ?_
  walk_at "go"
  intro t8 ht8
  have ob8 : (upd H7 t8 (.tup (Cell.later k7).vals)) a.x = some (.ins a.C a.dx (mkF a)) := (M7.keep0 (.new ht8)).ob
  walk_at "go"
  refine M7.later (j := n1) (l := k7) (by omega) (by omega) ht8 fun H8 M8 e8 => ?_
  walk_at "go"
  intro t9 ht9
  walk_at "go"
  refine get_step (.gate .odd k1 n1) M8 (by omega) ⟨by omega, by omega⟩ ht9 fun k9 n9 H9 a9 b9 c9 M9 e9 => ?_
  walk_at "go"
  intro t ht
  exact q k9 k7 n9 t _ (by omega) (by omega) c9 (by omega) (M9.keep0 (.new ht)) upd_same (((((((((e1.trans e2).trans e3).trans e4).trans e5).trans e6).trans e7).trans e8).trans e9).trans (.new ht))
theorem ok_alike (G : Txt K w mg d) (T : MTxt K C) (D : Mf K C "alike" "Maker.alike" s_Maker_alike ["self", "one", "other"]) (c_Maker_get : Met P w K mg base CX0 1 C "get" (U fun S => sp2 (pGet S C))) (c_Maker_memory : Met P w K mg base CX0 1 C "memory" (U fun S => sp1 (pMemory S C))) :
    Met P w K mg base CX0 2 C "alike" (U fun S => sp3 (pTwo S C 4)) := by
  refine met0 D sc_Maker_alike rfl fun f cdv A outer s H vs Q E hr h => ?_
  obtain ⟨S, h⟩ := h
  replace c_Maker_get := c_Maker_get.at S
  replace c_Maker_memory := c_Maker_memory.at S
  obtain ⟨_, _, _, rfl, a, n, i, j, rfl, rfl, rfl, rfl, hi, hj, M0, hn, q⟩ := h
  refine ⟨_, (pss_cons (ps_set (i := 3) sc_Maker_alike.nd rfl (Or.inl rfl) (pe_mt0 c_Maker_memory hr (by decide) pass0 (pv 0)))
    (pss_cons (ps_set (i := 4) sc_Maker_alike.nd rfl (Or.inl rfl) (pe_mt c_Maker_get hr (by decide) pass0 (pv 0) (pa_cons (pe_tup (pa_cons pe_str (pa_cons (pe_mt c_Maker_get hr (by decide) pass0 (pv 0) (pa_cons (pe_tup (pa_cons pe_str (pa_cons (pv 1) (pa_cons (pv 2) pa_nil)))) pa_nil)) (pa_cons (pv 3) pa_nil)))) pa_nil)))
    (pss_cons (ps_asg (pe_tup (pa_cons pe_str (pa_cons (pv 4) pa_nil))) (pg_sub (fldK K (pv 0)) (pv 3) set_list))
    (pss_one (ps_ret (pe_mt c_Maker_get hr (by decide) pass0 (pv 0) (pa_cons (pe_tup (pa_cons pe_str (pa_cons (pv 4) pa_nil))) pa_nil))))))), ?_⟩
  refine B.x_start (σ' := [some (.ref a.x), some (nt i), some (nt j), none, none]) rfl ?_
  walk_at "go"
  refine ⟨a, n, rfl, rfl, M0, by omega, fun H2 M2 e2 => ?_⟩
  walk_at "go"
  intro t3 ht3
  walk_at "go"
  refine get_step (.gate .odd i j) M2 (by omega) ⟨by omega, by omega⟩ ht3 fun k3 n3 H3 a3 b3 c3 M3 e3 => ?_
  walk_at "go"
  intro t4 ht4
  walk_at "go"
  refine get_step (.gate .or k3 n) M3 (by omega) ⟨by omega, by omega⟩ ht4 fun k4 n4 H4 a4 b4 c4 M4 e4 => ?_
  walk_at "go"
  intro t6 ht6
  have ob6 : (upd H4 t6 (.tup (Cell.later k4).vals)) a.x = some (.ins a.C a.dx (mkF a)) := (M4.keep0 (.new ht6)).ob
  walk_at "go"
  refine M4.later (j := n) (l := k4) (by omega) (by omega) ht6 fun H6 M6 e6 => ?_
  walk_at "go"
  intro t7 ht7
  walk_at "go"
  refine get_step (.inv k4) M6 (by omega) (show k4 < n4 by omega) ht7 fun k7 n7 H7 a7 b7 c7 M7 e7 => ?_
  exact q k7 n7 H7 (by omega) (by omega) c7 M7 ((((e2.trans e3).trans e4).trans e6).trans e7)
/-- one cell's word -/
def pSingle (S : Nat → Prop) (C : Addr) : V → V → V → Hp → VK → XK → Prop := fun x y z H Q _ => ∃ (a : MAd) (n i : Nat) (o : O1), a.C = C ∧ x = .ref a.x ∧ y = .str o.nm ∧ z = nt i ∧ o ≠ .half ∧ i < n ∧ Mk S H a n ∧ n < 99000 ∧ Goes S a n 1 H Q
theorem ok_single (G : Txt K w mg d) (T : MTxt K C) (D : Mf K C "single" "Maker.single" s_Maker_single ["self", "word", "one"]) (c_Maker_get : Met P w K mg base CX0 1 C "get" (U fun S => sp2 (pGet S C))) :
    Met P w K mg base CX0 2 C "single" (U fun S => sp3 (pSingle S C)) := by
  refine met0 D sc_Maker_single rfl fun f cdv A outer s H vs Q E hr h => ?_
  obtain ⟨S, h⟩ := h
  replace c_Maker_get := c_Maker_get.at S
  obtain ⟨_, _, _, rfl, a, n, i, o, rfl, rfl, rfl, rfl, ho, hi, M0, hn, q⟩ := h
  refine ⟨_, (pss_cons (ps_if (pt_cmpR op_eq (pv 1) pe_str (nomark _))
      (pss_one (ps_ret (pv 2)))
      pss_nil)
    (pss_one (ps_ret (pe_mt c_Maker_get hr (by decide) pass0 (pv 0) (pa_cons (pe_tup (pa_cons (pe_ifExp (pt_cmpR op_eq (pv 1) pe_str (nomark _)) pe_str pe_str) (pa_cons (pv 2) pa_nil))) pa_nil))))), ?_⟩
  refine B.x_start (σ' := [some (.ref a.x), some (.str o.nm), some (nt i)]) rfl ?_
  walk_at "go"
  cases o with
  | move =>

    refine x_yes rfl ?_
    walk_at "go"
    exact q i n H (Nat.le_refl _) (by omega) hi M0 (.refl H)
  | inv =>
    refine x_no rfl ?_
    walk_at "go"
    intro t ht
    walk_at "go"
    exact get_step (.inv i) M0 (by omega) hi ht q
  | twice =>
    refine x_no rfl ?_
    walk_at "go"
    intro t ht
    walk_at "go"
    exact get_step (.later i) M0 (by omega) (show i < n + 1 by omega) ht q
  | half => exact absurd rfl ho
def pDouble (S : Nat → Prop) (C : Addr) : V → V → V → V → Hp → VK → XK → Prop := fun x y z u H Q _ => ∃ (a : MAd) (n i j : Nat) (o : O2), a.C = C ∧ x = .ref a.x ∧ y = .str o.nm ∧ z = nt i ∧ u = nt j ∧ i < n ∧ j < n ∧ Mk S H a n ∧ n < 99000 ∧ Goes S a n 8 H Q
theorem ok_double (G : Txt K w mg d) (T : MTxt K C) (D : Mf K C "double" "Maker.double" s_Maker_double ["self", "word", "one", "other"]) (c_Maker_get : Met P w K mg base CX0 1 C "get" (U fun S => sp2 (pGet S C)))
    (c_Maker_added : Met P w K mg base CX0 2 C "added" (U fun S => sp3 (pTwo S C 6))) (c_Maker_taken : Met P w K mg base CX0 2 C "taken" (U fun S => sp3 (pTaken2 S C))) : Met P w K mg base CX0 3 C "double" (U fun S => sp4 (pDouble S C)) := by
  refine met0 D sc_Maker_double rfl fun f cdv A outer s H vs Q E hr h => ?_
  obtain ⟨S, h⟩ := h
  replace c_Maker_get := c_Maker_get.at S
  replace c_Maker_added := c_Maker_added.at S
  replace c_Maker_taken := c_Maker_taken.at S
  obtain ⟨_, _, _, _, rfl, a, n, i, j, o, rfl, rfl, rfl, rfl, rfl, hi, hj, M0, hn, q⟩ := h
  refine ⟨_, (pss_cons (ps_if (pt_cmpR op_eq (pv 1) pe_str (nomark _))
      (pss_one (ps_ret (pe_mt c_Maker_added hr (by decide) pass0 (pv 0) (pa_cons (pv 2) (pa_cons (pv 3) pa_nil)))))
      pss_nil)
    (pss_one (ps_ret (pe_ifExp (pt_cmpR op_eq (pv 1) pe_str (nomark _)) (pe_ix (ixT K) (pe_mt c_Maker_taken hr (by decide) pass0 (pv 0) (pa_cons (pv 2) (pa_cons (pv 3) pa_nil))) pe_int (fun _ _ => rfl)) (pe_mt c_Maker_get hr (by decide) pass0 (pv 0) (pa_cons (pe_tup (pa_cons (pv 1) (pa_cons (pv 2) (pa_cons (pv 3) pa_nil)))) pa_nil)))))), ?_⟩
  refine B.x_start (σ' := [some (.ref a.x), some (.str o.nm), some (nt i), some (nt j)]) rfl ?_
  walk_at "go"
  have q1 : Goes S a n 1 H Q := fun k n' H' h1 h2 => q k n' H' h1 (by omega)
  cases o with
  | add =>
    refine x_yes rfl ?_
    walk_at "go"
    exact ⟨a, n, i, j, rfl, rfl, rfl, rfl, hi, hj, M0, hn, fun k n' H' h1 h2 => q k n' H' h1 (by omega)⟩
  | take =>
    refine x_no rfl ?_
    walk_at "go"
    refine ⟨a, n, i, j, rfl, rfl, rfl, rfl, hi, hj, M0, hn, fun k1 k2 n' t H' h1 h2 h3 h4 M1 ht e => ?_⟩
    have z : atI [nt k1, nt k2] 0 = some (nt k1) := rfl
    walk_at "go"
    exact q k1 n' H' h1 h2 h3 M1 e
  | and =>
    refine x_no rfl ?_
    walk_at "go"
    intro t ht
    walk_at "go"
    exact get_step (.gate .and i j) M0 (by omega) ⟨hi, hj⟩ ht q1
  | or =>
    refine x_no rfl ?_
    walk_at "go"
    intro t ht
    walk_at "go"
    exact get_step (.gate .or i j) M0 (by omega) ⟨hi, hj⟩ ht q1
  | odd =>
    refine x_no rfl ?_
    walk_at "go"
    intro t ht
    walk_at "go"
    exact get_step (.gate .odd i j) M0 (by omega) ⟨hi, hj⟩ ht q1
end
end K7
namespace K7
open PySem PySem.Spec PyProof.Rows L2 B
section
variable {P : Program} {w : World} {K : PySem.W.Frag} {mg : Str → Option Value} {base : Heap} {d : Ads} {C : Addr} {S : Nat → Prop}
def pConst (S : Nat → Prop) (C : Addr) : V → V → Hp → VK → XK → Prop := fun x y H Q _ => ∃ (a : MAd) (n m : Nat), a.C = C ∧ x = .ref a.x ∧ y = nt m ∧ m < 16777216 ∧ Mk S H a n ∧ n < 99000 ∧ Goes S a n 60 H Q
/-- nothing, or a place below n -/
def NoneOr (n : Nat) (v : V) : Prop := v = .non ∨ ∃ k, v = nt k ∧ k < n
theorem ok_const (G : Txt K w mg d) (T : MTxt K C) (D : Mf K C "constant" "Maker.constant" s_Maker_constant ["self", "number"]) (c_Maker_get : Met P w K mg base CX0 1 C "get" (U fun S => sp2 (pGet S C))) :
    Met P w K mg base CX0 2 C "constant" (U fun S => sp2 (pConst S C)) := by
  refine met0 D sc_Maker_constant rfl fun f cdv A outer s H vs Q E hr h => ?_
  obtain ⟨S, h⟩ := h
  replace c_Maker_get := c_Maker_get.at S
  obtain ⟨_, _, rfl, a, n, m, rfl, rfl, rfl, hm, M0, hn, q⟩ := h
  refine ⟨_, (pss_cons (ps_set (i := 2) sc_Maker_constant.nd rfl (Or.inl rfl) pe_non)
    (pss_cons (ps_set (i := 3) sc_Maker_constant.nd rfl (Or.inl rfl) (pe_mt c_Maker_get hr (by decide) pass0 (pv 0) (pa_cons (pe_tup (pa_cons pe_str pa_nil)) pa_nil)))
    (pss_cons (ps_while PassesOwn.never (pt_cmpR op_gt (pv 1) pe_int (nomark _))
      (Evl.pss_cut (ps_if (pt_cmpR op_eq (pe_op op_mod (pv 1) pe_int) pe_int (nomark _))
        (pss_one (ps_set (i := 2) sc_Maker_constant.nd rfl (Or.inl rfl) (pe_ifExp (pt_cmpR op_isN (pv 2) pe_non (nomark _)) (pv 3) (pe_mt c_Maker_get hr (by decide) pass0 (pv 0) (pa_cons (pe_tup (pa_cons pe_str (pa_cons (pv 2) (pa_cons (pv 3) pa_nil)))) pa_nil)))))
        pss_nil)
      (pss_cons (ps_set (i := 1) sc_Maker_constant.nd rfl (Or.inl rfl) (pe_op op_fdiv (pv 1) pe_int))
      (pss_one (ps_if (pt_cmpR op_gt (pv 1) pe_int (nomark _))
        (pss_one (ps_set (i := 3) sc_Maker_constant.nd rfl (Or.inl rfl) (pe_mt c_Maker_get hr (by decide) pass0 (pv 0) (pa_cons (pe_tup (pa_cons pe_str (pa_cons (pv 3) pa_nil))) pa_nil))))
        pss_nil)))))
    (pss_one (ps_ret (pe_ifExp (pt_cmpR op_isN (pv 2) pe_non (nomark _)) (pe_mt c_Maker_get hr (by decide) pass0 (pv 0) (pa_cons (pe_tup (pa_cons pe_str pa_nil)) pa_nil)) (pv 2))))))), ?_⟩
  refine B.x_start (σ' := [some (.ref a.x), some (nt m), none, none]) rfl ?_
  walk_at "go"
  intro t0 ht0
  walk_at "go"
  refine get_step .first M0 (by omega) trivial ht0 fun k0 n0 H0 a0 b0 c0 M0' e0 => ?_
  walk_at "go"
  refine x_while (fun j σ H' => ∃ (m p n' : Nat) (v : V), σ = [some (.ref a.x), some (nt m), some v, some (nt p)] ∧ j ≤ 24 ∧ m < 2 ^ j ∧ n ≤ n' ∧ n' ≤ n + 1 + 2 * (24 - j) ∧ p < n' ∧ NoneOr n' v ∧ Mk S H' a n' ∧ Kp a.mem H H') 24 ⟨m, k0, n0, .non, rfl, Nat.le_refl _, hm, a0, by omega, c0, .inl rfl, M0', e0⟩ ?_
  rintro j σ H1 ⟨m, p, n1, v, rfl, hj, hm2, h1, h2, hp, hv, M1, e1⟩
  walk_at "go"
  refine x_ite (fun e => ?_) (fun e => ?_)
  · have hm0 : 0 < m := by simp at e; omega
    obtain ⟨j, rfl⟩ : ∃ i, j = i + 1 := by
      cases j with
      | zero => simp at hm2; omega
      | succ i => exact ⟨i, rfl⟩
    have hd : m / 2 < 2 ^ j := by rw [Nat.pow_succ] at hm2; omega
    refine ⟨fun σ H' => ∃ (m p n' : Nat) (v : V), σ = [some (.ref a.x), some (nt m), some v, some (nt p)] ∧ j ≤ 24 ∧ m < 2 ^ j ∧ n ≤ n' ∧ n' ≤ n + 1 + 2 * (24 - j) ∧ p < n' ∧ NoneOr n' v ∧ Mk S H' a n' ∧ Kp a.mem H H', fun σ2 H2 z => ⟨j, Nat.lt_succ_self _, z⟩, ?_⟩
    -- the later half of a turn
    have tail : ∀ (n2 : Nat) (v2 : V) (H2 : Hp), n ≤ n2 → n2 ≤ n + 2 + 2 * (24 - (j + 1)) → p < n2 → NoneOr n2 v2 → Mk S H2 a n2 → Kp a.mem H H2 → ∀ (e2 : (m / 2 : Nat) > 0 ∨ m / 2 = 0) (k : Nat → Nat → Hp → Prop), (∀ p3 n3 H3, n ≤ n3 → n3 ≤ n + 1 + 2 * (24 - j) → p3 < n3 → NoneOr n3 v2 → Mk S H3 a n3 → Kp a.mem H H3 → k p3 n3 H3) → True := fun _ _ _ _ _ _ _ _ _ _ _ _ => trivial
    walk_at "go"
    refine x_cut (fun σ H' => ∃ (n' : Nat) (v : V), σ = [some (.ref a.x), some (nt m), some v, some (nt p)] ∧ n1 ≤ n' ∧ n' ≤ n1 + 1 ∧ NoneOr n' v ∧ Mk S H' a n' ∧ Kp a.mem H H') ?_ ?_
    · walk_at "go"
      refine x_ite (fun e2 => ?_) (fun e2 => ?_)
      · walk_at "go"
        rcases hv with rfl | ⟨k, rfl, hk⟩
        · try (refine x_yes rfl ?_)
          walk_at "go"
          exact ⟨n1, nt p, rfl, Nat.le_refl _, by omega, .inr ⟨p, rfl, hp⟩, M1, e1⟩
        · try (refine x_no rfl ?_)
          walk_at "go"
          intro t ht
          walk_at "go"
          refine get_step (.gate .or k p) M1 (by omega) ⟨hk, hp⟩ ht fun k3 n3 H3 a3 b3 c3 M3 e3 => ?_
          walk_at "go"
          exact ⟨n3, nt k3, rfl, a3, b3, .inr ⟨k3, rfl, c3⟩, M3, e1.trans e3⟩
      · walk_at "go"
        refine ⟨n1, v, rfl, Nat.le_refl _, by omega, hv, M1, e1⟩
    · rintro σ2 H2 ⟨n2, v2, rfl, a2, b2, hv2, M2, e2⟩
      walk_at "go"
      have ed : ((m : Int) / 2) = ((m / 2 : Nat) : Int) := by omega
      rw [ed]
      refine x_ite (fun e3 => ?_) (fun e3 => ?_)
      · walk_at "go"
        intro t ht
        walk_at "go"
        refine get_step (.later p) M2 (by omega) (show p < n2 + 1 by omega) ht fun k3 n3 H3 a3 b3 c3 M3 e3 => ?_
        walk_at "go"
        exact ⟨m / 2, k3, n3, v2, rfl, by omega, hd, by omega, by omega, c3, hv2.imp id (fun ⟨k, z1, z2⟩ => ⟨k, z1, by omega⟩), M3, e2.trans e3⟩
      · walk_at "go"
        exact ⟨m / 2, p, n2, v2, rfl, by omega, hd, by omega, by omega, by omega, hv2, M2, e2⟩
  · walk_at "go"
    rcases hv with rfl | ⟨k, rfl, hk⟩
    · try (refine x_yes rfl ?_)
      walk_at "go"
      intro t ht
      walk_at "go"
      refine get_step .none M1 (by omega) trivial ht fun k3 n3 H3 a3 b3 c3 M3 e3 => ?_
      exact q k3 n3 H3 (by omega) (by omega) c3 M3 (e1.trans e3)
    · try (refine x_no rfl ?_)
      walk_at "go"
      exact q k n1 H1 (by omega) (by omega) hk M1 e1
/-- a straight row, its loops in S -/
def Ins.str (S : Nat → Prop) : Ins → Prop
  | .put r n => (r < 8 ∧ S r) ∧ n < 16777216
  | .one o r p => o ≠ .half ∧ (r < 8 ∧ S r) ∧ p < 8 ∧ S p
  | .two _ r p q => (r < 8 ∧ S r) ∧ (p < 8 ∧ S p) ∧ q < 8 ∧ S q
  | .less f p q => f < 4 ∧ (p < 8 ∧ S p) ∧ q < 8 ∧ S q
  | .same f p q => f < 4 ∧ (p < 8 ∧ S p) ∧ q < 8 ∧ S q
  | _ => False
theorem Mk.putL {a : MAd} {n r v : Nat} {H : Hp} {R : Hp → Prop} (hM : Mk S H a n) (hr : r < 8 ∧ S r) (hv : v < n) (k : ∀ H', Mk S H' a n → Kp a.mem H H' → R H') : ∃ b H4, V.ref a.l = .ref b ∧ DPut H b (nt r) (nt v) H4 ∧ R H4 := by
  obtain ⟨cells, ads, L, F, N, M, rfl⟩ := hM
  have few := M.lok.few (m := 8) fun r h => h.1
  exact ⟨a.l, _, rfl, DPut.k (k := Sum.inl (r : Int)) M.lo (by rw [dOf, List.length_map, sizeLine_eq]; omega), k _ ⟨_, _, _, _, _, M.putL hr hv, rfl⟩ (Kp.set (.inr (.inl rfl)))⟩
theorem Mk.putF {a : MAd} {n r v : Nat} {H : Hp} {R : Hp → Prop} (hM : Mk S H a n) (hr : r < 4) (hv : v < n) (k : ∀ H', Mk S H' a n → Kp a.mem H H' → R H') : ∃ b H4, V.ref a.f = .ref b ∧ DPut H b (nt r) (nt v) H4 ∧ R H4 := by
  obtain ⟨cells, ads, L, F, N, M, rfl⟩ := hM
  have few := M.fok.few (m := 4) fun r h => h
  exact ⟨a.f, _, rfl, DPut.k (k := Sum.inl (r : Int)) M.fl (by rw [dOf, List.length_map, sizeLine_eq]; omega), k _ ⟨_, _, _, _, _, M.putF hr hv, rfl⟩ (Kp.set (.inr (.inr (.inl rfl))))⟩
theorem Mk.not_tup {a : MAd} {n : Nat} {H : Hp} (hM : Mk S H a n) {b : Addr} {xs : List V} (hb : H b = some (.tup xs)) : ¬ a.mem b := by
  obtain ⟨cells, ads, L, F, N, M, rfl⟩ := hM
  exact (M.nt_ hb).1
def pLay (S : Nat → Prop) (C : Addr) : V → V → Hp → VK → XK → Prop := fun x y H Q _ => ∃ (a : MAd) (n : Nat) (t : Addr) (i : Ins), a.C = C ∧ x = .ref a.x ∧ y = .ref t ∧ Mk S H a n ∧ n < 90000 ∧ H t = some (.tup i.vals) ∧ i.str S ∧
  ∀ (n' : Nat) (H' : Hp), n ≤ n' → n' ≤ n + 62 → Mk S H' a n' → Kp a.mem H H' → Q .non H'
theorem ok_lay (G : Txt K w mg d) (T : MTxt K C) (D : Mf K C "lay" "Maker.lay" s_Maker_lay ["self", "row"]) (c_Maker_loop : Met P w K mg base CX0 2 C "loop" (U fun S => sp2 (pLoopM S C))) (c_Maker_constant : Met P w K mg base CX0 2 C "constant" (U fun S => sp2 (pConst S C)))
    (c_Maker_taken : Met P w K mg base CX0 2 C "taken" (U fun S => sp3 (pTaken2 S C))) (c_Maker_alike : Met P w K mg base CX0 2 C "alike" (U fun S => sp3 (pTwo S C 4))) (c_Maker_single : Met P w K mg base CX0 2 C "single" (U fun S => sp3 (pSingle S C))) (c_Maker_double : Met P w K mg base CX0 3 C "double" (U fun S => sp4 (pDouble S C))) :
    Met P w K mg base CX0 4 C "lay" (U fun S => sp2 (pLay S C)) := by
  refine met0 D sc_Maker_lay rfl fun f cdv A outer s H vs Q E hr h => ?_
  obtain ⟨S, h⟩ := h
  replace c_Maker_loop := c_Maker_loop.at S
  replace c_Maker_constant := c_Maker_constant.at S
  replace c_Maker_taken := c_Maker_taken.at S
  replace c_Maker_alike := c_Maker_alike.at S
  replace c_Maker_single := c_Maker_single.at S
  replace c_Maker_double := c_Maker_double.at S
  obtain ⟨_, _, rfl, a, n, t, i, rfl, rfl, rfl, M0, hn, ht, hi, q⟩ := h
  refine ⟨_, (pss_cons (ps_set (i := 2) sc_Maker_lay.nd rfl (Or.inl rfl) (pe_ix (ixT K) (pv 1) pe_int (fun _ _ => rfl)))
    (pss_one (ps_if (pt_cmpR op_eq (pv 2) pe_str (nomark _))
      (pss_one (ps_dput (hu_of hr) (fldK K (pv 0)) (pe_ix (ixT K) (pv 1) pe_int (fun _ _ => rfl)) (pe_mt c_Maker_constant hr (by decide) pass0 (pv 0) (pa_cons (pe_ix (ixT K) (pv 1) pe_int (fun _ _ => rfl)) pa_nil)) rfl))
      (pss_one (ps_if (pt_cmpR (inS K) (pv 2) (pe_tup (pa_cons pe_str (pa_cons pe_str pa_nil))) (by rfl))
        (pss_cons (ps_par (i := 3) (j := 4) (by rfl) sc_Maker_lay.nd rfl rfl (by decide) rfl rfl (pa_cons (pe_mt c_Maker_loop hr (by decide) pass0 (pv 0) (pa_cons (pe_ix (ixT K) (pv 1) pe_int (fun _ _ => rfl)) pa_nil)) (pa_cons (pe_mt c_Maker_loop hr (by decide) pass0 (pv 0) (pa_cons (pe_ix (ixT K) (pv 1) pe_int (fun _ _ => rfl)) pa_nil)) pa_nil)) (by rfl))
        (pss_one (ps_if (pt_cmpR op_eq (pv 2) pe_str (nomark _))
          (pss_one (ps_dput (hu_of hr) (fldK K (pv 0)) (pe_ix (ixT K) (pv 1) pe_int (fun _ _ => rfl)) (pe_ix (ixT K) (pe_mt c_Maker_taken hr (by decide) pass0 (pv 0) (pa_cons (pv 3) (pa_cons (pv 4) pa_nil))) pe_int (fun _ _ => rfl)) rfl))
          (pss_one (ps_dput (hu_of hr) (fldK K (pv 0)) (pe_ix (ixT K) (pv 1) pe_int (fun _ _ => rfl)) (pe_mt c_Maker_alike hr (by decide) pass0 (pv 0) (pa_cons (pv 3) (pa_cons (pv 4) pa_nil))) rfl)))))
        (pss_one (ps_if (pt_cmpR op_eq (pe_callB (lenS K) (by rfl) G.n_len (by decide +kernel) (pa_cons (pv 1) pa_nil)) pe_int (nomark _))
          (pss_one (ps_dput (hu_of hr) (fldK K (pv 0)) (pe_ix (ixT K) (pv 1) pe_int (fun _ _ => rfl)) (pe_mt c_Maker_single hr (by decide) pass0 (pv 0) (pa_cons (pv 2) (pa_cons (pe_mt c_Maker_loop hr (by decide) pass0 (pv 0) (pa_cons (pe_ix (ixT K) (pv 1) pe_int (fun _ _ => rfl)) pa_nil)) pa_nil))) rfl))
          (pss_one (ps_dput (hu_of hr) (fldK K (pv 0)) (pe_ix (ixT K) (pv 1) pe_int (fun _ _ => rfl)) (pe_mt c_Maker_double hr (by decide) pass0 (pv 0) (pa_cons (pv 2) (pa_cons (pe_mt c_Maker_loop hr (by decide) pass0 (pv 0) (pa_cons (pe_ix (ixT K) (pv 1) pe_int (fun _ _ => rfl)) pa_nil)) (pa_cons (pe_mt c_Maker_loop hr (by decide) pass0 (pv 0) (pa_cons (pe_ix (ixT K) (pv 1) pe_int (fun _ _ => rfl)) pa_nil)) pa_nil)))) rfl))))))))), ?_⟩
  refine B.x_start (σ' := [some (.ref a.x), some (.ref t), none, none, none]) rfl ?_
  have z0 : atI i.vals 0 = some (.str i.nm) := atI_nat (j := 0) rfl
  have nm := M0.not_tup ht
  walk_at "go"
  cases i with
  | put r m =>
    obtain ⟨hr8, hm⟩ := hi
    have z1 : atI (Ins.put r m).vals 1 = some (nt r) := rfl
    have z2 : atI (Ins.put r m).vals 2 = some (nt m) := rfl
    try (refine x_yes rfl ?_)
    walk_at "go"
    refine ⟨a, n, m, rfl, rfl, rfl, hm, M0, by omega, fun k n1 H1 a1 b1 c1 M1 e1 => ?_⟩
    have ht1 := e1.at ht nm
    walk_at "go"
    refine M1.putL hr8 c1 fun H2 M2 e2 => ?_
    walk_at "go"
    exact q n1 H2 a1 (by omega) M2 (e1.trans e2)
  | one o r p =>
    obtain ⟨ho, hr8, hp8, hpS⟩ := hi
    have z1 : atI (Ins.one o r p).vals 1 = some (nt r) := rfl
    have z2 : atI (Ins.one o r p).vals 2 = some (nt p) := rfl
    have zl : ((Ins.one o r p).vals.length : Int) = 3 := rfl
    refine x_no (by cases o <;> rfl) ?_
    walk_at "go"
    intro l hl
    have ht1 : upd H l (.tup [.str "less", .str "same"]) t = some (.tup (Ins.one o r p).vals) := by walk_at "hp"
    have M1 := M0.keep0 (.new (o := .tup [.str "less", .str "same"]) hl)
    walk_at "go"
    refine x_no (by cases o <;> rfl) ?_
    walk_at "go"
    try (refine x_yes rfl ?_)
    walk_at "go"
    refine ⟨a, n, p, rfl, rfl, rfl, hp8, hpS, M1, by omega, fun k n2 H2 a2 b2 c2 M2 e2 => ?_⟩
    walk_at "go"
    refine ⟨a, n2, k, o, rfl, rfl, rfl, rfl, ho, c2, M2, by omega, fun k3 n3 H3 a3 b3 c3 M3 e3 => ?_⟩
    have e : Kp a.mem H H3 := ((Kp.new hl).trans e2).trans e3
    have ht3 := e.at ht nm
    walk_at "go"
    refine M3.putL hr8 c3 fun H4 M4 e4 => ?_
    walk_at "go"
    exact q n3 H4 (by omega) (by omega) M4 (e.trans e4)
  | two o r p x =>
    obtain ⟨hr8, hp8, hx8, hxS⟩ := hi
    have z1 : atI (Ins.two o r p x).vals 1 = some (nt r) := rfl
    have z2 : atI (Ins.two o r p x).vals 2 = some (nt p) := rfl
    have z3 : atI (Ins.two o r p x).vals 3 = some (nt x) := rfl
    refine x_no (by cases o <;> rfl) ?_
    walk_at "go"
    intro l hl
    have ht1 : upd H l (.tup [.str "less", .str "same"]) t = some (.tup (Ins.two o r p x).vals) := by walk_at "hp"
    have M1 := M0.keep0 (.new (o := .tup [.str "less", .str "same"]) hl)
    walk_at "go"
    refine x_no (by cases o <;> rfl) ?_
    walk_at "go"
    try (refine x_no rfl ?_)
    walk_at "go"
    refine ⟨a, n, p, rfl, rfl, rfl, hp8.1, hp8.2, M1, by omega, fun k n2 H2 a2 b2 c2 M2 e2 => ?_⟩
    have ht2 := ((Kp.new (M := a.mem) (o := .tup [.str "less", .str "same"]) hl).trans e2).at ht nm
    walk_at "go"
    refine ⟨a, n2, x, rfl, rfl, rfl, hx8, hxS, M2, by omega, fun k3 n3 H3 a3 b3 c3 M3 e3 => ?_⟩
    walk_at "go"
    refine ⟨a, n3, k, k3, o, rfl, rfl, rfl, rfl, rfl, by omega, c3, M3, by omega, fun k4 n4 H4 a4 b4 c4 M4 e4 => ?_⟩
    have e : Kp a.mem H H4 := (((Kp.new hl).trans e2).trans e3).trans e4
    have ht4 := e.at ht nm
    walk_at "go"
    refine M4.putL hr8 c4 fun H5 M5 e5 => ?_
    walk_at "go"
    exact q n4 H5 (by omega) (by omega) M5 (e.trans e5)
  | less f0 p x =>
    obtain ⟨hf, hp8, hx8, hxS⟩ := hi
    have z1 : atI (Ins.less f0 p x).vals 1 = some (nt f0) := rfl
    have z2 : atI (Ins.less f0 p x).vals 2 = some (nt p) := rfl
    have z3 : atI (Ins.less f0 p x).vals 3 = some (nt x) := rfl
    try (refine x_no rfl ?_)
    walk_at "go"
    intro l hl
    have ht1 : upd H l (.tup [.str "less", .str "same"]) t = some (.tup (Ins.less f0 p x).vals) := by walk_at "hp"
    have M1 := M0.keep0 (.new (o := .tup [.str "less", .str "same"]) hl)
    walk_at "go"
    try (refine x_yes rfl ?_)
    walk_at "go"
    refine ⟨a, n, p, rfl, rfl, rfl, hp8.1, hp8.2, M1, by omega, fun k n2 H2 a2 b2 c2 M2 e2 => ?_⟩
    have ht2 := ((Kp.new (M := a.mem) (o := .tup [.str "less", .str "same"]) hl).trans e2).at ht nm
    walk_at "go"
    refine ⟨a, n2, x, rfl, rfl, rfl, hx8, hxS, M2, by omega, fun k3 n3 H3 a3 b3 c3 M3 e3 => ?_⟩
    walk_at "go"
    try (refine x_yes rfl ?_)
    walk_at "go"
    refine ⟨a, n3, k, k3, rfl, rfl, rfl, rfl, by omega, c3, M3, by omega, fun k4 k5 n4 t4 H4 a4 b4 c4 d4 M4 ht4 e4 => ?_⟩
    have z5 : atI [nt k4, nt k5] 1 = some (nt k5) := rfl
    have e : Kp a.mem H H4 := (((Kp.new hl).trans e2).trans e3).trans e4
    have ht5 := e.at ht nm
    walk_at "go"
    refine M4.putF hf d4 fun H5 M5 e5 => ?_
    walk_at "go"
    exact q n4 H5 (by omega) (by omega) M5 (e.trans e5)
  | same f0 p x =>
    obtain ⟨hf, hp8, hx8, hxS⟩ := hi
    have z1 : atI (Ins.same f0 p x).vals 1 = some (nt f0) := rfl
    have z2 : atI (Ins.same f0 p x).vals 2 = some (nt p) := rfl
    have z3 : atI (Ins.same f0 p x).vals 3 = some (nt x) := rfl
    try (refine x_no rfl ?_)
    walk_at "go"
    intro l hl
    have ht1 : upd H l (.tup [.str "less", .str "same"]) t = some (.tup (Ins.same f0 p x).vals) := by walk_at "hp"
    have M1 := M0.keep0 (.new (o := .tup [.str "less", .str "same"]) hl)
    walk_at "go"
    try (refine x_yes rfl ?_)
    walk_at "go"
    refine ⟨a, n, p, rfl, rfl, rfl, hp8.1, hp8.2, M1, by omega, fun k n2 H2 a2 b2 c2 M2 e2 => ?_⟩
    have ht2 := ((Kp.new (M := a.mem) (o := .tup [.str "less", .str "same"]) hl).trans e2).at ht nm
    walk_at "go"
    refine ⟨a, n2, x, rfl, rfl, rfl, hx8, hxS, M2, by omega, fun k3 n3 H3 a3 b3 c3 M3 e3 => ?_⟩
    walk_at "go"
    try (refine x_no rfl ?_)
    walk_at "go"
    refine ⟨a, n3, k, k3, rfl, rfl, rfl, rfl, by omega, c3, M3, by omega, fun k4 n4 H4 a4 b4 c4 M4 e4 => ?_⟩
    have e : Kp a.mem H H4 := (((Kp.new hl).trans e2).trans e3).trans e4
    have ht5 := e.at ht nm
    walk_at "go"
    refine M4.putF hf c4 fun H5 M5 e5 => ?_
    walk_at "go"
    exact q n4 H5 (by omega) (by omega) M5 (e.trans e5)
  | _ => exact hi.elim
end
end K7
namespace K7
open PySem PySem.Spec PyProof.Rows L2 B N7
/-! ### nets -/
structure Net where
  cells : List Cell
  loops : List (Nat × Nat)
  flags : List (Nat × Nat)
structure NAd where
  p : Addr
  pc : Addr
  pl : Addr
  pf : Addr
  ca : List Addr
  la : List Addr
  fa : List Addr
/-- pairs of ints at such addresses -/
structure PrAt (H : Hp) (ads : List Addr) (ps : List (Nat × Nat)) : Prop where
  len : ads.length = ps.length
  row : ∀ (i : Nat) (ad : Addr) (p : Nat × Nat), ads[i]? = some ad → ps[i]? = some p → H ad = some (.tup [nt p.1, nt p.2])
structure ClAt (H : Hp) (ads : List Addr) (cs : List Cell) : Prop where
  len : ads.length = cs.length
  row : ∀ (i : Nat) (ad : Addr) (c : Cell), ads[i]? = some ad → cs[i]? = some c → H ad = some (.tup c.vals)
structure NetAt (K : PySem.W.Frag) (H : Hp) (a : NAd) (N : Net) : Prop where
  top : H a.p = some (.tup [.ref a.pc, .ref a.pl, .ref a.pf])
  cs : SqT K H a.pc (a.ca.map V.ref)
  lo : FT H a.pl (a.la.map V.ref)
  fl : FT H a.pf (a.fa.map V.ref)
  cl : ClAt H a.ca N.cells
  ll : PrAt H a.la N.loops
  ff : PrAt H a.fa N.flags
structure PrOk (P : Nat → Prop) (n : Nat) (ps : List (Nat × Nat)) : Prop where
  up : (ps.map (·.1)).Pairwise (· < ·)
  at_ : ∀ p ∈ ps, P p.1 ∧ p.2 < n
structure NetOk (S : Nat → Prop) (N : Net) : Prop where
  few : N.cells.length ≤ 3000
  ok : ∀ (i : Nat) (c : Cell), N.cells[i]? = some c → c.ok S i N.cells.length
  lo : PrOk (fun r => r < 8 ∧ S r) N.cells.length N.loops
  fl : PrOk (· < 4) N.cells.length N.flags
section
variable {K : PySem.W.Frag} {H H' : Hp} {M : Addr → Prop}
theorem FT.keep {a : Addr} {xs : List V} (h : FT H a xs) (k : Kp M H H') (n : ¬ M a) : FT H' a xs := by
  obtain ⟨o, e, h⟩ := h
  exact ⟨o, e, k.at h n⟩
theorem PrAt.keep0 {ads : List Addr} {ps : List (Nat × Nat)} (h : PrAt H ads ps) (k : Kp No H H') : PrAt H' ads ps := ⟨h.len, fun i ad p h1 h2 => k.at0 (h.row i ad p h1 h2)⟩
theorem ClAt.keep0 {ads : List Addr} {cs : List Cell} (h : ClAt H ads cs) (k : Kp No H H') : ClAt H' ads cs := ⟨h.len, fun i ad p h1 h2 => k.at0 (h.row i ad p h1 h2)⟩
/-- M holds no tuple -/
def NoTup (M : Addr → Prop) (H : Hp) : Prop := ∀ a, M a → (∀ xs, H a ≠ some (.tup xs)) ∧ ∀ o xs, H a ≠ some (.frz o (.tup xs))
theorem NoTup.no {H : Hp} : NoTup No H := fun _ z => z.elim
theorem Kp.tup (k : Kp M H H') (n : NoTup M H) {a : Addr} {xs : List V} (h : H a = some (.tup xs)) : H' a = some (.tup xs) := k.at h fun z => (n a z).1 xs h
theorem Kp.ft (k : Kp M H H') (n : NoTup M H) {a : Addr} {xs : List V} (h : FT H a xs) : FT H' a xs := by
  obtain ⟨o, e, h⟩ := h
  exact ⟨o, e, k.at h fun z => (n a z).2 o xs h⟩
theorem Kp.sqt (k : Kp M H H') (n : NoTup M H) {a : Addr} {xs : List V} (h : SqT K H a xs) : SqT K H' a xs := by
  rcases h with (h | ⟨o, h⟩) | h
  · exact .inl (.inl (Kp.tup k n h))
  · exact .inl (.inr ⟨o, k.at h fun z => (n a z).2 o xs h⟩)
  · exact .inr h
theorem PrAt.keep {ads : List Addr} {ps : List (Nat × Nat)} (h : PrAt H ads ps) (k : Kp M H H') (n : NoTup M H) : PrAt H' ads ps := ⟨h.len, fun i ad p h1 h2 => Kp.tup k n (h.row i ad p h1 h2)⟩
theorem ClAt.keep {ads : List Addr} {cs : List Cell} (h : ClAt H ads cs) (k : Kp M H H') (n : NoTup M H) : ClAt H' ads cs := ⟨h.len, fun i ad p h1 h2 => Kp.tup k n (h.row i ad p h1 h2)⟩
theorem NetAt.keep {a : NAd} {N : Net} (h : NetAt K H a N) (k : Kp M H H') (n : NoTup M H) : NetAt K H' a N := ⟨Kp.tup k n h.top, Kp.sqt k n h.cs, Kp.ft k n h.lo, Kp.ft k n h.fl, h.cl.keep k n, h.ll.keep k n, h.ff.keep k n⟩
theorem NetAt.keep0 {a : NAd} {N : Net} (h : NetAt K H a N) (k : Kp No H H') : NetAt K H' a N := h.keep k .no
theorem PrAt.nil : PrAt H [] [] := ⟨rfl, fun i ad p h1 => by simp at h1⟩
theorem PrAt.snoc {ads : List Addr} {ps : List (Nat × Nat)} (h : PrAt H ads ps) {t : Addr} {p : Nat × Nat} (ht : H t = some (.tup [nt p.1, nt p.2])) : PrAt H (ads ++ [t]) (ps ++ [p]) := by
  refine ⟨by simp [h.len], fun i ad q h1 h2 => ?_⟩
  rcases Nat.lt_trichotomy i ps.length with z | z | z
  · rw [List.getElem?_append_left (by rw [h.len]; exact z)] at h1
    rw [List.getElem?_append_left z] at h2
    exact h.row i ad q h1 h2
  · subst z
    rw [List.getElem?_append_right (by rw [h.len]; exact Nat.le_refl _), h.len, Nat.sub_self] at h1
    rw [List.getElem?_append_right (Nat.le_refl _), Nat.sub_self] at h2
    cases h1
    cases h2
    exact ht
  · rw [List.getElem?_eq_none (by simp; omega)] at h2
    cases h2
theorem ClAt.nil : ClAt H [] [] := ⟨rfl, fun i ad p h1 => by simp at h1⟩
theorem ClAt.snoc {ads : List Addr} {cs : List Cell} (h : ClAt H ads cs) {t : Addr} {c : Cell} (ht : H t = some (.tup c.vals)) : ClAt H (ads ++ [t]) (cs ++ [c]) := by
  refine ⟨by simp [h.len], fun i ad q h1 h2 => ?_⟩
  rcases Nat.lt_trichotomy i cs.length with z | z | z
  · rw [List.getElem?_append_left (by rw [h.len]; exact z)] at h1
    rw [List.getElem?_append_left z] at h2
    exact h.row i ad q h1 h2
  · subst z
    rw [List.getElem?_append_right (by rw [h.len]; exact Nat.le_refl _), h.len, Nat.sub_self] at h1
    rw [List.getElem?_append_right (Nat.le_refl _), Nat.sub_self] at h2
    cases h1
    cases h2
    exact ht
  · rw [List.getElem?_eq_none (by simp; omega)] at h2
    cases h2
end
section
variable {P : Program} {w : World} {K : PySem.W.Frag} {mg : Str → Option Value} {base : Heap} {d : Ads} {C : Addr} {S : Nat → Prop}
/-! ### Maker() -/
theorem putF_le (f : Str) (v : V) : ∀ fs : List (Str × V), (putF f v fs).length ≤ fs.length + 1
  | [] => Nat.le_refl _
  | (g, u) :: fs => by
    show (if g = f then (g, v) :: fs else (g, u) :: putF f v fs).length ≤ _
    have ih := putF_le f v fs
    split
    · simp
    · simp; omega
theorem putF_few {f : Str} {v : V} {fs : List (Str × V)} {n : Nat} (h : fs.length ≤ n) : (putF f v fs).length ≤ n + 1 := Nat.le_trans (putF_le f v fs) (Nat.succ_le_succ h)
def pInit : V → Hp → VK → XK → Prop := fun x H Q _ => ∃ (b C dx : Addr), x = .ref b ∧ H b = some (.ins C dx []) ∧ (∀ H' (a : MAd), a.x = b → a.C = C → H a.c = none → H a.l = none → H a.f = none → H a.k = none → Mk S H' a 0 → Kp (fun z => z = b) H H' → Q .non H')
theorem ok_init (G : Txt K w mg d) (T : MTxt K C) (D : If K mg C "Maker" "Maker.__init__" s_Maker_init ["self"]) : Mak P w K mg base CX0 1 "Maker" C (U fun S => sp1 (fun x H Q E => ∃ (b dx : Addr), x = .ref b ∧ H b = some (.ins C dx []) ∧
    (∀ H' (a : MAd), a.x = b → a.C = C → H a.c = none → H a.l = none → H a.f = none → H a.k = none → Mk S H' a 0 → Kp (fun z => z = b) H H' → Q .non H'))) := by
  refine mak0 D sc_Maker_init rfl fun f cdv A outer s H vs Q E hr h => ?_
  obtain ⟨S, h⟩ := h
  obtain ⟨_, rfl, b, dx, rfl, hb, q⟩ := h
  refine ⟨_, (pss_cons (sfldK K (pv 0) (pe_lst pa_nil))
    (pss_cons (sfldK K (pv 0) pe_dnewK)
    (pss_cons (sfldK K (pv 0) pe_dnewK)
    (pss_one (sfldK K (pv 0) pe_dnewT))))), ?_⟩
  refine B.x_start (σ' := [some (.ref b)]) rfl ?_
  walk_at "go"
  intro pc hpc
  have nc : b ≠ pc := ne_of_none hb hpc
  walk_at "go"
  refine ⟨b, C, dx, [], rfl, by rw [upd_ne nc]; exact hb, T.cl, T.na _ (.inl rfl), by decide, ?_⟩
  walk_at "go"
  intro pl hpl
  have nl : b ≠ pl := fun z => by rw [← z, upd_same] at hpl; cases hpl
  have hpl0 : H pl = none ∧ pl ≠ pc := by
    rw [upd_ne nl.symm] at hpl
    by_cases z : pl = pc
    · rw [z, upd_same] at hpl; cases hpl
    · exact ⟨by rw [upd_ne z] at hpl; exact hpl, z⟩
  walk_at "go"
  refine ⟨b, C, dx, _, rfl, by rw [upd_ne nl, upd_same], T.cl, T.na _ (.inr (.inl rfl)), Nat.lt_of_le_of_lt (putF_few (n := 0) (fs := []) (Nat.le_refl 0)) (by decide), ?_⟩
  walk_at "go"
  intro pf hpf
  have nf : b ≠ pf := fun z => by rw [← z, upd_same] at hpf; cases hpf
  have hpf0 : H pf = none ∧ pf ≠ pc ∧ pf ≠ pl := by
    rw [upd_ne nf.symm] at hpf
    by_cases z : pf = pl
    · rw [z, upd_same] at hpf; cases hpf
    · rw [upd_ne z, upd_ne nf.symm] at hpf
      by_cases z2 : pf = pc
      · rw [z2, upd_same] at hpf; cases hpf
      · exact ⟨by rw [upd_ne z2] at hpf; exact hpf, z2, z⟩
  walk_at "go"
  refine ⟨b, C, dx, _, rfl, by rw [upd_ne nf, upd_same], T.cl, T.na _ (.inr (.inr (.inl rfl))), Nat.lt_of_le_of_lt (putF_few (n := 1) (putF_few (n := 0) (fs := []) (Nat.le_refl 0))) (by decide), ?_⟩
  walk_at "go"
  intro pk hpk
  have nk : b ≠ pk := fun z => by rw [← z, upd_same] at hpk; cases hpk
  have hpk0 : H pk = none ∧ pk ≠ pc ∧ pk ≠ pl ∧ pk ≠ pf := by
    rw [upd_ne nk.symm] at hpk
    by_cases z : pk = pf
    · rw [z, upd_same] at hpk; cases hpk
    · rw [upd_ne z, upd_ne nk.symm] at hpk
      by_cases z2 : pk = pl
      · rw [z2, upd_same] at hpk; cases hpk
      · rw [upd_ne z2, upd_ne nk.symm] at hpk
        by_cases z3 : pk = pc
        · rw [z3, upd_same] at hpk; cases hpk
        · exact ⟨by rw [upd_ne z3] at hpk; exact hpk, z3, z2, z⟩
  walk_at "go"
  refine ⟨b, C, dx, _, rfl, by rw [upd_ne nk, upd_same], T.cl, T.na _ (.inr (.inr (.inr rfl))), Nat.lt_of_le_of_lt (putF_few (n := 2) (putF_few (n := 1) (putF_few (n := 0) (fs := []) (Nat.le_refl 0)))) (by decide), ?_⟩
  walk_at "go"
  refine q _ ⟨b, C, dx, pc, pl, pf, pk⟩ rfl rfl hpc hpl0.1 hpf0.1 hpk0.1 ⟨[], [], [], [], [], ⟨?_, ?_, rfl, fun i ad c h1 => (by simp at h1), ?_, ?_, ?_, hpf0.2.2.symm, fun i c h1 => (by simp at h1), ⟨fun p hp => (by cases hp), List.nodup_nil⟩, ⟨fun p hp => (by cases hp), List.nodup_nil⟩, fun p hp => (by cases hp), Nat.le_refl _⟩, rfl⟩ ?_
  · rw [upd_same]
    rfl
  · rw [upd_ne nc.symm, upd_ne hpk0.2.1.symm, upd_ne nc.symm, upd_ne hpf0.2.1.symm, upd_ne nc.symm, upd_ne hpl0.2.symm, upd_ne nc.symm, upd_same]
    rfl
  · rw [upd_ne nl.symm, upd_ne hpk0.2.2.1.symm, upd_ne nl.symm, upd_ne hpf0.2.2.symm, upd_ne nl.symm, upd_same]
    rfl
  · rw [upd_ne nf.symm, upd_ne hpk0.2.2.2.symm, upd_ne nf.symm, upd_same]
    rfl
  · rw [upd_ne nk.symm, upd_same]
  · have s : ∀ {A : Hp} {o : HO}, Kp (fun z => z = b) H A → Kp (fun z => z = b) H (upd A b o) := fun k => k.trans (.set rfl)
    exact s ((s ((s ((s (Kp.new hpc)).old hpl0.1)).old hpf0.1)).old hpk0.1)
end
end K7
namespace K7
open PySem PySem.Spec PyProof.Rows L2 B N7
section
variable {P : Program} {w : World} {K : PySem.W.Frag} {mg : Str → Option Value} {base : Heap} {d : Ads} {C : Addr} {S : Nat → Prop}
/-- what a dict's keys, sorted, and their values come to -/
def Came (L : List (Nat × Nat)) (ys : List Int) (H0 : Hp) (D : Addr) (i : Nat) (H' : Hp) : Prop := Kp No H0 H' ∧ ∃ (ads : List Addr) (ps : List (Nat × Nat)), H' D = some (.lst (ads.map V.ref)) ∧ PrAt H' ads ps ∧ ps.map (fun p => (p.1 : Int)) = ys.take i ∧ ∀ p ∈ ps, p ∈ L
theorem Came.zero {L : List (Nat × Nat)} {ys : List Int} {H0 : Hp} {D : Addr} (hD : H0 D = none) : Came L ys H0 D 0 (upd H0 D (.lst [])) := ⟨.new hD, [], [], upd_same, .nil, rfl, fun p hp => (by cases hp)⟩
theorem Came.next {L : List (Nat × Nat)} {ys : List Int} {H0 H' : Hp} {D t : Addr} {i : Nat} (h : Came L ys H0 D i H') (hD : H0 D = none) (ht : H' t = none) {r n : Nat} (hy : ys[i]? = some (r : Int)) (hm : (r, n) ∈ L) (hi : i < 100) :
    ∃ acc, upd H' t (.tup [nt r, nt n]) D = some (.lst acc) ∧ acc.length < sizeLine ∧ Came L ys H0 D (i + 1) (upd (upd H' t (.tup [nt r, nt n])) D (.lst (acc ++ [.ref t]))) := by
  obtain ⟨k, ads, ps, h1, h2, h3, h4⟩ := h
  have htD : D ≠ t := ne_of_none h1 ht
  have hl : ps.length ≤ i := by have := congrArg List.length h3; simp at this; omega
  refine ⟨ads.map V.ref, by rw [upd_ne htD]; exact h1, by rw [List.length_map, h2.len, sizeLine_eq]; omega, (k.old (by
    cases q : H0 t with
    | none => rfl
    | some o => rw [k.at0 q] at ht; cases ht)).old hD, ads ++ [t], ps ++ [(r, n)], by rw [upd_same, List.map_append]; rfl, ?_, ?_, fun p hp => ?_⟩
  · have k2 : Kp (fun z => z = D) H' (upd (upd H' t (.tup [nt r, nt n])) D (.lst (ads.map V.ref ++ [.ref t]))) := (Kp.new ht).trans (.set rfl)
    have nD : NoTup (fun z => z = D) H' := fun a z => by
      rw [z]
      exact ⟨fun xs e => (by rw [h1] at e; cases e), fun o xs e => (by rw [h1] at e; cases e)⟩
    exact (h2.keep k2 nD).snoc (by rw [upd_ne htD.symm, upd_same])
  · rw [List.map_append, h3, take_one hy]
    rfl
  · rcases List.mem_append.mp hp with hp | hp
    · exact h4 p hp
    · rw [List.mem_singleton.mp hp]; exact hm
theorem Came.done {L : List (Nat × Nat)} {Pp : Nat → Prop} {n : Nat} {ys : List Int} {ps : List (Nat × Nat)} (hL : Dok Pp n L) (h3 : ps.map (fun p => (p.1 : Int)) = ys) (hup : ys.Pairwise (· < ·)) (h4 : ∀ p ∈ ps, p ∈ L) : PrOk Pp n ps := by
  refine ⟨?_, fun p hp => hL.at_ p (h4 p hp)⟩
  rw [← h3, List.pairwise_map] at hup
  rw [List.pairwise_map]
  exact hup.imp fun h => by omega
def pNet (K : PySem.W.Frag) (S : Nat → Prop) (C : Addr) : V → Hp → VK → XK → Prop := fun x H Q _ => ∃ (a : MAd) (n : Nat), a.C = C ∧ x = .ref a.x ∧ Mk S H a n ∧ n ≤ 3000 ∧ ∀ (b : NAd) (N : Net) (H' : Hp), NetOk S N → N.cells.length = n → NetAt K H' b N → Kp No H H' → Q (.ref b.p) H'
theorem ok_net (G : Txt K w mg d) (T : MTxt K C) (D : Mf K C "net" "Maker.net" s_Maker_net ["self"]) : Met P w K mg base CX0 1 C "net" (U fun S => sp1 (pNet K S C)) := by
  refine met0 D sc_Maker_net rfl fun f cdv A outer s H vs Q E hr h => ?_
  obtain ⟨S, h⟩ := h
  obtain ⟨_, rfl, a, n, rfl, rfl, M0, hn, q⟩ := h
  refine ⟨_, (pss_cons (ps_set (i := 1) sc_Maker_net.nd rfl (Or.inl rfl) (pe_callTy (N7.tupF K) (by rfl) G.n_tuple (by decide +kernel) (pa_cons (pe_lc (own := [("loop", 2)]) (g := gName 2) (tt := tYes) rfl sc_Maker_net.nd (piL K (pe_callB (N7.cr_sortDK rfl hr.units) (by rfl) G.n_sorted (by decide +kernel) (pa_cons (fldK K (pv 0)) pa_nil))) (blkOk_by (own := [("loop", 2)]) (N := N_Maker_net) (sc := defScope s_Maker_net) (by decide +kernel)) (fun _ _ _ _ _ => (pg_name (i := 2) sc_Maker_net.nd rfl (Or.inl rfl))) (fun _ _ _ _ _ => pts_nil) (fun _ _ _ _ _ => (pe_tup (pa_cons (pv 2) (pa_cons (pe_dget (hu_of hr) (fldK K (pv 0)) (pv 2) (fun _ _ => rfl)) pa_nil))))) pa_nil)))
    (pss_one (ps_ret (pe_tup (pa_cons (pe_callTy (N7.tupF K) (by rfl) G.n_tuple (by decide +kernel) (pa_cons (fldK K (pv 0)) pa_nil)) (pa_cons (pv 1) (pa_cons (pe_callTy (N7.tupF K) (by rfl) G.n_tuple (by decide +kernel) (pa_cons (pe_lc (own := [("flag", 3)]) (g := gName 3) (tt := tYes) rfl sc_Maker_net.nd (piL K (pe_callB (N7.cr_sortDK rfl hr.units) (by rfl) G.n_sorted (by decide +kernel) (pa_cons (fldK K (pv 0)) pa_nil))) (blkOk_by (own := [("flag", 3)]) (N := N_Maker_net) (sc := defScope s_Maker_net) (by decide +kernel)) (fun _ _ _ _ _ => (pg_name (i := 3) sc_Maker_net.nd rfl (Or.inl rfl))) (fun _ _ _ _ _ => pts_nil) (fun _ _ _ _ _ => (pe_tup (pa_cons (pv 3) (pa_cons (pe_dget (hu_of hr) (fldK K (pv 0)) (pv 3) (fun _ _ => rfl)) pa_nil))))) pa_nil)) pa_nil))))))), ?_⟩
  refine B.x_start (σ' := [some (.ref a.x), none, none, none]) rfl ?_
  obtain ⟨cells, ads, L, F, N, M, rfl⟩ := id M0
  have ob := M.ob
  have few8 := M.lok.few (m := 8) fun r h => h.1
  have few4 := M.fok.few (m := 4) fun r h => h
  walk_at "go"
  refine ⟨a.l, dOf L, L.map (fun p => (p.1 : Int)), rfl, M.lo, by simp [dOf], ?_, by rw [List.length_map]; omega, fun ys ql hql hup hmem => ?_⟩
  · rw [List.nodup_iff_pairwise_ne, List.pairwise_map]
    have := M.lok.nd
    rw [List.nodup_iff_pairwise_ne, List.pairwise_map] at this
    exact this.imp fun h z => h (by omega)
  have k1 : Kp No H (upd H ql (.lst (ys.map V.int))) := .new hql
  have hys : ys.length ≤ 8 := by
    have q2 := nat_nodup_len (ys.map Int.toNat) (L.map (·.1)) (by
      rw [List.nodup_iff_pairwise_ne, List.pairwise_map]
      refine List.Pairwise.imp_of_mem (fun {x y} hx hy h z => ?_) hup
      obtain ⟨p, _, rfl⟩ := List.mem_map.mp ((hmem x).mp hx)
      obtain ⟨p2, _, rfl⟩ := List.mem_map.mp ((hmem y).mp hy)
      omega) fun x hx => by
        obtain ⟨y, hy, rfl⟩ := List.mem_map.mp hx
        obtain ⟨p, hp, rfl⟩ := List.mem_map.mp ((hmem y).mp hy)
        exact List.mem_map.mpr ⟨p, hp, by simp⟩
    simp at q2
    omega
  walk_at "go"
  refine lc_l (ys.map V.int) (fun D i H' => Came L ys (upd H ql (.lst (ys.map V.int))) D i H') (fun D hD => .zero hD) (fun D i H' _ z => (SqL.of (z.1.at0 upd_same))) ?_ ?_
  · rintro D i x H' hD hx c
    rw [List.getElem?_map, Option.map_eq_some_iff] at hx
    obtain ⟨y, hy, rfl⟩ := hx
    obtain ⟨⟨r, n0⟩, hp, e⟩ := List.mem_map.mp ((hmem y).mp (List.mem_of_getElem? hy))
    simp only at e
    subst e
    have M1 := M.keep (k1.trans c.1) (fun z => z) (fun _ _ z => z) fun _ _ z => z
    have ob1 := M1.ob
    have hi : i < 100 := by have := (List.getElem?_eq_some_iff.mp hy).1; omega
    have hv : ∃ n1, valV (dOf L) (Sum.inl (r : Int)) = some (nt n1) ∧ (r, n1) ∈ L := by
      have hin : (valV (dOf L) (Sum.inl (r : Int) : L2.Key)).isSome = true := by
        unfold valV
        rw [Option.isSome_map, List.find?_isSome]
        exact ⟨_, List.mem_map.mpr ⟨_, hp, rfl⟩, by simp⟩
      obtain ⟨v, hv⟩ := Option.isSome_iff_exists.mp hin
      obtain ⟨n1, rfl, hn1⟩ := val_dOf hv
      exact ⟨n1, hv, hn1⟩
    obtain ⟨n1, hv, hn1⟩ := hv
    walk_at "go"
    refine ⟨rfl, ?_⟩
    walk_at "go"
    refine ⟨a.l, nt n1, rfl, by rw [← hv]; exact DGet.k (k := Sum.inl (r : Int)) M1.lo, ?_⟩
    walk_at "go"
    intro t ht
    exact c.next hD ht hy hn1 hi
  · rintro D H1 hD ⟨k2, la, ps, e1, e2, e3, e4⟩
    rw [List.take_of_length_le (by simp)] at e3
    walk_at "go"
    intro l o hl ho
    have k3 : Kp No H (upd H1 l (.frz o (.tup (la.map V.ref)))) := (k1.trans k2).trans (.new hl)
    have hft : FT (upd H1 l (.frz o (.tup (la.map V.ref)))) l (la.map V.ref) := ⟨o, ho, upd_same⟩
    have pr1 := e2.keep0 (.new (o := .frz o (.tup (la.map V.ref))) hl)
    have ok1 := Came.done M.lok e3 hup e4
    have M2 := M.keep k3 (fun z => z) (fun _ _ z => z) fun _ _ z => z
    generalize upd H1 l (.frz o (.tup (la.map V.ref))) = H2 at *
    have ob2 := M2.ob
    have cl2 := M2.cl
    walk_at "go"
    intro pc o2 hpc ho2
    have M3 := M2.keep (Kp.new (M := No) (o := .frz o2 (.tup (ads.map V.ref))) hpc) (fun z => z) (fun _ _ z => z) fun _ _ z => z
    have hft3 := FT.keep hft (Kp.new (M := No) (o := .frz o2 (.tup (ads.map V.ref))) hpc) fun z => z
    have hc3 : FT (upd H2 pc (.frz o2 (.tup (ads.map V.ref)))) pc (ads.map V.ref) := ⟨o2, ho2, upd_same⟩
    have pr3 := pr1.keep0 (Kp.new (o := .frz o2 (.tup (ads.map V.ref))) hpc)
    have k4 := k3.trans (Kp.new (M := No) (o := .frz o2 (.tup (ads.map V.ref))) hpc)
    generalize upd H2 pc (.frz o2 (.tup (ads.map V.ref))) = H3 at *
    have ob3 := M3.ob
    walk_at "go"
    refine ⟨a.f, dOf F, F.map (fun p => (p.1 : Int)), rfl, M3.fl, by simp [dOf], ?_, by rw [List.length_map]; omega, fun zs qf hqf hupz hmemz => ?_⟩
    · rw [List.nodup_iff_pairwise_ne, List.pairwise_map]
      have := M.fok.nd
      rw [List.nodup_iff_pairwise_ne, List.pairwise_map] at this
      exact this.imp fun h z => h (by omega)
    have k5 : Kp No H3 (upd H3 qf (.lst (zs.map V.int))) := .new hqf
    have hzs : zs.length ≤ 4 := by
      have q2 := nat_nodup_len (zs.map Int.toNat) (F.map (·.1)) (by
        rw [List.nodup_iff_pairwise_ne, List.pairwise_map]
        refine List.Pairwise.imp_of_mem (fun {x y} hx hy h z => ?_) hupz
        obtain ⟨p, _, rfl⟩ := List.mem_map.mp ((hmemz x).mp hx)
        obtain ⟨p2, _, rfl⟩ := List.mem_map.mp ((hmemz y).mp hy)
        omega) fun x hx => by
          obtain ⟨y, hy, rfl⟩ := List.mem_map.mp hx
          obtain ⟨p, hp, rfl⟩ := List.mem_map.mp ((hmemz y).mp hy)
          exact List.mem_map.mpr ⟨p, hp, by simp⟩
      simp at q2
      omega
    walk_at "go"
    refine lc_l (zs.map V.int) (fun D i H' => Came F zs (upd H3 qf (.lst (zs.map V.int))) D i H') (fun D hD => .zero hD) (fun D i H' _ z => (SqL.of (z.1.at0 upd_same))) ?_ ?_
    · rintro D i x H' hD hx c
      rw [List.getElem?_map, Option.map_eq_some_iff] at hx
      obtain ⟨y, hy, rfl⟩ := hx
      obtain ⟨⟨r, n0⟩, hp, e⟩ := List.mem_map.mp ((hmemz y).mp (List.mem_of_getElem? hy))
      simp only at e
      subst e
      have M4 := M3.keep (k5.trans c.1) (fun z => z) (fun _ _ z => z) fun _ _ z => z
      have ob4 := M4.ob
      have hi : i < 100 := by have := (List.getElem?_eq_some_iff.mp hy).1; omega
      have hv : ∃ n1, valV (dOf F) (Sum.inl (r : Int)) = some (nt n1) ∧ (r, n1) ∈ F := by
        have hin : (valV (dOf F) (Sum.inl (r : Int) : L2.Key)).isSome = true := by
          unfold valV
          rw [Option.isSome_map, List.find?_isSome]
          exact ⟨_, List.mem_map.mpr ⟨_, hp, rfl⟩, by simp⟩
        obtain ⟨v, hv⟩ := Option.isSome_iff_exists.mp hin
        obtain ⟨n1, rfl, hn1⟩ := val_dOf hv
        exact ⟨n1, hv, hn1⟩
      obtain ⟨n1, hv, hn1⟩ := hv
      walk_at "go"
      refine ⟨rfl, ?_⟩
      walk_at "go"
      refine ⟨a.f, nt n1, rfl, by rw [← hv]; exact DGet.k (k := Sum.inl (r : Int)) M4.fl, ?_⟩
      walk_at "go"
      intro t ht
      exact c.next hD ht hy hn1 hi
    · rintro D2 H5 hD2 ⟨k6, fa, ps2, f1, f2, f3, f4⟩
      rw [List.take_of_length_le (by simp)] at f3
      walk_at "go"
      intro pf o3 hpf ho3
      walk_at "go"
      intro pp hpp
      have k7 : Kp No H3 (upd (upd H5 pf (.frz o3 (.tup (fa.map V.ref)))) pp (.tup [.ref pc, .ref l, .ref pf])) := ((k5.trans k6).trans (.new hpf)).trans (.new hpp)
      have M7 := M3.keep k7 (fun z => z) (fun _ _ z => z) fun _ _ z => z
      refine q ⟨pp, pc, l, pf, ads, la, fa⟩ ⟨cells, ps, ps2⟩ _ ⟨hn, M.ok, ok1, Came.done M.fok f3 hupz f4⟩ rfl ⟨upd_same, (FT.keep hc3 k7 fun z => z).sq, FT.keep hft3 k7 (fun z => z), ?_, ⟨M.len, M7.row⟩, pr3.keep0 k7, (f2.keep0 (.new hpf)).keep0 (.new hpp)⟩ (k4.trans k7)
      exact FT.keep ⟨o3, ho3, upd_same⟩ (Kp.new (M := No) hpp) fun z => z
end
end K7
namespace K7
open PySem PySem.Spec PyProof.Rows L2 B N7
/-- what was changed is new -/
theorem Kp.fresh {M : Addr → Prop} {H H1 H2 : Hp} (k1 : Kp No H H1) (k2 : Kp M H1 H2) (h : ∀ b, M b → H b = none) : Kp No H H2 := fun b o e _ => by
  refine k2 b o (k1.at0 e) fun z => ?_
  rw [h b z] at e
  cases e
section
variable {P : Program} {w : World} {K : PySem.W.Frag} {mg : Str → Option Value} {base : Heap} {d : Ads} {C : Addr} {S : Nat → Prop}
theorem str_in : ∀ i : Ins, i.str S → inV (.str i.nm) (straight.map V.str) = true := by
  intro i h
  cases i with
  | one o _ _ => cases o with
    | half => exact absurd rfl h.1
    | _ => rfl
  | two o _ _ _ => cases o <;> rfl
  | put _ _ => rfl
  | less _ _ _ => rfl
  | same _ _ _ => rfl
  | _ => exact h.elim
def pMade (K : PySem.W.Frag) (S : Nat → Prop) : V → Hp → VK → XK → Prop := fun x H Q _ => ∃ (p : Addr) (prog : List Ins) (ads : List Addr), x = .ref p ∧ ProgAt H p prog ads ∧ ProgOk prog ∧ prog.length ≤ 26 ∧ (∀ i ∈ prog, i.str S) ∧
  ∀ (b : NAd) (N : Net) (H' : Hp), NetOk S N → N.cells.length ≤ 1900 → NetAt K H' b N → Kp No H H' → Q (.ref b.p) H'
theorem ok_made (G : Txt K w mg d) (T : MTxt K C) (D : Df K mg "made" s_made ["program"]) (c_need_program : Cal P w K mg base CX0 4 "need_program" (sp1 pNeedProgram))
    (c_Maker_init : Mak P w K mg base CX0 1 "Maker" C (U fun S => sp1 (fun x H Q E => ∃ (b dx : Addr), x = .ref b ∧ H b = some (.ins C dx []) ∧ (∀ H' (a : MAd), a.x = b → a.C = C → H a.c = none → H a.l = none → H a.f = none → H a.k = none → Mk S H' a 0 → Kp (fun z => z = b) H H' → Q .non H'))))
    (c_Maker_lay : Met P w K mg base CX0 4 C "lay" (U fun S => sp2 (pLay S C))) (c_Maker_net : Met P w K mg base CX0 1 C "net" (U fun S => sp1 (pNet K S C))) : Cal P w K mg base CX0 5 "made" (U fun S => sp1 (pMade K S)) := by
  refine cal0 D sc_made rfl fun f cdv A outer s H vs Q E hr h => ?_
  obtain ⟨S, h⟩ := h
  replace c_Maker_init := c_Maker_init.at S
  replace c_Maker_lay := c_Maker_lay.at S
  replace c_Maker_net := c_Maker_net.at S
  obtain ⟨_, rfl, p, prog, ads, rfl, hp, ok, h40, hstr, q⟩ := h
  refine ⟨_, (pss_cons (ps_expr (pe_c c_need_program hr (by first | decide | omega) (by rfl) pass0 (pa_cons (pv 0) pa_nil)))
    (pss_cons (ps_for PassesOwn.never rfl (pi_range1 (by rfl) G.n_range (pa_cons (pe_callB (lenS K) (by rfl) G.n_len (by decide +kernel) (pa_cons (pv 0) pa_nil)) pa_nil)) (pg_name (i := 1) sc_made.nd rfl (Or.inl rfl))
      (pss_one (ps_if (pt_cmpR (ninS K) (pe_ix (ixT K) (pe_ix (ixT K) (pv 0) (pv 1) (fun _ _ => rfl)) pe_int (fun _ _ => rfl)) (pe_gc (by rfl) G.c_STRAIGHT) (by rfl))
        (pss_one ps_never)
        pss_nil)))
    (pss_cons (ps_set (i := 2) sc_made.nd rfl (Or.inl rfl) (pe_mk0 c_Maker_init hr (by decide) (by rfl) pass0))
    (pss_cons (ps_for PassesOwn.never rfl (piT K (pv 0)) (pg_name (i := 3) sc_made.nd rfl (Or.inl rfl))
      (pss_one (ps_expr (pe_mt c_Maker_lay hr (by decide) pass0 (pv 2) (pa_cons (pv 3) pa_nil)))))
    (pss_one (ps_ret (pe_mt0 c_Maker_net hr (by decide) pass0 (pv 2)))))))), ?_⟩
  refine B.x_start (σ' := [some (.ref p), none, none, none]) rfl ?_
  have hlen : ads.length = prog.length := hp.len
  have el : (((ads.map V.ref).length : Nat) : Int) = (prog.length : Int) := by rw [List.length_map, hlen]
  walk_at "go"
  refine ⟨p, prog, ads, rfl, hp, ok, fun H1 k1 => ?_⟩
  have hp1 := hp.keep0 k1
  have at1 := hp1.at_
  walk_at "go"
  rw [el]
  refine fr_r (n := prog.length) (fun i σ H' => ∃ o, σ = [some (V.ref p), o, none, none] ∧ H' = H1) ⟨_, rfl, rfl⟩ ?_ ?_
  · rintro i σ H' hi ⟨o, rfl, rfl⟩
    obtain ⟨ins, hins⟩ : ∃ ins, prog[i]? = some ins := ⟨prog[i], List.getElem?_eq_getElem hi⟩
    obtain ⟨ad, had⟩ : ∃ ad, ads[i]? = some ad := ⟨ads[i]'(by rw [hlen]; exact hi), List.getElem?_eq_getElem _⟩
    have hrow := hp1.row i ad ins had hins
    have e1 : atI (ads.map V.ref) (i : Int) = some (.ref ad) := atI_nat (j := i) (by rw [List.getElem?_map, had]; rfl)
    have e2 : atI ins.vals 0 = some (.str ins.nm) := atI_nat (j := 0) rfl
    walk_at "go"
    refine ⟨d.S, straight.map V.str, rfl, .inr (G.st_seq _), rfl, rfl, ?_⟩
    rw [str_in ins (hstr ins (List.mem_of_getElem? hins))]
    walk_at "go"
    exact ⟨_, rfl, rfl⟩
  rintro σ H' ⟨o, rfl, rfl⟩
  walk_at "go"
  intro x dx hx hdx hne
  walk_at "go"
  refine ⟨x, dx, rfl, upd_same, fun H2 a ax aC c1 c2 c3 c4 M2 k2 => ?_⟩
  subst ax aC
  have nox : ∀ {b : Addr}, upd (upd H' dx (.own a.x)) a.x (.ins a.C dx []) b = none → H' b = none := fun {b} e => by
    by_cases z : b = a.x
    · rw [z, upd_same] at e; cases e
    · rw [upd_ne z] at e
      by_cases z2 : b = dx
      · rw [z2, upd_same] at e; cases e
      · rw [upd_ne z2] at e; exact e
  have f1 := nox c1
  have f2 := nox c2
  have f3 := nox c3
  have f4 := nox c4
  have memf : ∀ b, a.mem b → H' b = none := fun b z => by rcases z with z | z | z | z <;> rw [z] <;> assumption
  have k3 : Kp No H' H2 := by
    refine Kp.fresh (M := fun z => z = a.x) (H1 := H') (.refl H') (((Kp.new (M := fun z => z = a.x) hdx).trans (Kp.set (M := fun z => z = a.x) rfl)).trans k2) fun b z => by rw [z]; exact hx
  have at2 := k3.at0 at1
  walk_at "go"
  refine fr_t (ads.map V.ref) (fun i σ H3 => ∃ n o o3, σ = [some (V.ref p), o, some (.ref a.x), o3] ∧ n ≤ 62 * i ∧ Mk S H3 a n ∧ Kp a.mem H2 H3) ⟨0, _, _, rfl, Nat.zero_le _, M2, .refl _⟩ (fun i σ H3 _ z => ?_) ?_ ?_
  · obtain ⟨n, o, o3, rfl, e2, e3, e4⟩ := z
    exact SqT.of (Kp.at0 (Kp.fresh k3 e4 memf) at1)
  · rintro i y σ H3 hy ⟨n, o, o3, rfl, e2, e3, e4⟩
    have k4 := Kp.fresh k3 e4 memf
    rw [List.getElem?_map, Option.map_eq_some_iff] at hy
    obtain ⟨ad, had, rfl⟩ := hy
    have hi : i < prog.length := by rw [← hlen]; exact (List.getElem?_eq_some_iff.mp had).1
    have hins : prog[i]? = some prog[i] := List.getElem?_eq_getElem hi
    have hrow := k4.at0 (hp1.row i ad _ had hins)
    walk_at "go"
    refine ⟨a, n, ad, prog[i], rfl, rfl, rfl, e3, by omega, hrow, hstr _ (List.mem_of_getElem? hins), fun n2 H4 a2 b2 M4 k5 => ?_⟩
    walk_at "go"
    exact ⟨n2, _, _, rfl, by omega, M4, e4.trans k5⟩
  · rintro σ H3 ⟨n, o, o3, rfl, e2, e3, e4⟩
    have k4 := Kp.fresh k3 e4 memf
    rw [List.length_map, hlen] at e2
    walk_at "go"
    refine ⟨a, n, rfl, rfl, e3, by omega, fun b N H4 o1 ol o2 k5 => ?_⟩
    exact q b N H4 o1 (by omega) o2 ((k1.trans k4).trans k5)
end
end K7
namespace K7
open PySem PySem.Spec PyProof.Rows L2 B N7
section
variable {P : Program} {w : World} {K : PySem.W.Frag} {mg : Str → Option Value} {base : Heap} {d : Ads} {C : Addr} {S : Nat → Prop}
def names8 : List Str := ["none", "first", "bit", "not", "and", "or", "odd", "later"]
theorem Cell.nm_in (c : Cell) : c.nm ∈ names8 := by
  cases c with
  | gate g _ _ => cases g <;> simp [Cell.nm, G2.nm, names8]
  | _ => simp [Cell.nm, names8]
theorem names8_ok : ∀ x ∈ names8, PyData.strOk x = true := by decide +kernel
theorem Cell.flat (c : Cell) : c.vals.all okF = true := by
  rw [show c.vals = .str c.nm :: c.args.map nt from rfl, List.all_cons, Bool.and_eq_true]
  refine ⟨names8_ok _ c.nm_in, List.all_eq_true.mpr fun x hx => ?_⟩
  obtain ⟨n, _, rfl⟩ := List.mem_map.mp hx
  rfl
theorem Cell.few (c : Cell) : c.form.length ≤ 2 := by cases c <;> simp [Cell.form]
theorem Cell.sorts (c : Cell) : ∀ x ∈ c.form, x = 114 ∨ x = 99 ∨ x = 108 := by cases c <;> simp [Cell.form]
theorem Cell.at_ {c : Cell} {k n : Nat} (h : c.args[k]? = some n) : c.vals[k + 1]? = some (nt n) := by
  show (c.args.map nt)[k]? = _
  rw [List.getElem?_map, h]
  rfl
def capC (i many : Int) (c : Nat) : Int := if c = 114 then 7 else if c = 99 then i - 1 else many - 1
theorem Cell.within {i many : Nat} {c : Cell} (h : c.ok S i many) : ∀ (k s n : Nat), c.form[k]? = some s → c.args[k]? = some n → (n : Int) ≤ capC i many s := by
  intro k s n h1 h2
  cases c with
  | none => simp [Cell.form] at h1
  | first => simp [Cell.form] at h1
  | bit r =>
    cases k with
    | zero => cases h1; cases h2; have := h.1; simp [capC]; omega
    | succ k => simp [Cell.form] at h1
  | inv c0 =>
    cases k with
    | zero => cases h1; cases h2; have : n < i := h; simp [capC]; omega
    | succ k => simp [Cell.form] at h1
  | gate g a b =>
    obtain ⟨ha, hb⟩ := h
    match k with
    | 0 => cases h1; cases h2; simp [capC]; omega
    | 1 => cases h1; cases h2; simp [capC]; omega
    | k + 2 => simp [Cell.form] at h1
  | later l =>
    cases k with
    | zero => cases h1; cases h2; have : n < many := h; simp [capC]; omega
    | succ k => simp [Cell.form] at h1
theorem cap_dictC (i many : Int) (s : Nat) (h : s = 114 ∨ s = 99 ∨ s = 108) : valV (mergeK [] [((Sum.inr "r" : L2.Key), V.int (8 - 1)), (Sum.inr "c", V.int (i - 1)), (Sum.inr "l", V.int (many - 1))]) (Sum.inr ⟨#[s]⟩) = some (.int (capC i many s)) := by
  rcases h with rfl | rfl | rfl <;> rfl
def pIsCell (S : Nat → Prop) : V → V → V → Hp → VK → XK → Prop := fun a b c H Q _ => ∃ (p : Addr) (ce : Cell) (i many : Nat), a = .ref p ∧ b = nt i ∧ c = nt many ∧ H p = some (.tup ce.vals) ∧ ce.ok S i many ∧ ∀ H', Kp No H H' → Q (.bl true) H'
theorem ok_is_cell (G : Txt K w mg d) (D : Df K mg "is_cell" s_is_cell ["cell", "number", "many"]) (c_is_number : Cal P w K mg base CX0 1 "is_number" (sp3 pIsNumber)) : Cal P w K mg base CX0 2 "is_cell" (U fun S => sp3 (pIsCell S)) := by
  refine cal0 D sc_is_cell rfl fun f cdv A outer s H vs Q E hr h => ?_
  obtain ⟨S, h⟩ := h
  obtain ⟨_, _, _, rfl, p, c, i, many, rfl, rfl, rfl, hp, ok, q⟩ := h
  refine ⟨_, (pss_cons (ps_if (PW.pt (pw_or (pt_not (pt_val (pe_callB (isi1 K) (by rfl) G.n_isinstance (by decide +kernel) (pa_cons (pv 0) (pa_cons (pe_bltn (v := .ty "tuple") (by rfl) G.n_tuple (by decide +kernel) rfl) pa_nil))))) (pw_or (pt_cmpR (eqD K hr.units) (pv 0) (pe_tup pa_nil) (nomark _)) (pw_or (pt_not (pt_val (pe_callB (isi1 K) (by rfl) G.n_isinstance (by decide +kernel) (pa_cons (pe_ix (ixT K) (pv 0) pe_int (fun _ _ => rfl)) (pa_cons (pe_bltn (v := .ty "str") (by rfl) G.n_str (by decide +kernel) rfl) pa_nil))))) (pw_or1 (pt_cmpR (ninKD K G.k_CELLS) (pe_ix (ixT K) (pv 0) pe_int (fun _ _ => rfl)) (pe_gc (by rfl) G.d_CELLS) (by rfl)))))))
      (pss_one (ps_ret pe_bl))
      pss_nil)
    (pss_cons (ps_set (i := 3) sc_is_cell.nd rfl (Or.inr rfl) (pe_ix (ixKD K G.k_CELLS) (pe_gc (by rfl) G.d_CELLS) (pe_ix (ixT K) (pv 0) pe_int (fun _ _ => rfl)) (fun _ _ => rfl)))
    (pss_cons (ps_if (pt_cmpR op_ne (pe_callB (lenS K) (by rfl) G.n_len (by decide +kernel) (pa_cons (pv 0) pa_nil)) (pe_op op_add (pe_callB call_len_str (by rfl) G.n_len (by decide +kernel) (pa_cons (pv 3) pa_nil)) pe_int) (nomark _))
      (pss_one (ps_ret pe_bl))
      pss_nil)
    (pss_cons (ps_set (i := 4) sc_is_cell.nd rfl (Or.inr rfl) (pe_disp (pps_cons pe_str (pe_op op_sub (pe_gc (by rfl) G.c_LOOPS) pe_int) (pps_cons pe_str (pe_op op_sub (pv 1) pe_int) (pps_cons pe_str (pe_op op_sub (pv 2) pe_int) pps_nil))) (by rfl) (by rfl) (fun z => by cases z) (by decide)))
    (pss_one (ps_ret (pe_cmpR (eqD K hr.units) (pe_lc (own := [("k", 5)]) (g := gName 5) rfl sc_is_cell.nd (pi_range1 (by rfl) G.n_range (pa_cons (pe_callB call_len_str (by rfl) G.n_len (by decide +kernel) (pa_cons (pv 3) pa_nil)) pa_nil)) (blkOk_by (own := [("k", 5)]) (N := N_is_cell) (sc := defScope s_is_cell) (by decide +kernel)) (fun _ _ _ _ _ => (pg_name (i := 5) sc_is_cell.nd rfl (Or.inl rfl))) (fun _ _ _ _ _ => pts_one (pt_not (pt_val (pe_c c_is_number hr (by first | decide | omega) (by rfl) pass0 (pa_cons (pe_ix (ixT K) (pv 0) (pe_op op_add (pv 5) pe_int) (fun _ _ => rfl)) (pa_cons pe_int (pa_cons (pe_dget (hu_of hr) (pv 4) (pe_ix ix_str (pv 3) (pv 5) (fun _ _ => rfl)) (fun _ _ => rfl)) pa_nil))))))) (fun _ _ _ _ _ => (pv 5))) (pe_lst pa_nil) (nomark _)))))))), ?_⟩
  refine B.x_start (σ' := [some (.ref p), some (nt i), some (nt many), none, none, none]) rfl ?_
  have e0 : atI c.vals 0 = some (.str c.nm) := atI_nat (j := 0) rfl
  obtain ⟨tk, hF⟩ := G.cforms c
  have hf := c.flat
  walk_at "go"
  intro e he
  have npe : p ≠ e := ne_of_none hp he
  refine x_eqNilT (SqT.of (by walk_at "hp")) (SqT.of upd_same) hf ?_
  have hp1 : (upd H e (HO.tup [])) p = some (.tup c.vals) := by walk_at "hp"
  walk_at "go"
  refine x_ninKD hF ?_
  walk_at "go"
  refine x_ixKD (v := .str ⟨c.form.toArray⟩) hF ⟨_, rfl⟩ ?_
  have hz : (⟨c.form.toArray⟩ : Str).length ≤ sizeLine := Nat.le_trans (show c.form.toArray.size ≤ 2 by rw [List.size_toArray]; exact c.few) (by decide)
  have el : (((⟨c.form.toArray⟩ : Str).length : Nat) : Int) = (c.args.length : Int) := by
    show ((c.form.toArray.size : Nat) : Int) = _
    rw [List.size_toArray, c.len]
  have ev : ((c.vals.length : Nat) : Int) = (c.args.length : Int) + 1 := by
    show (((c.args.map nt).length + 1 : Nat) : Int) = _
    rw [List.length_map]
    rfl
  walk_at "go"
  refine x_lenS hz ?_
  walk_at "go"
  refine x_no (by rw [ev, el]; simp) ?_
  walk_at "go"
  intro dd hdd
  walk_at "go"
  refine ⟨upd_same, [((Sum.inr "r" : L2.Key), V.int (8 - 1)), (Sum.inr "c", V.int ((i : Int) - 1)), (Sum.inr "l", V.int ((many : Int) - 1))], rfl, by show 3 ≤ 15; decide, ?_⟩
  have hp2 : upd (upd (upd H e (.tup [])) dd (.dK [])) dd (.dK (mergeK [] [((Sum.inr "r" : L2.Key), V.int (8 - 1)), (Sum.inr "c", V.int ((i : Int) - 1)), (Sum.inr "l", V.int ((many : Int) - 1))])) p = some (.tup c.vals) := by
    have n2 : p ≠ dd := ne_of_none hp1 hdd
    rw [upd_ne n2, upd_ne n2]
    exact hp1
  have k2 : Kp No H (upd (upd (upd H e (.tup [])) dd (.dK [])) dd (.dK (mergeK [] [((Sum.inr "r" : L2.Key), V.int (8 - 1)), (Sum.inr "c", V.int ((i : Int) - 1)), (Sum.inr "l", V.int ((many : Int) - 1))]))) := ((Kp.new he).trans (.new hdd)).old (by
    by_cases z : dd = e
    · rw [z, upd_same] at hdd; cases hdd
    · rw [upd_ne z] at hdd; exact hdd)
  have hd2 : upd (upd (upd H e (.tup [])) dd (.dK [])) dd (.dK (mergeK [] [((Sum.inr "r" : L2.Key), V.int (8 - 1)), (Sum.inr "c", V.int ((i : Int) - 1)), (Sum.inr "l", V.int ((many : Int) - 1))])) dd = some (.dK (mergeK [] [((Sum.inr "r" : L2.Key), V.int (8 - 1)), (Sum.inr "c", V.int ((i : Int) - 1)), (Sum.inr "l", V.int ((many : Int) - 1))])) := upd_same
  generalize upd (upd (upd H e (.tup [])) dd (.dK [])) dd (.dK (mergeK [] [((Sum.inr "r" : L2.Key), V.int (8 - 1)), (Sum.inr "c", V.int ((i : Int) - 1)), (Sum.inr "l", V.int ((many : Int) - 1))])) = H2 at *
  walk_at "go"
  refine x_lenS hz ?_
  rw [el]
  have few : c.args.length ≤ 2 := by rw [c.len]; exact c.few
  walk_at "go"
  refine lc_r (n := c.args.length) (fun D k H' => Kp No H2 H' ∧ H' D = some (.lst [])) (fun D hD => ⟨.new hD, upd_same⟩) ?_ ?_
  · rintro D k H' hD hk ⟨k1, k3⟩
    obtain ⟨n, hn⟩ : ∃ n, c.args[k]? = some n := ⟨c.args[k], List.getElem?_eq_getElem hk⟩
    obtain ⟨s0, hs⟩ : ∃ s0, c.form[k]? = some s0 := ⟨c.form[k]'(by rw [← c.len]; exact hk), List.getElem?_eq_getElem _⟩
    have hcap := Cell.within ok k s0 n hs hn
    have hcs := c.sorts s0 (List.mem_of_getElem? hs)
    have e1 : atI c.vals ((k : Int) + 1) = some (nt n) := atI_nat (j := k + 1) (c.at_ hn)
    have e2 : atI (⟨c.form.toArray⟩ : Str).cps.toList (k : Int) = some s0 := atI_nat (j := k) hs
    have hp3 := k1.at0 hp2
    have hd3 := k1.at0 hd2
    walk_at "go"
    refine ⟨rfl, ?_⟩
    walk_at "go"
    refine x_ixS hz e2 ?_
    walk_at "go"
    refine ⟨dd, _, rfl, .inl ⟨_, Sum.inr ⟨#[s0]⟩, .inl hd3, rfl, (cap_dictC _ _ s0 hcs).symm⟩, ?_⟩
    walk_at "go"
    refine ⟨(n : Int), 0, capC i many s0, rfl, rfl, rfl, ?_⟩
    rw [decide_eq_true (show (0 : Int) ≤ (n : Int) ∧ (n : Int) ≤ capC i many s0 from ⟨by omega, hcap⟩)]
    walk_at "go"
    exact ⟨k1, k3⟩
  · rintro D H' hD ⟨k1, k3⟩
    walk_at "go"
    intro l hl
    walk_at "go"
    exact q _ ((k2.trans k1).trans (.new hl))
theorem lay_ints (ns : List Int) : (ns.map V.int).all okF = true := List.all_eq_true.mpr fun x hx => by
  obtain ⟨n, _, rfl⟩ := List.mem_map.mp hx
  rfl
/-- a rising list is told by its members -/
theorem up_unique : ∀ {xs ys : List Int}, xs.Pairwise (· < ·) → ys.Pairwise (· < ·) → (∀ k, k ∈ xs ↔ k ∈ ys) → xs = ys
  | [], [], _, _, _ => rfl
  | [], y :: ys, _, _, h => by have := (h y).mpr List.mem_cons_self; simp at this
  | x :: xs, [], _, _, h => by have := (h x).mp List.mem_cons_self; simp at this
  | x :: xs, y :: ys, hx, hy, h => by
    obtain ⟨h1, h2⟩ := List.pairwise_cons.mp hx
    obtain ⟨h3, h4⟩ := List.pairwise_cons.mp hy
    have e : x = y := by
      rcases List.mem_cons.mp ((h x).mp List.mem_cons_self) with e | e
      · exact e
      · rcases List.mem_cons.mp ((h y).mpr List.mem_cons_self) with e2 | e2
        · exact e2.symm
        · have := h1 y e2
          have := h3 x e
          omega
    subst e
    rw [up_unique h2 h4 fun k => ?_]
    constructor
    · intro hk
      rcases List.mem_cons.mp ((h k).mp (List.mem_cons_of_mem _ hk)) with e | e
      · rw [e] at hk
        have := h1 x hk
        omega
      · exact e
    · intro hk
      rcases List.mem_cons.mp ((h k).mpr (List.mem_cons_of_mem _ hk)) with e | e
      · rw [e] at hk
        have := h3 x hk
        omega
      · exact e
/-- two lists of the same ints -/
theorem x_eqSame {H : Hp} {Q : VK} {a b : Addr} {xs : List V} (ha : SqL K H a xs) (hb : SqL K H b xs) (hf : xs.all okF = true) (k : Q (.bl true) H) : rEqD K (.ref a) (.ref b) H Q :=
  ⟨_, _, .lst ha (dpAll_flat hf), .lst hb (dpAll_flat hf), shaped_flatL hf, shaped_flatL hf, by rw [SeqAt.eqv_refl _ (by rw [PyData.canLay0]; exact lay_flat hf)]; exact k⟩
def pAreTold (K : PySem.W.Frag) : V → V → V → Hp → VK → XK → Prop := fun a b c H Q _ => ∃ (P : Nat → Prop) (p : Addr) (ads : List Addr) (ps : List (Nat × Nat)) (most many : Nat), a = .ref p ∧ b = nt most ∧ c = nt many ∧ SqT K H p (ads.map V.ref) ∧ PrAt H ads ps ∧ PrOk P many ps ∧ (∀ r, P r → r < most) ∧ most ≤ 8 ∧ ∀ H', Kp No H H' → Q (.bl true) H'
theorem ok_are_told (G : Txt K w mg d) (D : Df K mg "are_told" s_are_told ["pairs", "most", "many"]) (c_is_number : Cal P w K mg base CX0 1 "is_number" (sp3 pIsNumber)) : Cal P w K mg base CX0 2 "are_told" (sp3 (pAreTold K)) := by
  refine cal0 D sc_are_told rfl fun f cdv A outer s H vs Q E hr h => ?_
  obtain ⟨_, _, _, rfl, Pp, p, ads, ps, most, many, rfl, rfl, rfl, hp, pr, ok, hP, h8, q⟩ := h
  refine ⟨_, (pss_cons (ps_if (pt_not (pt_val (pe_callB (isi1 K) (by rfl) G.n_isinstance (by decide +kernel) (pa_cons (pv 0) (pa_cons (pe_bltn (v := .ty "tuple") (by rfl) G.n_tuple (by decide +kernel) rfl) pa_nil)))))
      (pss_one (ps_ret pe_bl))
      pss_nil)
    (pss_cons (ps_for PassesOwn.never rfl (piT K (pv 0)) (pg_name (i := 3) sc_are_told.nd rfl (Or.inl rfl))
      (pss_cons (ps_if (PW.pt (pw_or (pt_not (pt_val (pe_callB (isi1 K) (by rfl) G.n_isinstance (by decide +kernel) (pa_cons (pv 3) (pa_cons (pe_bltn (v := .ty "tuple") (by rfl) G.n_tuple (by decide +kernel) rfl) pa_nil))))) (pw_or (pt_cmpR op_ne (pe_callB (lenS K) (by rfl) G.n_len (by decide +kernel) (pa_cons (pv 3) pa_nil)) pe_int (nomark _)) (pw_or1 (pt_not (pt_val (pe_c c_is_number hr (by first | decide | omega) (by rfl) pass0 (pa_cons (pe_ix (ixT K) (pv 3) pe_int (fun _ _ => rfl)) (pa_cons pe_int (pa_cons (pe_op op_sub (pv 1) pe_int) pa_nil))))))))))
        (pss_one (ps_ret pe_bl))
        pss_nil)
      (pss_one (ps_if (pt_not (pt_val (pe_c c_is_number hr (by first | decide | omega) (by rfl) pass0 (pa_cons (pe_ix (ixT K) (pv 3) pe_int (fun _ _ => rfl)) (pa_cons pe_int (pa_cons (pe_op op_sub (pv 2) pe_int) pa_nil))))))
        (pss_one (ps_ret pe_bl))
        pss_nil))))
    (pss_cons (ps_setLc (i := 4) (own := [("number", 5), ("cell", 6)]) (tt := tYes) rfl sc_are_told.nd rfl rfl (sw_true rfl rfl rfl (by decide +kernel)) (piT K (pv 0)) (blkOk_by (own := [("number", 5), ("cell", 6)]) (N := N_are_told) (sc := defScope s_are_told) (by decide +kernel)) (fun _ _ _ _ _ => (pgT (n := 2) K (by rfl) (pgs_cons (pg_name (i := 5) sc_are_told.nd rfl (Or.inl rfl)) (pgs_cons (pg_name (i := 6) sc_are_told.nd rfl (Or.inl rfl)) pgs_nil)))) (fun _ _ _ _ _ => pts_nil) (fun _ _ _ _ _ => (pv 5)))
    (pss_one (ps_ret (pe_cmpR (eqD K hr.units) (pv 4) (pe_callB (N7.sortI w rfl hr.units) (by rfl) G.n_sorted (by decide +kernel) (pa_cons (pe_callTy (N7.setI K w rfl) (by rfl) G.n_set (by decide +kernel) (pa_cons (pv 4) pa_nil)) pa_nil)) (nomark _))))))), ?_⟩
  refine B.x_start (σ' := [some (.ref p), some (nt most), some (nt many), none, none, none, none]) rfl ?_
  walk_at "go"
  refine fr_t (ads.map V.ref) (fun i σ H' => ∃ o, σ = [some (V.ref p), some (nt most), some (nt many), o, none, none, none] ∧ H' = H) ⟨_, rfl, rfl⟩ (fun i σ H' _ z => by obtain ⟨o, _, rfl⟩ := z; exact hp) ?_ ?_
  · rintro i y σ H' hy ⟨o, rfl, rfl⟩
    rw [List.getElem?_map, Option.map_eq_some_iff] at hy
    obtain ⟨ad, had, rfl⟩ := hy
    have hi : i < ps.length := by rw [← pr.len]; exact (List.getElem?_eq_some_iff.mp had).1
    obtain ⟨⟨r, n⟩, hpi⟩ : ∃ x, ps[i]? = some x := ⟨ps[i], List.getElem?_eq_getElem hi⟩
    have hrow := pr.row i ad _ had hpi
    obtain ⟨hPr, hn⟩ := ok.at_ _ (List.mem_of_getElem? hpi)
    have hr8 := hP r hPr
    have z0 : atI [nt r, nt n] 0 = some (nt r) := rfl
    have z1 : atI [nt r, nt n] 1 = some (nt n) := rfl
    simp only at hrow hn
    walk_at "go"
    refine ⟨(r : Int), 0, (most : Int) - 1, rfl, rfl, rfl, ?_⟩
    rw [decide_eq_true (show (0 : Int) ≤ (r : Int) ∧ (r : Int) ≤ (most : Int) - 1 by omega)]
    walk_at "go"
    refine ⟨(n : Int), 0, (many : Int) - 1, rfl, rfl, rfl, ?_⟩
    rw [decide_eq_true (show (0 : Int) ≤ (n : Int) ∧ (n : Int) ≤ (many : Int) - 1 by omega)]
    walk_at "go"
    exact ⟨_, rfl, rfl⟩
  rintro σ H' ⟨o, rfl, rfl⟩
  walk_at "go"
  have few : ps.length ≤ 8 := by
    have q2 := nat_nodup_len (ps.map (·.1)) (List.range 8) (show (ps.map (·.1)).Nodup from ok.up.imp fun h => Nat.ne_of_lt h) fun x hx => by
      obtain ⟨y, hy, rfl⟩ := List.mem_map.mp hx
      have := hP _ (ok.at_ y hy).1
      exact List.mem_range.mpr (by omega)
    simpa using q2
  refine lc_t (ads.map V.ref) (fun D i H2 => Kp No H' H2 ∧ H2 D = some (.lst ((ps.take i).map fun p => nt p.1))) (fun D hD => ⟨.new hD, upd_same⟩) (fun D i H2 _ z => Kp.seqT z.1 (fun z => z) hp) ?_ ?_
  · rintro D i y H2 hD hy ⟨k1, k2⟩
    rw [List.getElem?_map, Option.map_eq_some_iff] at hy
    obtain ⟨ad, had, rfl⟩ := hy
    have hi : i < ps.length := by rw [← pr.len]; exact (List.getElem?_eq_some_iff.mp had).1
    obtain ⟨⟨r, n⟩, hpi⟩ : ∃ x, ps[i]? = some x := ⟨ps[i], List.getElem?_eq_getElem hi⟩
    have hrow := k1.at0 (pr.row i ad _ had hpi)
    simp only at hrow
    walk_at "go"
    refine ⟨rfl, ?_⟩
    walk_at "go"
    refine ⟨_, k2, by rw [List.length_map, List.length_take, sizeLine_eq]; omega, k1.old hD, ?_⟩
    rw [upd_same, take_one hpi, List.map_append]
    rfl
  · rintro D H2 hD ⟨k1, k2⟩
    rw [List.take_of_length_le (by rw [List.length_map, pr.len]; exact Nat.le_refl _)] at k2
    walk_at "go"
    have eL : (ps.map fun p => nt p.1) = (ps.map fun p => (p.1 : Int)).map V.int := by rw [List.map_map]; rfl
    refine ⟨D, ps.map (fun p => (p.1 : Int)), rfl, SqL.of (by rw [← eL]; exact k2), by rw [List.length_map]; omega, fun a n ha hn => ?_⟩
    have k3 : Kp No H2 (upd H2 a (SetO w a (fun j => decide (j ∈ ps.map (fun p => (p.1 : Int)))) n)) := .new ha
    walk_at "go"
    refine ⟨a, _, n, rfl, upd_same, by rw [List.length_map] at hn; omega, fun ys l hl hup hmem => ?_⟩
    have hys : ys = ps.map (fun p => (p.1 : Int)) := by
      refine up_unique hup ?_ fun k => by rw [hmem k]; simp
      rw [List.pairwise_map]
      have := ok.up
      rw [List.pairwise_map] at this
      exact this.imp fun h => by omega
    subst hys
    walk_at "go"
    refine x_eqSame (xs := (ps.map fun p => (p.1 : Int)).map V.int) (SqL.of ?_) (SqL.of upd_same) (lay_ints _) ?_
    · rw [upd_ne (ne_of_none (k3.at0 k2) hl)]
      rw [← eL]
      exact k3.at0 k2
    · exact q _ ((k1.trans k3).trans (.new hl))
def pNeedNet (S : Nat → Prop) (K : PySem.W.Frag) : V → Hp → VK → XK → Prop := fun x H Q _ => ∃ (a : NAd) (N : Net), x = .ref a.p ∧ NetAt K H a N ∧ NetOk S N ∧ ∀ H', Kp No H H' → Q .non H'
theorem ok_need_net (G : Txt K w mg d) (D : Df K mg "need_net" s_need_net ["net"]) (c_is_cell : Cal P w K mg base CX0 2 "is_cell" (U fun S => sp3 (pIsCell S))) (c_are_told : Cal P w K mg base CX0 2 "are_told" (sp3 (pAreTold K))) : Cal P w K mg base CX0 3 "need_net" (U fun S => sp1 (pNeedNet S K)) := by
  refine cal0 D sc_need_net rfl fun f cdv A outer s H vs Q E hr h => ?_
  obtain ⟨S, h⟩ := h
  replace c_is_cell := c_is_cell.at S
  obtain ⟨_, rfl, a, N, rfl, hN, ok, q⟩ := h
  refine ⟨_, (pss_cons (ps_asg (pv 0) (pgT (n := 3) K (by rfl) (pgs_cons (pg_name (i := 1) sc_need_net.nd rfl (Or.inl rfl)) (pgs_cons (pg_name (i := 2) sc_need_net.nd rfl (Or.inl rfl)) (pgs_cons (pg_name (i := 3) sc_need_net.nd rfl (Or.inl rfl)) pgs_nil)))))
    (pss_cons (ps_for PassesOwn.never rfl (pi_range1 (by rfl) G.n_range (pa_cons (pe_callB (lenS K) (by rfl) G.n_len (by decide +kernel) (pa_cons (pv 1) pa_nil)) pa_nil)) (pg_name (i := 4) sc_need_net.nd rfl (Or.inl rfl))
      (pss_one (ps_if (PW.pt (pw_or (pt_cmpR op_ge (pv 4) (pe_gc (by rfl) G.c_MOST_CELLS) (nomark _)) (pw_or1 (pt_not (pt_val (pe_c c_is_cell hr (by first | decide | omega) (by rfl) pass0 (pa_cons (pe_ix (ixT K) (pv 1) (pv 4) (fun _ _ => rfl)) (pa_cons (pv 4) (pa_cons (pe_callB (lenS K) (by rfl) G.n_len (by decide +kernel) (pa_cons (pv 1) pa_nil)) pa_nil)))))))))
        (pss_one ps_never)
        pss_nil)))
    (pss_one (ps_if (PW.pt (pw_or (pt_not (pt_val (pe_c c_are_told hr (by first | decide | omega) (by rfl) pass0 (pa_cons (pv 2) (pa_cons (pe_gc (by rfl) G.c_LOOPS) (pa_cons (pe_callB (lenS K) (by rfl) G.n_len (by decide +kernel) (pa_cons (pv 1) pa_nil)) pa_nil)))))) (pw_or1 (pt_not (pt_val (pe_c c_are_told hr (by first | decide | omega) (by rfl) pass0 (pa_cons (pv 3) (pa_cons (pe_gc (by rfl) G.c_FLAGS) (pa_cons (pe_callB (lenS K) (by rfl) G.n_len (by decide +kernel) (pa_cons (pv 1) pa_nil)) pa_nil)))))))))
      (pss_one ps_never)
      pss_nil)))), ?_⟩
  refine B.x_start (σ' := [some (.ref a.p), none, none, none, none]) rfl ?_
  have top := hN.top
  have cs := hN.cs
  have hl := hN.cl.len
  have few := ok.few
  have el : (((a.ca.map V.ref).length : Nat) : Int) = (N.cells.length : Int) := by rw [List.length_map, hl]
  walk_at "go"
  rw [el]
  refine fr_r (n := N.cells.length) (fun i σ H' => ∃ o, σ = [some (V.ref a.p), some (.ref a.pc), some (.ref a.pl), some (.ref a.pf), o] ∧ Kp No H H') ⟨_, rfl, .refl H⟩ ?_ ?_
  · rintro i σ H' hi ⟨o, rfl, k1⟩
    have hN1 := hN.keep0 k1
    have cs1 := hN1.cs
    obtain ⟨c, hc⟩ : ∃ c, N.cells[i]? = some c := ⟨N.cells[i], List.getElem?_eq_getElem hi⟩
    obtain ⟨ad, had⟩ : ∃ ad, a.ca[i]? = some ad := ⟨a.ca[i]'(by rw [hl]; exact hi), List.getElem?_eq_getElem _⟩
    have hrow := hN1.cl.row i ad c had hc
    have e1 : atI (a.ca.map V.ref) (i : Int) = some (.ref ad) := atI_nat (j := i) (by rw [List.getElem?_map, had]; rfl)
    walk_at "go"
    refine x_no (by simp; omega) ?_
    walk_at "go"
    rw [el]
    refine ⟨ad, c, i, N.cells.length, rfl, rfl, rfl, hrow, ok.ok i c hc, fun H2 k2 => ?_⟩
    walk_at "go"
    exact ⟨_, rfl, k1.trans k2⟩
  · rintro σ H' ⟨o, rfl, k1⟩
    have hN1 := hN.keep0 k1
    have cs1 := hN1.cs
    walk_at "go"
    rw [el]
    refine ⟨_, a.pl, a.la, N.loops, 8, N.cells.length, rfl, rfl, rfl, hN1.lo.sq, hN1.ll, ok.lo, fun r h => h.1, Nat.le_refl _, fun H2 k2 => ?_⟩
    have hN2 := hN1.keep0 k2
    have cs2 := hN2.cs
    walk_at "go"
    rw [el]
    refine ⟨_, a.pf, a.fa, N.flags, 4, N.cells.length, rfl, rfl, rfl, hN2.fl.sq, hN2.ff, ok.fl, fun r h => h, by decide, fun H3 k3 => ?_⟩
    walk_at "go"
    exact q _ ((k1.trans k2).trans k3)
end
end K7
namespace K7
open PySem PySem.Spec PyProof.Rows L2 B N7
/-! ### nets told anew by other numbers -/
def Cell.ren (f : Nat → Nat) : Cell → Cell
  | .none => .none | .first => .first | .bit r => .bit r | .inv c => .inv (f c) | .gate g a b => .gate g (f a) (f b) | .later l => .later (f l)
def prRen (f : Nat → Nat) (ps : List (Nat × Nat)) : List (Nat × Nat) := ps.map fun p => (p.1, f p.2)
def Net.ren (f : Nat → Nat) (N : Net) : Net := ⟨N.cells.map (Cell.ren f), prRen f N.loops, prRen f N.flags⟩
/-- the cells that a cell speaks of -/
def Cell.refs : Cell → List Nat
  | .none => [] | .first => [] | .bit _ => [] | .inv c => [c] | .gate _ a b => [a, b] | .later l => [l]
/-- numbers, in a list or in a dict -/
def NumAt (H : Hp) (b : Addr) (m : Nat → Option Nat) : Prop :=
  (∃ ns : List Nat, H b = some (.lst (ns.map nt)) ∧ ∀ i, m i = ns[i]?) ∨ ∃ kvs, H b = some (.dK kvs) ∧ ∀ i : Nat, valV kvs (Sum.inl (i : Int)) = (m i).map nt
/-- all that the net speaks of is told -/
structure NetIn (m : Nat → Option Nat) (f : Nat → Nat) (N : Net) : Prop where
  cl : ∀ c ∈ N.cells, ∀ x ∈ c.refs, m x = some (f x)
  lo : ∀ p ∈ N.loops, m p.2 = some (f p.2)
  fl : ∀ p ∈ N.flags, m p.2 = some (f p.2)
  few : N.cells.length < 100000 ∧ N.loops.length < 100000 ∧ N.flags.length < 100000
theorem Cell.nm_bit : ∀ c : Cell, (∃ r, c = .bit r) ∨ (c.nm ≠ "bit" ∧ c.args = c.refs ∧ ∀ f, (c.ren f).args = c.refs.map f)
  | .bit r => .inl ⟨r, rfl⟩
  | .none => .inr ⟨show ("none" : Str) ≠ "bit" by decide, rfl, fun _ => rfl⟩
  | .first => .inr ⟨show ("first" : Str) ≠ "bit" by decide, rfl, fun _ => rfl⟩
  | .inv _ => .inr ⟨show ("not" : Str) ≠ "bit" by decide, rfl, fun _ => rfl⟩
  | .gate .and _ _ => .inr ⟨show ("and" : Str) ≠ "bit" by decide, rfl, fun _ => rfl⟩
  | .gate .or _ _ => .inr ⟨show ("or" : Str) ≠ "bit" by decide, rfl, fun _ => rfl⟩
  | .gate .odd _ _ => .inr ⟨show ("odd" : Str) ≠ "bit" by decide, rfl, fun _ => rfl⟩
  | .later _ => .inr ⟨show ("later" : Str) ≠ "bit" by decide, rfl, fun _ => rfl⟩
theorem cut1 (c : Cell) : cutV c.vals (some 1) none = c.args.map nt := by cases c <;> rfl
theorem cut1_not (c : Cell) : ¬ (HT.sIx c.vals.length 0 (some 1) = 0 ∧ HT.sIx c.vals.length c.vals.length none = c.vals.length) := by
  intro h
  cases c <;> first | exact absurd h.1 (show ¬ HT.sIx 1 0 (some 1) = 0 by decide) | exact absurd h.1 (show ¬ HT.sIx 2 0 (some 1) = 0 by decide) | exact absurd h.1 (show ¬ HT.sIx 3 0 (some 1) = 0 by decide)
section
variable {P : Program} {w : World} {K : PySem.W.Frag} {mg : Str → Option Value} {base : Heap} {d : Ads} {C : Addr} {S : Nat → Prop}
theorem NumAt.keep {H H' : Hp} {b : Addr} {m : Nat → Option Nat} (h : NumAt H b m) (k : Kp No H H') : NumAt H' b m := by
  rcases h with ⟨ns, h1, h2⟩ | ⟨kvs, h1, h2⟩
  · exact .inl ⟨ns, k.at0 h1, h2⟩
  · exact .inr ⟨kvs, k.at0 h1, h2⟩
def pRen (K : PySem.W.Frag) : V → V → Hp → VK → XK → Prop := fun x y H Q _ => ∃ (a : NAd) (N : Net) (b : Addr) (m : Nat → Option Nat) (f : Nat → Nat), x = .ref a.p ∧ y = .ref b ∧ NetAt K H a N ∧ NumAt H b m ∧ NetIn m f N ∧
  ∀ (a' : NAd) H', NetAt K H' a' (N.ren f) → Kp No H H' → Q (.ref a'.p) H'
/-- the cells of the first half -/
def pCells (K : PySem.W.Frag) (H : Hp) (a : NAd) (N : Net) (f : Nat → Nat) (F : Addr) (i : Nat) (H' : Hp) : Prop := Kp (fun z => z = F) H H' ∧ ∃ ads, H' F = some (.lst (ads.map V.ref)) ∧ ClAt H' ads ((N.cells.take i).map (Cell.ren f))
/-- the told outs of the second half -/
def Outs (H1 : Hp) (N : Net) (f : Nat → Nat) (D : Addr) (j : Nat) (H' : Hp) : Prop := Kp No H1 H' ∧ ∃ outs : List (Addr × List Addr), H' D = some (.lst (outs.map fun o => V.ref o.1)) ∧ outs.length = j ∧
  ∀ (i : Nat) (o : Addr × List Addr) (ps : List (Nat × Nat)), outs[i]? = some o → [N.loops, N.flags][i]? = some ps → FT H' o.1 (o.2.map V.ref) ∧ PrAt H' o.2 (prRen f ps)
theorem Outs.next {H1 H2 : Hp} {N : Net} {f : Nat → Nat} {D : Addr} {j : Nat} (h : Outs H1 N f D j H2) (hD : H1 D = none) {H3 : Hp} (k3 : Kp No H2 H3) {l : Addr} {ads : List Addr} {ps : List (Nat × Nat)} (hps : [N.loops, N.flags][j]? = some ps) (ft : FT H3 l (ads.map V.ref)) (pr : PrAt H3 ads (prRen f ps)) :
    ∃ xs, H3 D = some (.lst xs) ∧ xs.length = j ∧ Outs H1 N f D (j + 1) (upd H3 D (.lst (xs ++ [.ref l]))) := by
  obtain ⟨k2, outs, g1, g2, g3⟩ := h
  have hj : j < 2 := by have := (List.getElem?_eq_some_iff.mp hps).1; simpa using this
  have gD := k3.at0 g1
  refine ⟨_, gD, by rw [List.length_map, g2], (k2.trans k3).old hD, outs ++ [(l, ads)], by rw [upd_same, List.map_append]; rfl, by simp [g2], fun i o ps' h1 h2 => ?_⟩
  have kD : Kp (fun z => z = D) H3 (upd H3 D (.lst ((outs.map fun o => V.ref o.1) ++ [.ref l]))) := .set rfl
  have nD : NoTup (fun z => z = D) H3 := fun z e => by rw [e]; exact ⟨fun xs e2 => (by rw [gD] at e2; cases e2), fun o xs e2 => (by rw [gD] at e2; cases e2)⟩
  rcases Nat.lt_trichotomy i j with z | z | z
  · rw [List.getElem?_append_left (by omega)] at h1
    obtain ⟨q1, q2⟩ := g3 i o ps' h1 h2
    exact ⟨Kp.ft kD nD (FT.keep q1 k3 fun z => z), (q2.keep0 k3).keep kD nD⟩
  · subst z
    rw [List.getElem?_append_right (by omega), g2, Nat.sub_self] at h1
    cases h1
    rw [hps] at h2
    cases h2
    exact ⟨Kp.ft kD nD ft, pr.keep kD nD⟩
  · rw [List.getElem?_eq_none (by simp; omega)] at h1
    cases h1
theorem ok_ren_dict {H : Hp} {Q : VK} {E : XK} (G : Txt K w mg d) {f0 : Addr} {cdv : Value} {A : Around} {outer : List Env} {s : Shared} (hr : Room 0 (A.deeper (envOfC "renumbered" (defScope s_renumbered) s.heap.objs.size f0 cdv)))
    {a : NAd} {N : Net} {b : Addr} {m : Nat → Option Nat} {f : Nat → Nat} (hN : NetAt K H a N) {kvs : List (Key × V)} (hb : H b = some (.dK kvs)) (hv : ∀ i : Nat, valV kvs (Sum.inl (i : Int)) = (m i).map nt) (hi : NetIn m f N) (q : ∀ (a' : NAd) H', NetAt K H' a' (N.ren f) → Kp No H H' → Q (.ref a'.p) H') :
    ∃ t, PSs (cxOf CX0 P w K mg base N_renumbered "renumbered" (defScope s_renumbered) f0 cdv A outer s H E).nox (defBody s_renumbered) t ∧ t { nx := fun _ H' => Q .non H', rt := Q } (start N_renumbered [.ref a.p, .ref b]) H := by
  refine ⟨_, (pss_cons (ps_asg (pv 0) (pgT (n := 3) K (by rfl) (pgs_cons (pg_name (i := 2) sc_renumbered.nd rfl (Or.inl rfl)) (pgs_cons (pg_name (i := 3) sc_renumbered.nd rfl (Or.inl rfl)) (pgs_cons (pg_name (i := 4) sc_renumbered.nd rfl (Or.inl rfl)) pgs_nil)))))
    (pss_cons (ps_set (i := 5) sc_renumbered.nd rfl (Or.inl rfl) (pe_lst pa_nil))
    (pss_cons (ps_for PassesOwn.never rfl (piT K (pv 2)) (pg_name (i := 6) sc_renumbered.nd rfl (Or.inl rfl))
      (Evl.pss_cut (ps_set (i := 7) sc_renumbered.nd rfl (Or.inl rfl) (pe_ifExp (pt_cmpR op_ne (pe_ix (ixT K) (pv 6) pe_int (fun _ _ => rfl)) pe_str (nomark _)) (pe_lc (own := [("part", 8)]) (g := gName 8) (tt := tYes) rfl sc_renumbered.nd (piT K (pe_slice (N7.slA K) (pv 6) (po_some pe_int) po_none)) (blkOk_by (own := [("part", 8)]) (N := N_renumbered) (sc := defScope s_renumbered) (by decide +kernel)) (fun _ _ _ _ _ => (pg_name (i := 8) sc_renumbered.nd rfl (Or.inl rfl))) (fun _ _ _ _ _ => pts_nil) (fun _ _ _ _ _ => (pe_dget (hu_of hr) (pv 1) (pv 8) (fun _ _ => rfl)))) (pe_callTy (listOf K) (by rfl) G.n_list (by decide +kernel) (pa_cons (pe_slice (N7.slA K) (pv 6) (po_some pe_int) po_none) pa_nil))))
      (pss_one (ps_expr (bm K PySem.F.plainAttrs_list PySem.F.slot_list_append PySem.F.type_list_append mt_append (pv 5) (pa_cons (pe_op (N7.catA K) (pe_tup (pa_cons (pe_ix (ixT K) (pv 6) pe_int (fun _ _ => rfl)) pa_nil)) (pe_callTy (N7.tupF K) (by rfl) G.n_tuple (by decide +kernel) (pa_cons (pv 7) pa_nil))) pa_nil))))))
    (pss_cons (ps_setLc (i := 9) (own := [("pairs", 11)]) (g := gName 11) (tt := tYes) rfl sc_renumbered.nd rfl rfl (sw_true rfl rfl rfl (by decide +kernel)) (piT K (pe_tup (pa_cons (pv 3) (pa_cons (pv 4) pa_nil)))) (blkOk_by (own := [("pairs", 11)]) (N := N_renumbered) (sc := defScope s_renumbered) (by decide +kernel)) (fun _ _ _ _ _ => (pg_name (i := 11) sc_renumbered.nd rfl (Or.inl rfl))) (fun _ _ _ _ _ => pts_nil) (fun _ _ _ _ _ => (pe_callTy (N7.tupF K) (by rfl) G.n_tuple (by decide +kernel) (pa_cons (pe_lc (own := [("one", 10), ("cell", 6)]) (tt := tYes) rfl sc_renumbered.nd (piT K (pv 11)) (N7.blkIn (own := [("one", 10), ("cell", 6)]) (N := N_renumbered) (by decide +kernel)) (fun _ _ _ _ _ => (pgT (n := 2) K (by rfl) (pgs_cons (pg_name (i := 10) sc_renumbered.nd rfl (Or.inl rfl)) (pgs_cons (pg_name (i := 6) sc_renumbered.nd rfl (Or.inl rfl)) pgs_nil)))) (fun _ _ _ _ _ => pts_nil) (fun _ _ _ _ _ => (pe_tup (pa_cons (pv 10) (pa_cons (pe_dget (hu_of hr) (pv 1) (pv 6) (fun _ _ => rfl)) pa_nil))))) pa_nil))))
    (pss_one (ps_ret (pe_tup (pa_cons (pe_callTy (N7.tupF K) (by rfl) G.n_tuple (by decide +kernel) (pa_cons (pv 5) pa_nil)) (pa_cons (pe_ix (ixL K) (pv 9) pe_int (fun _ _ => rfl)) (pa_cons (pe_ix (ixL K) (pv 9) pe_int (fun _ _ => rfl)) pa_nil)))))))))), ?_⟩
  refine B.x_start (σ' := [some (.ref a.p), some (.ref b), none, none, none, none, none, none, none, none, none, none]) rfl ?_
  have top := hN.top
  walk_at "go"
  intro F hF
  have kF : Kp (fun z => z = F) H (upd H F (.lst [])) := .new hF
  have nF : NoTup (fun z => z = F) H := fun z e => by rw [e]; exact ⟨fun xs e2 => (by rw [hF] at e2; cases e2), fun o xs e2 => (by rw [hF] at e2; cases e2)⟩
  have nbF : ∀ (x : Addr) (o : HO), H x = some o → ¬ x = F := fun x o e z => by rw [z, hF] at e; cases e
  have cs1 := Kp.sqt kF nF hN.cs
  walk_at "go"
  refine fr_t (a.ca.map V.ref) (fun i σ H' => ∃ o6 o7 o8 o9 o10 o11, σ = [some (.ref a.p), some (.ref b), some (.ref a.pc), some (.ref a.pl), some (.ref a.pf), some (.ref F), o6, o7, o8, o9, o10, o11] ∧ pCells K H a N f F i H') ⟨_, _, _, _, _, _, rfl, kF, [], upd_same, by simpa using ClAt.nil⟩ (fun i σ H' _ z => by
    obtain ⟨_, _, _, _, _, _, _, k1, _⟩ := z
    exact Kp.sqt k1 nF hN.cs) ?_ ?_
  · rintro i y σ H' hy ⟨o6, o7, o8, o9, o10, o11, rfl, k1, ads, e1, e2⟩
    rw [List.getElem?_map, Option.map_eq_some_iff] at hy
    obtain ⟨ad, had, rfl⟩ := hy
    have hi1 : i < N.cells.length := by rw [← hN.cl.len]; exact (List.getElem?_eq_some_iff.mp had).1
    obtain ⟨c, hc⟩ : ∃ c, N.cells[i]? = some c := ⟨N.cells[i], List.getElem?_eq_getElem hi1⟩
    have hrow := Kp.tup k1 nF (hN.cl.row i ad c had hc)
    have z0 : atI c.vals 0 = some (.str c.nm) := atI_nat (j := 0) rfl
    have hadl : ads.length = i := by rw [e2.len, List.length_map, List.length_take]; omega
    have hfew := hi.few
    -- what is put in
    have fin : ∀ (p : Addr) (H2 : Hp) (l : Addr), Kp (fun z => z = F) H H2 → H2 F = some (.lst (ads.map V.ref)) → ClAt H2 ads ((N.cells.take i).map (Cell.ren f)) → H2 p = some (.tup (c.ren f).vals) → pCells K H a N f F (i + 1) (upd H2 F (.lst (ads.map V.ref ++ [.ref p]))) := by
      intro p H2 l k2 g1 g2 g3
      have np : p ≠ F := ne_of g3 g1 (by intro z; cases z)
      refine ⟨k2.trans (.set rfl), ads ++ [p], by rw [upd_same, List.map_append]; rfl, ?_⟩
      rw [take_one hc, List.map_append]
      refine (g2.keep (Kp.set (M := fun z => z = F) rfl) fun z e => ?_).snoc (by rw [upd_ne np]; exact g3)
      rw [e]
      exact ⟨fun xs e2 => (by rw [g1] at e2; cases e2), fun o xs e2 => (by rw [g1] at e2; cases e2)⟩
    walk_at "go"
    refine x_cut (fun σ H2 => ∃ (l : Addr), σ = [some (.ref a.p), some (.ref b), some (.ref a.pc), some (.ref a.pl), some (.ref a.pf), some (.ref F), some (.ref ad), some (.ref l), o8, o9, o10, o11] ∧ H2 l = some (.lst ((c.ren f).args.map nt)) ∧ Kp No H' H2) ?_ ?_
    · walk_at "go"
      rcases c.nm_bit with ⟨r, rfl⟩ | ⟨hbit, hrefs, hrenf⟩
      · refine x_no rfl ?_
        walk_at "go"
        refine x_slA (SqT.of hrow) (cut1_not _) fun p hp => ?_
        rw [cut1]
        walk_at "go"
        intro l hl
        walk_at "go"
        exact ⟨l, rfl, upd_same, (Kp.new hp).trans (.new hl)⟩
      · refine x_yes (by simp [hbit]) ?_
        walk_at "go"
        refine x_slA (SqT.of hrow) (cut1_not _) fun p hp => ?_
        rw [cut1]
        have hren := hrenf f
        have kp : Kp No H' (upd H' p (.tup (c.args.map nt))) := .new hp
        walk_at "go"
        refine lc_t (c.args.map nt) (fun D j H2 => Kp No (upd H' p (.tup (c.args.map nt))) H2 ∧ H2 D = some (.lst (((c.refs.take j).map f).map nt))) (fun D hD => ⟨.new hD, upd_same⟩) (fun D j H2 _ z => SqT.of (z.1.at0 upd_same)) ?_ ?_
        · rintro D j y H2 hD hy ⟨k2, g2⟩
          rw [List.getElem?_map, Option.map_eq_some_iff] at hy
          obtain ⟨x, hx, rfl⟩ := hy
          rw [hrefs] at hx
          have hm := hi.cl c (List.mem_of_getElem? hc) x (List.mem_of_getElem? hx)
          have kk : Kp (fun z => z = F) H H2 := k1.trans (kp.trans k2).of0
          have hb2 : H2 b = some (.dK kvs) := kk.at hb (nbF b _ hb)
          have hvx : valV kvs (Sum.inl ((x : Nat) : Int)) = some (nt (f x)) := by rw [hv x, hm]; rfl
          walk_at "go"
          refine ⟨rfl, ?_⟩
          walk_at "go"
          refine ⟨b, nt (f x), rfl, by rw [← hvx]; exact DGet.k (k := Sum.inl (x : Int)) hb2, ?_⟩
          walk_at "go"
          refine ⟨_, g2, by have := c.few; rw [List.length_map, List.length_map, List.length_take, sizeLine_eq, ← hrefs, c.len]; omega, k2.old hD, ?_⟩
          rw [upd_same, take_one hx, List.map_append, List.map_append]
          rfl
        · rintro D H2 hD ⟨k2, g2⟩
          walk_at "go"
          refine ⟨D, rfl, ?_, kp.trans k2⟩
          rw [g2, hren, hrefs, List.length_map, List.take_length]
    · rintro σ2 H2 ⟨l, rfl, g2, k2⟩
      have hrow2 := k2.at0 hrow
      have e12 := k2.at0 e1
      have e22 := e2.keep0 k2
      walk_at "go"
      intro t1 ht1
      have k3 : Kp No H2 (upd H2 t1 (.tup [.str c.nm])) := .new ht1
      have g3 := k3.at0 g2
      walk_at "go"
      intro t2 o ht2 ho
      have k4 : Kp No H2 (upd (upd H2 t1 (.tup [.str c.nm])) t2 (.frz o (.tup ((c.ren f).args.map nt)))) := k3.trans (.new ht2)
      have ht1' : upd (upd H2 t1 (.tup [.str c.nm])) t2 (.frz o (.tup ((c.ren f).args.map nt))) t1 = some (.tup [.str c.nm]) := by rw [upd_ne (ne_of_none upd_same ht2), upd_same]
      refine x_catP (xs := [.str c.nm]) (ys := (c.ren f).args.map nt) ht1' (by simp) (.inl (.inr ⟨o, upd_same⟩)) (by have := (c.ren f).few; rw [List.length_map, (c.ren f).len]; simp; omega) fun p H3 hp k5 => ?_
      have k6 : Kp No H2 H3 := k4.trans fun x o e _ => k5 x o e
      have e13 := k6.at0 e12
      have hl3 : (ads.map V.ref).length < 16777216 := by rw [List.length_map]; omega
      walk_at "go"
      refine ⟨_, _, _, _, _, _, rfl, fin p H3 l ((k1.trans k2.of0).trans k6.of0) e13 (e22.keep0 k6) ?_⟩
      rw [hp]
      cases c <;> rfl
  · rintro σ H1 ⟨o6, o7, o8, o9, o10, o11, rfl, k1, ads, e1, e2⟩
    rw [show (a.ca.map V.ref).length = N.cells.length by rw [List.length_map, hN.cl.len], List.take_length] at e2
    have hN1 := hN.keep k1 nF
    have hb1 := k1.at hb (nbF b _ hb)
    walk_at "go"
    intro t ht
    have k2 : Kp No H1 (upd H1 t (.tup [.ref a.pl, .ref a.pf])) := .new ht
    have e12 := k2.at0 e1
    have e22 := e2.keep0 k2
    have hN2 := hN1.keep0 k2
    have hb2 := k2.at0 hb1
    have hT2 : upd H1 t (.tup [.ref a.pl, .ref a.pf]) t = some (.tup [.ref a.pl, .ref a.pf]) := upd_same
    have k02 : Kp (fun z => z = F) H (upd H1 t (.tup [.ref a.pl, .ref a.pf])) := k1.trans k2.of0
    generalize upd H1 t (.tup [.ref a.pl, .ref a.pf]) = H2 at *
    have hfew := hi.few
    walk_at "go"
    refine lc_t [.ref a.pl, .ref a.pf] (fun D j H' => Outs H2 N f D j H') (fun D hD => ⟨.new hD, [], upd_same, rfl, fun i o ps h1 => by simp at h1⟩) (fun D j H' _ z => SqT.of (z.1.at0 hT2)) ?_ ?_
    · rintro D j y H3 hD hy I
      obtain ⟨pq, ads2, ps2, rfl, hps, hft, hpr, hin, hfw⟩ : ∃ (pq : Addr) (ads2 : List Addr) (ps2 : List (Nat × Nat)), y = .ref pq ∧ [N.loops, N.flags][j]? = some ps2 ∧ FT H2 pq (ads2.map V.ref) ∧ PrAt H2 ads2 ps2 ∧ (∀ p ∈ ps2, m p.2 = some (f p.2)) ∧ ps2.length < 100000 := by
        match j, hy with
        | 0, hy => cases hy; exact ⟨a.pl, a.la, N.loops, rfl, rfl, hN2.lo, hN2.ll, hi.lo, hfew.2.1⟩
        | 1, hy => cases hy; exact ⟨a.pf, a.fa, N.flags, rfl, rfl, hN2.fl, hN2.ff, hi.fl, hfew.2.2⟩
        | j + 2, hy => cases hy
      have k3 := I.1
      have hft3 := (FT.keep hft k3 fun z => z)
      have hsq3 : SqT K H3 pq (ads2.map V.ref) := hft3.sq
      have hpr3 := hpr.keep0 k3
      walk_at "go"
      refine ⟨rfl, ?_⟩
      walk_at "go"
      refine lc_t (ads2.map V.ref) (fun D2 i H' => Kp No H3 H' ∧ ∃ ads3, H' D2 = some (.lst (ads3.map V.ref)) ∧ PrAt H' ads3 (prRen f (ps2.take i))) (fun D2 hD2 => ⟨.new hD2, [], upd_same, .nil⟩) (fun D2 i H' _ z => Kp.sqt z.1 .no hsq3) ?_ ?_
      · rintro D2 i y H4 hD2 hy2 ⟨k4, ads3, g1, g2⟩
        rw [List.getElem?_map, Option.map_eq_some_iff] at hy2
        obtain ⟨ad, had, rfl⟩ := hy2
        have hi2 : i < ps2.length := by rw [← hpr.len]; exact (List.getElem?_eq_some_iff.mp had).1
        obtain ⟨pr, hpr2⟩ : ∃ pr, ps2[i]? = some pr := ⟨ps2[i], List.getElem?_eq_getElem hi2⟩
        have hrow := k4.at0 (hpr3.row i ad pr had hpr2)
        have hm := hin pr (List.mem_of_getElem? hpr2)
        have kb : Kp (fun z => z = F) H H4 := k02.trans (k3.trans k4).of0
        have hb2 : H4 b = some (.dK kvs) := kb.at hb (nbF b _ hb)
        have hvx : valV kvs (Sum.inl ((pr.2 : Nat) : Int)) = some (nt (f pr.2)) := by rw [hv pr.2, hm]; rfl
        walk_at "go"
        refine ⟨rfl, ?_⟩
        walk_at "go"
        refine ⟨b, nt (f pr.2), rfl, by rw [← hvx]; exact DGet.k (k := Sum.inl (pr.2 : Int)) hb2, ?_⟩
        walk_at "go"
        intro t3 ht3
        have hlen : ads3.length = i := by rw [g2.len, prRen, List.length_map, List.length_take]; omega
        have nD2 : t3 ≠ D2 := (ne_of_none g1 ht3).symm
        refine ⟨_, by rw [upd_ne nD2.symm]; exact g1, by rw [List.length_map, sizeLine_eq]; omega, (k4.trans (.new ht3)).old hD2, ads3 ++ [t3], by rw [upd_same, List.map_append]; rfl, ?_⟩
        rw [take_one hpr2, prRen, List.map_append]
        have g3 : PrAt (upd H4 t3 (.tup [nt pr.1, nt (f pr.2)])) ads3 (prRen f (ps2.take i)) := g2.keep0 (.new ht3)
        refine (g3.keep (Kp.set (M := fun z => z = D2) rfl) fun z e => ?_).snoc (p := (pr.1, f pr.2)) (by rw [upd_ne nD2, upd_same])
        rw [e, upd_ne nD2.symm]
        exact ⟨fun xs e2 => (by rw [g1] at e2; cases e2), fun o xs e2 => (by rw [g1] at e2; cases e2)⟩
      · rintro D2 H4 hD2 ⟨k4, ads3, g1, g2⟩
        rw [show (ads2.map V.ref).length = ps2.length by rw [List.length_map, hpr.len], List.take_length] at g2
        walk_at "go"
        intro l o hl ho
        have k5 : Kp No H3 (upd H4 l (.frz o (.tup (ads3.map V.ref)))) := k4.trans (.new hl)
        obtain ⟨xs, q1, q2, q3⟩ := I.next hD k5 hps ⟨o, ho, upd_same⟩ (g2.keep0 (.new hl))
        have hj : j < 2 := by have := (List.getElem?_eq_some_iff.mp hps).1; simpa using this
        refine ⟨xs, q1, by rw [q2, sizeLine_eq]; omega, q3⟩
    · rintro D H3 hD ⟨k3, outs, g1, g2, g3⟩
      obtain ⟨x1, x2, rfl⟩ : ∃ x1 x2, outs = [x1, x2] := by
        match outs, g2 with
        | [x1, x2], _ => exact ⟨x1, x2, rfl⟩
      obtain ⟨f1, p1⟩ := g3 0 x1 N.loops rfl rfl
      obtain ⟨f2, p2⟩ := g3 1 x2 N.flags rfl rfl
      have e13 := k3.at0 e12
      have e23 := e22.keep0 k3
      have z0 : atI ([x1, x2].map fun o => V.ref o.1) 0 = some (.ref x1.1) := rfl
      have z1 : atI ([x1, x2].map fun o => V.ref o.1) 1 = some (.ref x2.1) := rfl
      walk_at "go"
      intro pc o hpc ho
      have hc4 : FT (upd H3 pc (.frz o (.tup (ads.map V.ref)))) pc (ads.map V.ref) := ⟨o, ho, upd_same⟩
      have k4 : Kp No H3 (upd H3 pc (.frz o (.tup (ads.map V.ref)))) := .new hpc
      have g4 := k4.at0 g1
      have f14 := FT.keep f1 k4 fun z => z
      have f24 := FT.keep f2 k4 fun z => z
      have p14 := p1.keep0 k4
      have p24 := p2.keep0 k4
      have e24 := e23.keep0 k4
      generalize upd H3 pc (.frz o (.tup (ads.map V.ref))) = H4 at *
      walk_at "go"
      intro pp hpp
      have k5 : Kp No H4 (upd H4 pp (.tup [.ref pc, .ref x1.1, .ref x2.1])) := .new hpp
      refine q ⟨pp, pc, x1.1, x2.1, ads, x1.2, x2.2⟩ _ ⟨upd_same, (FT.keep hc4 k5 fun z => z).sq, FT.keep f14 k5 (fun z => z), FT.keep f24 k5 (fun z => z), e24.keep0 k5, p14.keep0 k5, p24.keep0 k5⟩ ?_
      have kk := k02.trans ((k3.trans k4).trans k5).of0
      exact fun x o e n => kk x o e fun z => nbF x o e z
theorem ok_ren_list {H : Hp} {Q : VK} {E : XK} (G : Txt K w mg d) {f0 : Addr} {cdv : Value} {A : Around} {outer : List Env} {s : Shared} (hr : Room 0 (A.deeper (envOfC "renumbered" (defScope s_renumbered) s.heap.objs.size f0 cdv)))
    {a : NAd} {N : Net} {b : Addr} {m : Nat → Option Nat} {f : Nat → Nat} (hN : NetAt K H a N) {ns : List Nat} (hb : H b = some (.lst (ns.map nt))) (hv : ∀ i : Nat, m i = ns[i]?) (hi : NetIn m f N) (q : ∀ (a' : NAd) H', NetAt K H' a' (N.ren f) → Kp No H H' → Q (.ref a'.p) H') :
    ∃ t, PSs (cxOf CX0 P w K mg base N_renumbered "renumbered" (defScope s_renumbered) f0 cdv A outer s H E).nox (defBody s_renumbered) t ∧ t { nx := fun _ H' => Q .non H', rt := Q } (start N_renumbered [.ref a.p, .ref b]) H := by
  refine ⟨_, (pss_cons (ps_asg (pv 0) (pgT (n := 3) K (by rfl) (pgs_cons (pg_name (i := 2) sc_renumbered.nd rfl (Or.inl rfl)) (pgs_cons (pg_name (i := 3) sc_renumbered.nd rfl (Or.inl rfl)) (pgs_cons (pg_name (i := 4) sc_renumbered.nd rfl (Or.inl rfl)) pgs_nil)))))
    (pss_cons (ps_set (i := 5) sc_renumbered.nd rfl (Or.inl rfl) (pe_lst pa_nil))
    (pss_cons (ps_for PassesOwn.never rfl (piT K (pv 2)) (pg_name (i := 6) sc_renumbered.nd rfl (Or.inl rfl))
      (Evl.pss_cut (ps_set (i := 7) sc_renumbered.nd rfl (Or.inl rfl) (pe_ifExp (pt_cmpR op_ne (pe_ix (ixT K) (pv 6) pe_int (fun _ _ => rfl)) pe_str (nomark _)) (pe_lc (own := [("part", 8)]) (g := gName 8) (tt := tYes) rfl sc_renumbered.nd (piT K (pe_slice (N7.slA K) (pv 6) (po_some pe_int) po_none)) (blkOk_by (own := [("part", 8)]) (N := N_renumbered) (sc := defScope s_renumbered) (by decide +kernel)) (fun _ _ _ _ _ => (pg_name (i := 8) sc_renumbered.nd rfl (Or.inl rfl))) (fun _ _ _ _ _ => pts_nil) (fun _ _ _ _ _ => (pe_ix (ixL K) (pv 1) (pv 8) (fun _ _ => rfl)))) (pe_callTy (listOf K) (by rfl) G.n_list (by decide +kernel) (pa_cons (pe_slice (N7.slA K) (pv 6) (po_some pe_int) po_none) pa_nil))))
      (pss_one (ps_expr (bm K PySem.F.plainAttrs_list PySem.F.slot_list_append PySem.F.type_list_append mt_append (pv 5) (pa_cons (pe_op (N7.catA K) (pe_tup (pa_cons (pe_ix (ixT K) (pv 6) pe_int (fun _ _ => rfl)) pa_nil)) (pe_callTy (N7.tupF K) (by rfl) G.n_tuple (by decide +kernel) (pa_cons (pv 7) pa_nil))) pa_nil))))))
    (pss_cons (ps_setLc (i := 9) (own := [("pairs", 11)]) (g := gName 11) (tt := tYes) rfl sc_renumbered.nd rfl rfl (sw_true rfl rfl rfl (by decide +kernel)) (piT K (pe_tup (pa_cons (pv 3) (pa_cons (pv 4) pa_nil)))) (blkOk_by (own := [("pairs", 11)]) (N := N_renumbered) (sc := defScope s_renumbered) (by decide +kernel)) (fun _ _ _ _ _ => (pg_name (i := 11) sc_renumbered.nd rfl (Or.inl rfl))) (fun _ _ _ _ _ => pts_nil) (fun _ _ _ _ _ => (pe_callTy (N7.tupF K) (by rfl) G.n_tuple (by decide +kernel) (pa_cons (pe_lc (own := [("one", 10), ("cell", 6)]) (tt := tYes) rfl sc_renumbered.nd (piT K (pv 11)) (N7.blkIn (own := [("one", 10), ("cell", 6)]) (N := N_renumbered) (by decide +kernel)) (fun _ _ _ _ _ => (pgT (n := 2) K (by rfl) (pgs_cons (pg_name (i := 10) sc_renumbered.nd rfl (Or.inl rfl)) (pgs_cons (pg_name (i := 6) sc_renumbered.nd rfl (Or.inl rfl)) pgs_nil)))) (fun _ _ _ _ _ => pts_nil) (fun _ _ _ _ _ => (pe_tup (pa_cons (pv 10) (pa_cons (pe_ix (ixL K) (pv 1) (pv 6) (fun _ _ => rfl)) pa_nil))))) pa_nil))))
    (pss_one (ps_ret (pe_tup (pa_cons (pe_callTy (N7.tupF K) (by rfl) G.n_tuple (by decide +kernel) (pa_cons (pv 5) pa_nil)) (pa_cons (pe_ix (ixL K) (pv 9) pe_int (fun _ _ => rfl)) (pa_cons (pe_ix (ixL K) (pv 9) pe_int (fun _ _ => rfl)) pa_nil)))))))))), ?_⟩
  refine B.x_start (σ' := [some (.ref a.p), some (.ref b), none, none, none, none, none, none, none, none, none, none]) rfl ?_
  have top := hN.top
  walk_at "go"
  intro F hF
  have kF : Kp (fun z => z = F) H (upd H F (.lst [])) := .new hF
  have nF : NoTup (fun z => z = F) H := fun z e => by rw [e]; exact ⟨fun xs e2 => (by rw [hF] at e2; cases e2), fun o xs e2 => (by rw [hF] at e2; cases e2)⟩
  have nbF : ∀ (x : Addr) (o : HO), H x = some o → ¬ x = F := fun x o e z => by rw [z, hF] at e; cases e
  have cs1 := Kp.sqt kF nF hN.cs
  walk_at "go"
  refine fr_t (a.ca.map V.ref) (fun i σ H' => ∃ o6 o7 o8 o9 o10 o11, σ = [some (.ref a.p), some (.ref b), some (.ref a.pc), some (.ref a.pl), some (.ref a.pf), some (.ref F), o6, o7, o8, o9, o10, o11] ∧ pCells K H a N f F i H') ⟨_, _, _, _, _, _, rfl, kF, [], upd_same, by simpa using ClAt.nil⟩ (fun i σ H' _ z => by
    obtain ⟨_, _, _, _, _, _, _, k1, _⟩ := z
    exact Kp.sqt k1 nF hN.cs) ?_ ?_
  · rintro i y σ H' hy ⟨o6, o7, o8, o9, o10, o11, rfl, k1, ads, e1, e2⟩
    rw [List.getElem?_map, Option.map_eq_some_iff] at hy
    obtain ⟨ad, had, rfl⟩ := hy
    have hi1 : i < N.cells.length := by rw [← hN.cl.len]; exact (List.getElem?_eq_some_iff.mp had).1
    obtain ⟨c, hc⟩ : ∃ c, N.cells[i]? = some c := ⟨N.cells[i], List.getElem?_eq_getElem hi1⟩
    have hrow := Kp.tup k1 nF (hN.cl.row i ad c had hc)
    have z0 : atI c.vals 0 = some (.str c.nm) := atI_nat (j := 0) rfl
    have hadl : ads.length = i := by rw [e2.len, List.length_map, List.length_take]; omega
    have hfew := hi.few
    -- what is put in
    have fin : ∀ (p : Addr) (H2 : Hp) (l : Addr), Kp (fun z => z = F) H H2 → H2 F = some (.lst (ads.map V.ref)) → ClAt H2 ads ((N.cells.take i).map (Cell.ren f)) → H2 p = some (.tup (c.ren f).vals) → pCells K H a N f F (i + 1) (upd H2 F (.lst (ads.map V.ref ++ [.ref p]))) := by
      intro p H2 l k2 g1 g2 g3
      have np : p ≠ F := ne_of g3 g1 (by intro z; cases z)
      refine ⟨k2.trans (.set rfl), ads ++ [p], by rw [upd_same, List.map_append]; rfl, ?_⟩
      rw [take_one hc, List.map_append]
      refine (g2.keep (Kp.set (M := fun z => z = F) rfl) fun z e => ?_).snoc (by rw [upd_ne np]; exact g3)
      rw [e]
      exact ⟨fun xs e2 => (by rw [g1] at e2; cases e2), fun o xs e2 => (by rw [g1] at e2; cases e2)⟩
    walk_at "go"
    refine x_cut (fun σ H2 => ∃ (l : Addr), σ = [some (.ref a.p), some (.ref b), some (.ref a.pc), some (.ref a.pl), some (.ref a.pf), some (.ref F), some (.ref ad), some (.ref l), o8, o9, o10, o11] ∧ H2 l = some (.lst ((c.ren f).args.map nt)) ∧ Kp No H' H2) ?_ ?_
    · walk_at "go"
      rcases c.nm_bit with ⟨r, rfl⟩ | ⟨hbit, hrefs, hrenf⟩
      · refine x_no rfl ?_
        walk_at "go"
        refine x_slA (SqT.of hrow) (cut1_not _) fun p hp => ?_
        rw [cut1]
        walk_at "go"
        intro l hl
        walk_at "go"
        exact ⟨l, rfl, upd_same, (Kp.new hp).trans (.new hl)⟩
      · refine x_yes (by simp [hbit]) ?_
        walk_at "go"
        refine x_slA (SqT.of hrow) (cut1_not _) fun p hp => ?_
        rw [cut1]
        have hren := hrenf f
        have kp : Kp No H' (upd H' p (.tup (c.args.map nt))) := .new hp
        walk_at "go"
        refine lc_t (c.args.map nt) (fun D j H2 => Kp No (upd H' p (.tup (c.args.map nt))) H2 ∧ H2 D = some (.lst (((c.refs.take j).map f).map nt))) (fun D hD => ⟨.new hD, upd_same⟩) (fun D j H2 _ z => SqT.of (z.1.at0 upd_same)) ?_ ?_
        · rintro D j y H2 hD hy ⟨k2, g2⟩
          rw [List.getElem?_map, Option.map_eq_some_iff] at hy
          obtain ⟨x, hx, rfl⟩ := hy
          rw [hrefs] at hx
          have hm := hi.cl c (List.mem_of_getElem? hc) x (List.mem_of_getElem? hx)
          have kk : Kp (fun z => z = F) H H2 := k1.trans (kp.trans k2).of0
          have hb2 : H2 b = some (.lst (ns.map nt)) := kk.at hb (nbF b _ hb)
          have hvx : atI (ns.map nt) ((x : Nat) : Int) = some (nt (f x)) := atI_nat (j := x) (by rw [List.getElem?_map, ← hv x, hm]; rfl)
          walk_at "go"
          refine ⟨rfl, ?_⟩
          walk_at "go"
          skip
          walk_at "go"
          refine ⟨_, g2, by have := c.few; rw [List.length_map, List.length_map, List.length_take, sizeLine_eq, ← hrefs, c.len]; omega, k2.old hD, ?_⟩
          rw [upd_same, take_one hx, List.map_append, List.map_append]
          rfl
        · rintro D H2 hD ⟨k2, g2⟩
          walk_at "go"
          refine ⟨D, rfl, ?_, kp.trans k2⟩
          rw [g2, hren, hrefs, List.length_map, List.take_length]
    · rintro σ2 H2 ⟨l, rfl, g2, k2⟩
      have hrow2 := k2.at0 hrow
      have e12 := k2.at0 e1
      have e22 := e2.keep0 k2
      walk_at "go"
      intro t1 ht1
      have k3 : Kp No H2 (upd H2 t1 (.tup [.str c.nm])) := .new ht1
      have g3 := k3.at0 g2
      walk_at "go"
      intro t2 o ht2 ho
      have k4 : Kp No H2 (upd (upd H2 t1 (.tup [.str c.nm])) t2 (.frz o (.tup ((c.ren f).args.map nt)))) := k3.trans (.new ht2)
      have ht1' : upd (upd H2 t1 (.tup [.str c.nm])) t2 (.frz o (.tup ((c.ren f).args.map nt))) t1 = some (.tup [.str c.nm]) := by rw [upd_ne (ne_of_none upd_same ht2), upd_same]
      refine x_catP (xs := [.str c.nm]) (ys := (c.ren f).args.map nt) ht1' (by simp) (.inl (.inr ⟨o, upd_same⟩)) (by have := (c.ren f).few; rw [List.length_map, (c.ren f).len]; simp; omega) fun p H3 hp k5 => ?_
      have k6 : Kp No H2 H3 := k4.trans fun x o e _ => k5 x o e
      have e13 := k6.at0 e12
      have hl3 : (ads.map V.ref).length < 16777216 := by rw [List.length_map]; omega
      walk_at "go"
      refine ⟨_, _, _, _, _, _, rfl, fin p H3 l ((k1.trans k2.of0).trans k6.of0) e13 (e22.keep0 k6) ?_⟩
      rw [hp]
      cases c <;> rfl
  · rintro σ H1 ⟨o6, o7, o8, o9, o10, o11, rfl, k1, ads, e1, e2⟩
    rw [show (a.ca.map V.ref).length = N.cells.length by rw [List.length_map, hN.cl.len], List.take_length] at e2
    have hN1 := hN.keep k1 nF
    have hb1 := k1.at hb (nbF b _ hb)
    walk_at "go"
    intro t ht
    have k2 : Kp No H1 (upd H1 t (.tup [.ref a.pl, .ref a.pf])) := .new ht
    have e12 := k2.at0 e1
    have e22 := e2.keep0 k2
    have hN2 := hN1.keep0 k2
    have hb2 := k2.at0 hb1
    have hT2 : upd H1 t (.tup [.ref a.pl, .ref a.pf]) t = some (.tup [.ref a.pl, .ref a.pf]) := upd_same
    have k02 : Kp (fun z => z = F) H (upd H1 t (.tup [.ref a.pl, .ref a.pf])) := k1.trans k2.of0
    generalize upd H1 t (.tup [.ref a.pl, .ref a.pf]) = H2 at *
    have hfew := hi.few
    walk_at "go"
    refine lc_t [.ref a.pl, .ref a.pf] (fun D j H' => Outs H2 N f D j H') (fun D hD => ⟨.new hD, [], upd_same, rfl, fun i o ps h1 => by simp at h1⟩) (fun D j H' _ z => SqT.of (z.1.at0 hT2)) ?_ ?_
    · rintro D j y H3 hD hy I
      obtain ⟨pq, ads2, ps2, rfl, hps, hft, hpr, hin, hfw⟩ : ∃ (pq : Addr) (ads2 : List Addr) (ps2 : List (Nat × Nat)), y = .ref pq ∧ [N.loops, N.flags][j]? = some ps2 ∧ FT H2 pq (ads2.map V.ref) ∧ PrAt H2 ads2 ps2 ∧ (∀ p ∈ ps2, m p.2 = some (f p.2)) ∧ ps2.length < 100000 := by
        match j, hy with
        | 0, hy => cases hy; exact ⟨a.pl, a.la, N.loops, rfl, rfl, hN2.lo, hN2.ll, hi.lo, hfew.2.1⟩
        | 1, hy => cases hy; exact ⟨a.pf, a.fa, N.flags, rfl, rfl, hN2.fl, hN2.ff, hi.fl, hfew.2.2⟩
        | j + 2, hy => cases hy
      have k3 := I.1
      have hft3 := (FT.keep hft k3 fun z => z)
      have hsq3 : SqT K H3 pq (ads2.map V.ref) := hft3.sq
      have hpr3 := hpr.keep0 k3
      walk_at "go"
      refine ⟨rfl, ?_⟩
      walk_at "go"
      refine lc_t (ads2.map V.ref) (fun D2 i H' => Kp No H3 H' ∧ ∃ ads3, H' D2 = some (.lst (ads3.map V.ref)) ∧ PrAt H' ads3 (prRen f (ps2.take i))) (fun D2 hD2 => ⟨.new hD2, [], upd_same, .nil⟩) (fun D2 i H' _ z => Kp.sqt z.1 .no hsq3) ?_ ?_
      · rintro D2 i y H4 hD2 hy2 ⟨k4, ads3, g1, g2⟩
        rw [List.getElem?_map, Option.map_eq_some_iff] at hy2
        obtain ⟨ad, had, rfl⟩ := hy2
        have hi2 : i < ps2.length := by rw [← hpr.len]; exact (List.getElem?_eq_some_iff.mp had).1
        obtain ⟨pr, hpr2⟩ : ∃ pr, ps2[i]? = some pr := ⟨ps2[i], List.getElem?_eq_getElem hi2⟩
        have hrow := k4.at0 (hpr3.row i ad pr had hpr2)
        have hm := hin pr (List.mem_of_getElem? hpr2)
        have kb : Kp (fun z => z = F) H H4 := k02.trans (k3.trans k4).of0
        have hb2 : H4 b = some (.lst (ns.map nt)) := kb.at hb (nbF b _ hb)
        have hvx : atI (ns.map nt) ((pr.2 : Nat) : Int) = some (nt (f pr.2)) := atI_nat (j := pr.2) (by rw [List.getElem?_map, ← hv pr.2, hm]; rfl)
        walk_at "go"
        refine ⟨rfl, ?_⟩
        walk_at "go"
        skip
        intro t3 ht3
        have hlen : ads3.length = i := by rw [g2.len, prRen, List.length_map, List.length_take]; omega
        have nD2 : t3 ≠ D2 := (ne_of_none g1 ht3).symm
        refine ⟨_, by rw [upd_ne nD2.symm]; exact g1, by rw [List.length_map, sizeLine_eq]; omega, (k4.trans (.new ht3)).old hD2, ads3 ++ [t3], by rw [upd_same, List.map_append]; rfl, ?_⟩
        rw [take_one hpr2, prRen, List.map_append]
        have g3 : PrAt (upd H4 t3 (.tup [nt pr.1, nt (f pr.2)])) ads3 (prRen f (ps2.take i)) := g2.keep0 (.new ht3)
        refine (g3.keep (Kp.set (M := fun z => z = D2) rfl) fun z e => ?_).snoc (p := (pr.1, f pr.2)) (by rw [upd_ne nD2, upd_same])
        rw [e, upd_ne nD2.symm]
        exact ⟨fun xs e2 => (by rw [g1] at e2; cases e2), fun o xs e2 => (by rw [g1] at e2; cases e2)⟩
      · rintro D2 H4 hD2 ⟨k4, ads3, g1, g2⟩
        rw [show (ads2.map V.ref).length = ps2.length by rw [List.length_map, hpr.len], List.take_length] at g2
        walk_at "go"
        intro l o hl ho
        have k5 : Kp No H3 (upd H4 l (.frz o (.tup (ads3.map V.ref)))) := k4.trans (.new hl)
        obtain ⟨xs, q1, q2, q3⟩ := I.next hD k5 hps ⟨o, ho, upd_same⟩ (g2.keep0 (.new hl))
        have hj : j < 2 := by have := (List.getElem?_eq_some_iff.mp hps).1; simpa using this
        refine ⟨xs, q1, by rw [q2, sizeLine_eq]; omega, q3⟩
    · rintro D H3 hD ⟨k3, outs, g1, g2, g3⟩
      obtain ⟨x1, x2, rfl⟩ : ∃ x1 x2, outs = [x1, x2] := by
        match outs, g2 with
        | [x1, x2], _ => exact ⟨x1, x2, rfl⟩
      obtain ⟨f1, p1⟩ := g3 0 x1 N.loops rfl rfl
      obtain ⟨f2, p2⟩ := g3 1 x2 N.flags rfl rfl
      have e13 := k3.at0 e12
      have e23 := e22.keep0 k3
      have z0 : atI ([x1, x2].map fun o => V.ref o.1) 0 = some (.ref x1.1) := rfl
      have z1 : atI ([x1, x2].map fun o => V.ref o.1) 1 = some (.ref x2.1) := rfl
      walk_at "go"
      intro pc o hpc ho
      have hc4 : FT (upd H3 pc (.frz o (.tup (ads.map V.ref)))) pc (ads.map V.ref) := ⟨o, ho, upd_same⟩
      have k4 : Kp No H3 (upd H3 pc (.frz o (.tup (ads.map V.ref)))) := .new hpc
      have g4 := k4.at0 g1
      have f14 := FT.keep f1 k4 fun z => z
      have f24 := FT.keep f2 k4 fun z => z
      have p14 := p1.keep0 k4
      have p24 := p2.keep0 k4
      have e24 := e23.keep0 k4
      generalize upd H3 pc (.frz o (.tup (ads.map V.ref))) = H4 at *
      walk_at "go"
      intro pp hpp
      have k5 : Kp No H4 (upd H4 pp (.tup [.ref pc, .ref x1.1, .ref x2.1])) := .new hpp
      refine q ⟨pp, pc, x1.1, x2.1, ads, x1.2, x2.2⟩ _ ⟨upd_same, (FT.keep hc4 k5 fun z => z).sq, FT.keep f14 k5 (fun z => z), FT.keep f24 k5 (fun z => z), e24.keep0 k5, p14.keep0 k5, p24.keep0 k5⟩ ?_
      have kk := k02.trans ((k3.trans k4).trans k5).of0
      exact fun x o e n => kk x o e fun z => nbF x o e z
theorem ok_ren (G : Txt K w mg d) (D : Df K mg "renumbered" s_renumbered ["net", "numbers"]) : Cal P w K mg base CX0 1 "renumbered" (sp2 (pRen K)) := by
  refine cal0 D sc_renumbered rfl fun f0 cdv A outer s H vs Q E hr h => ?_
  obtain ⟨_, _, rfl, a, N, b, m, f, rfl, rfl, hN, hb, hi, q⟩ := h
  rcases hb with ⟨ns, hb, hv⟩ | ⟨kvs, hb, hv⟩
  · exact ok_ren_list G hr hN hb hv hi q
  · exact ok_ren_dict G hr hN hb hv hi q
end
end K7
namespace K7
open PySem PySem.Spec PyProof.Rows L2 B N7
/-! ### a net with some cells alone -/
def pick (cs : List Cell) (stay : List Nat) : List Cell := stay.map fun x => cs[x]?.getD .none
def Net.wo (N : Net) (stay : List Nat) : Net := (Net.mk (pick N.cells stay) N.loops N.flags).ren fun x => stay.idxOf x
structure Stays (N : Net) (stay : List Nat) : Prop where
  up : stay.Pairwise (· < ·)
  lt : ∀ x ∈ stay, x < N.cells.length
  cl : ∀ x ∈ stay, ∀ c, N.cells[x]? = some c → ∀ y ∈ c.refs, y ∈ stay
  lo : ∀ p ∈ N.loops, p.2 ∈ stay
  fl : ∀ p ∈ N.flags, p.2 ∈ stay
theorem up_nodup {l : List Nat} (h : l.Pairwise (· < ·)) : l.Nodup := h.imp fun h => Nat.ne_of_lt h
theorem idx_lt {l : List Nat} (h : l.Pairwise (· < ·)) {x y : Nat} (hx : x ∈ l) (hy : y ∈ l) (e : x < y) : l.idxOf x < l.idxOf y := by
  induction l with
  | nil => cases hx
  | cons z l ih =>
    rw [List.pairwise_cons] at h
    rw [List.idxOf_cons, List.idxOf_cons]
    rcases List.mem_cons.mp hx with rfl | hx1
    · have e1 : (x == y) = false := by simp; omega
      rw [e1, beq_self_eq_true, cond_true, cond_false]
      exact Nat.succ_pos _
    · have hzx : ¬ z = x := by have := h.1 x hx1; omega
      rcases List.mem_cons.mp hy with rfl | hy1
      · have := h.1 x hx1; omega
      · have hzy : ¬ z = y := by have := h.1 y hy1; omega
        have e1 : (z == x) = false := by simp [hzx]
        have e2 : (z == y) = false := by simp [hzy]
        rw [e1, e2, cond_false, cond_false]
        exact Nat.succ_lt_succ (ih h.2 hx1 hy1)
theorem getD_ix {cs : List Cell} {x : Nat} (h : x < cs.length) : cs[x]? = some (cs[x]?.getD .none) := by rw [List.getElem?_eq_getElem h]; rfl
theorem PrOk.ren {P : Nat → Prop} {n m : Nat} {ps : List (Nat × Nat)} {f : Nat → Nat} (h : PrOk P n ps) (hf : ∀ p ∈ ps, f p.2 < m) : PrOk P m (prRen f ps) := by
  refine ⟨?_, fun p hp => ?_⟩
  · have e : (prRen f ps).map (·.1) = ps.map (·.1) := by rw [prRen, List.map_map]; rfl
    rw [e]
    exact h.up
  · obtain ⟨q, hq, rfl⟩ := List.mem_map.mp hp
    exact ⟨(h.at_ q hq).1, hf q hq⟩
theorem Cell.ok.ren {S : Nat → Prop} {i m i2 m2 : Nat} {f : Nat → Nat} : ∀ {c : Cell}, c.ok S i m → (∀ x ∈ c.refs, x < i → f x < i2) → (∀ x ∈ c.refs, f x < m2) → (c.ren f).ok S i2 m2
  | .none, _, _, _ => trivial
  | .first, _, _, _ => trivial
  | .bit _, q, _, _ => q
  | .inv c, q, h, _ => h c (by simp [Cell.refs]) q
  | .gate _ a b, q, h, _ => ⟨h a (by simp [Cell.refs]) q.1, h b (by simp [Cell.refs]) q.2⟩
  | .later l, _, _, h => h l (by simp [Cell.refs])
theorem pick_at {cs : List Cell} {stay : List Nat} {i : Nat} {c : Cell} (h : (pick cs stay)[i]? = some c) (lt : ∀ x ∈ stay, x < cs.length) : ∃ x, stay[i]? = some x ∧ cs[x]? = some c := by
  rw [pick, List.getElem?_map, Option.map_eq_some_iff] at h
  obtain ⟨x, hx, rfl⟩ := h
  exact ⟨x, hx, getD_ix (lt x (List.mem_of_getElem? hx))⟩
theorem pick_len (cs : List Cell) (stay : List Nat) : (pick cs stay).length = stay.length := List.length_map _
theorem up_len {n : Nat} {stay : List Nat} (h : stay.Pairwise (· < ·)) (lt : ∀ x ∈ stay, x < n) : stay.length ≤ n := by
  have q := nat_nodup_len stay (List.range n) (up_nodup h) fun x hx => List.mem_range.mpr (lt x hx)
  simpa using q
theorem idx_at {l : List Nat} (h : l.Nodup) {i x : Nat} (hx : l[i]? = some x) : l.idxOf x = i := by
  obtain ⟨hi, e⟩ := List.getElem?_eq_some_iff.mp hx
  rw [← e]
  exact h.idxOf_getElem i hi
theorem wo_len (N : Net) (stay : List Nat) : (N.wo stay).cells.length = stay.length := by
  show ((pick N.cells stay).map _).length = _
  rw [List.length_map, pick_len]
theorem wo_ok {S : Nat → Prop} {N : Net} {stay : List Nat} (ok : NetOk S N) (st : Stays N stay) : NetOk S (N.wo stay) := by
  have hl := wo_len N stay
  have le := up_len st.up st.lt
  have il : ∀ x ∈ stay, stay.idxOf x < stay.length := fun x hx => List.idxOf_lt_length_of_mem hx
  refine ⟨by rw [hl]; exact Nat.le_trans le ok.few, fun i c hc => ?_, ?_, ?_⟩
  · rw [hl]
    replace hc : ((pick N.cells stay).map (Cell.ren fun x => stay.idxOf x))[i]? = some c := hc
    rw [List.getElem?_map, Option.map_eq_some_iff] at hc
    obtain ⟨c0, h0, rfl⟩ := hc
    obtain ⟨x, hx, hc0⟩ := pick_at h0 st.lt
    have hm := List.mem_of_getElem? hx
    refine (ok.ok x c0 hc0).ren (fun y hy hyx => ?_) fun y hy => il y (st.cl x hm c0 hc0 y hy)
    have := idx_lt st.up (st.cl x hm c0 hc0 y hy) hm hyx
    rw [idx_at (up_nodup st.up) hx] at this
    exact this
  · rw [hl]
    exact ok.lo.ren (f := fun x => stay.idxOf x) fun p hp => il _ (st.lo p hp)
  · rw [hl]
    exact ok.fl.ren (f := fun x => stay.idxOf x) fun p hp => il _ (st.fl p hp)
/-! ### the dict of the places -/
def prsD (l : List Nat) (n : Nat) : List (L2.Key × V) := (l.zipIdx n).map fun p => ((Sum.inl (p.1 : Int) : L2.Key), nt p.2)
theorem val_prs : ∀ (l : List Nat) (n : Nat) (d : List (L2.Key × V)) (i : Nat), l.Nodup → valV (mergeK d (prsD l n)) (Sum.inl (i : Int)) = if i ∈ l then some (nt (n + l.idxOf i)) else valV d (Sum.inl (i : Int))
  | [], n, d, i, _ => by simp [prsD, mergeK]
  | x :: l, n, d, i, h => by
    rw [List.nodup_cons] at h
    have e : mergeK d (prsD (x :: l) n) = mergeK (putK d (Sum.inl (x : Int)) (nt n)) (prsD l (n + 1)) := rfl
    rw [e, val_prs l (n + 1) _ i h.2, valV_put, List.idxOf_cons]
    by_cases h1 : i ∈ l
    · have hx : ¬ x = i := fun z => h.1 (by rw [z]; exact h1)
      have hb : (x == i) = false := by simp [hx]
      rw [if_pos h1, if_pos (List.mem_cons_of_mem _ h1), hb, cond_false]
      exact congrArg (fun z => some (nt z)) (by omega)
    · rw [if_neg h1]
      by_cases hx : x = i
      · subst hx
        rw [if_pos rfl, if_pos List.mem_cons_self, beq_self_eq_true, cond_true]
        rfl
      · rw [if_neg (fun z => hx (by injection z with z; omega)), if_neg (by simp [h1]; omega)]
section
variable {P : Program} {w : World} {K : PySem.W.Frag} {mg : Str → Option Value} {base : Heap} {d : Ads} {C : Addr} {S : Nat → Prop}
def pWithout (K : PySem.W.Frag) : V → V → Hp → VK → XK → Prop := fun x y H Q _ => ∃ (a : NAd) (N : Net) (b : Addr) (stay : List Nat), x = .ref a.p ∧ y = .ref b ∧ NetAt K H a N ∧ H b = some (.lst (stay.map nt)) ∧ Stays N stay ∧ N.cells.length < 100000 ∧ N.loops.length < 100000 ∧ N.flags.length < 100000 ∧
  ∀ (a' : NAd) H', NetAt K H' a' (N.wo stay) → Kp No H H' → Q (.ref a'.p) H'
theorem ok_without (G : Txt K w mg d) (D : Df K mg "without" s_without ["net", "stay"]) (c_renumbered : Cal P w K mg base CX0 1 "renumbered" (sp2 (pRen K))) : Cal P w K mg base CX0 2 "without" (sp2 (pWithout K)) := by
  refine cal0 D sc_without rfl fun f cdv A outer s H vs Q E hr h => ?_
  obtain ⟨_, _, rfl, a, N, b, stay, rfl, rfl, hN, hb, st, hf1, hf2, hf3, q⟩ := h
  refine ⟨_, (pss_cons (ps_set (i := 2) sc_without.nd rfl (Or.inl rfl) (pe_callTy (N7.dictL K rfl) (by rfl) G.n_dict (by decide +kernel) (pa_cons (pe_lc (own := [("k", 3)]) (g := gName 3) (tt := tYes) rfl sc_without.nd (pi_range1 (by rfl) G.n_range (pa_cons (pe_callB (lenS K) (by rfl) G.n_len (by decide +kernel) (pa_cons (pv 1) pa_nil)) pa_nil)) (blkOk_by (own := [("k", 3)]) (N := N_without) (sc := defScope s_without) (by decide +kernel)) (fun _ _ _ _ _ => (pg_name (i := 3) sc_without.nd rfl (Or.inl rfl))) (fun _ _ _ _ _ => pts_nil) (fun _ _ _ _ _ => (pe_tup (pa_cons (pe_ix (ixL K) (pv 1) (pv 3) (fun _ _ => rfl)) (pa_cons (pv 3) pa_nil))))) pa_nil)))
    (pss_cons (ps_asg (pv 0) (pgT (n := 3) K (by rfl) (pgs_cons (pg_name (i := 4) sc_without.nd rfl (Or.inr rfl)) (pgs_cons (pg_name (i := 5) sc_without.nd rfl (Or.inl rfl)) (pgs_cons (pg_name (i := 6) sc_without.nd rfl (Or.inl rfl)) pgs_nil)))))
    (pss_one (ps_ret (pe_c c_renumbered hr (by first | decide | omega) (by rfl) pass0 (pa_cons (pe_tup (pa_cons (pe_callTy (tupOf K) (by rfl) G.n_tuple (by decide +kernel) (pa_cons (pe_lc (own := [("number", 7)]) (g := gName 7) (tt := tYes) rfl sc_without.nd (piL K (pv 1)) (blkOk_by (own := [("number", 7)]) (N := N_without) (sc := defScope s_without) (by decide +kernel)) (fun _ _ _ _ _ => (pg_name (i := 7) sc_without.nd rfl (Or.inl rfl))) (fun _ _ _ _ _ => pts_nil) (fun _ _ _ _ _ => (pe_ix (ixT K) (pv 4) (pv 7) (fun _ _ => rfl)))) pa_nil)) (pa_cons (pv 5) (pa_cons (pv 6) pa_nil)))) (pa_cons (pv 2) pa_nil))))))), ?_⟩
  refine B.x_start (σ' := [some (.ref a.p), some (.ref b), none, none, none, none, none, none]) rfl ?_
  have hle := up_len st.up st.lt
  have el : (stay.map nt).length = stay.length := List.length_map _
  walk_at "go"
  rw [el]
  refine lc_r (n := stay.length) (fun D i H' => Kp No H H' ∧ ∃ ads, H' D = some (.lst (ads.map V.ref)) ∧ PrAt H' ads (stay.zipIdx.take i)) (fun D hD => ⟨.new hD, [], upd_same, .nil⟩) ?_ ?_
  · rintro D i H2 hD hi ⟨k1, ads, g1, g2⟩
    obtain ⟨x, hx⟩ : ∃ x, stay[i]? = some x := ⟨stay[i], List.getElem?_eq_getElem hi⟩
    have hz : stay.zipIdx[i]? = some (x, i) := by rw [List.getElem?_zipIdx, hx]; simp
    have hb1 := k1.at0 hb
    have e1 : atI (stay.map nt) (i : Int) = some (nt x) := atI_nat (j := i) (by rw [List.getElem?_map, hx]; rfl)
    walk_at "go"
    refine ⟨rfl, ?_⟩
    walk_at "go"
    intro t ht
    have hlen : ads.length = i := by rw [g2.len, List.length_take, List.length_zipIdx]; omega
    have nD : t ≠ D := (ne_of_none g1 ht).symm
    refine ⟨_, by rw [upd_ne nD.symm]; exact g1, by rw [List.length_map, sizeLine_eq]; omega, (k1.trans (.new ht)).old hD, ads ++ [t], by rw [upd_same, List.map_append]; rfl, ?_⟩
    rw [take_one hz]
    have g3 : PrAt (upd H2 t (.tup [nt x, nt i])) ads (stay.zipIdx.take i) := g2.keep0 (.new ht)
    refine (g3.keep (Kp.set (M := fun z => z = D) rfl) fun z e => ?_).snoc (p := (x, i)) (by rw [upd_ne nD, upd_same])
    rw [e, upd_ne nD.symm]
    exact ⟨fun xs e2 => (by rw [g1] at e2; cases e2), fun o xs e2 => (by rw [g1] at e2; cases e2)⟩
  · rintro D H2 hD ⟨k1, ads, g1, g2⟩
    rw [List.take_of_length_le (by rw [List.length_zipIdx]; exact Nat.le_refl _)] at g2
    walk_at "go"
    refine ⟨D, ads, prsD stay 0, rfl, ⟨SqL.of g1, by rw [g2.len]; simp [prsD], fun j t p h1 h2 => ?_⟩, fun pd hpd => ?_⟩
    · rw [prsD, List.getElem?_map, Option.map_eq_some_iff] at h2
      obtain ⟨p0, h3, rfl⟩ := h2
      exact SqT.of (g2.row j t p0 h1 h3)
    have k2 : Kp No H (upd H2 pd (.dK (mergeK [] (prsD stay 0)))) := k1.trans (.new hpd)
    have hpd2 : upd H2 pd (.dK (mergeK [] (prsD stay 0))) pd = some (.dK (mergeK [] (prsD stay 0))) := upd_same
    generalize upd H2 pd (.dK (mergeK [] (prsD stay 0))) = H3 at *
    have hN3 := hN.keep0 k2
    have hb3 := k2.at0 hb
    have top := hN3.top
    have cs := hN3.cs
    walk_at "go"
    refine lc_l (stay.map nt) (fun D i H' => Kp No H3 H' ∧ ∃ ads, H' D = some (.lst (ads.map V.ref)) ∧ ClAt H' ads ((pick N.cells stay).take i)) (fun D hD => ⟨.new hD, [], upd_same, .nil⟩) (fun D i H' _ z => SqL.of (z.1.at0 hb3)) ?_ ?_
    · rintro D2 i y H4 hD2 hy ⟨k3, ads2, f1, f2⟩
      rw [List.getElem?_map, Option.map_eq_some_iff] at hy
      obtain ⟨x, hx, rfl⟩ := hy
      have hxl := st.lt x (List.mem_of_getElem? hx)
      have hc := getD_ix hxl
      have hp : (pick N.cells stay)[i]? = some (N.cells[x]?.getD .none) := by rw [pick, List.getElem?_map, hx]; rfl
      obtain ⟨ad, had⟩ : ∃ ad, a.ca[x]? = some ad := ⟨a.ca[x]'(by rw [hN.cl.len]; exact hxl), List.getElem?_eq_getElem _⟩
      have cs4 := Kp.sqt k3 .no cs
      have hrow := k3.at0 (hN3.cl.row x ad _ had hc)
      have e1 : atI (a.ca.map V.ref) (x : Int) = some (.ref ad) := atI_nat (j := x) (by rw [List.getElem?_map, had]; rfl)
      walk_at "go"
      refine ⟨rfl, ?_⟩
      walk_at "go"
      have hi : i < stay.length := (List.getElem?_eq_some_iff.mp hx).1
      have hlen : ads2.length = i := by rw [f2.len, List.length_take, pick_len]; omega
      have nD : ad ≠ D2 := ne_of hrow f1 (by intro z; cases z)
      refine ⟨_, f1, by rw [List.length_map, sizeLine_eq]; omega, k3.old hD2, ads2 ++ [ad], by rw [upd_same, List.map_append]; rfl, ?_⟩
      rw [take_one hp]
      refine (f2.keep (Kp.set (M := fun z => z = D2) rfl) fun z e => ?_).snoc (by rw [upd_ne nD]; exact hrow)
      rw [e]
      exact ⟨fun xs e2 => (by rw [f1] at e2; cases e2), fun o xs e2 => (by rw [f1] at e2; cases e2)⟩
    · rintro D2 H4 hD2 ⟨k3, ads2, f1, f2⟩
      rw [el, List.take_of_length_le (by rw [pick_len]; exact Nat.le_refl _)] at f2
      walk_at "go"
      intro pc hpc
      have k4 := k3.trans (Kp.new (M := No) (o := .tup (ads2.map V.ref)) hpc)
      have hcs : SqT K (upd H4 pc (.tup (ads2.map V.ref))) pc (ads2.map V.ref) := SqT.of upd_same
      have f3 : ClAt (upd H4 pc (.tup (ads2.map V.ref))) ads2 (pick N.cells stay) := f2.keep0 (.new hpc)
      generalize upd H4 pc (.tup (ads2.map V.ref)) = H5 at *
      walk_at "go"
      intro pp hpp
      have k5 : Kp No H3 (upd H5 pp (.tup [.ref pc, .ref a.pl, .ref a.pf])) := k4.trans (.new hpp)
      have k6 : Kp No H5 (upd H5 pp (.tup [.ref pc, .ref a.pl, .ref a.pf])) := .new hpp
      have hN5 := hN3.keep0 k5
      walk_at "go"
      refine ⟨⟨pp, pc, a.pl, a.pf, ads2, a.la, a.fa⟩, ⟨pick N.cells stay, N.loops, N.flags⟩, pd, fun i => if i ∈ stay then some (stay.idxOf i) else none, fun x => stay.idxOf x, rfl, rfl, ⟨upd_same, Kp.sqt k6 .no hcs, hN5.lo, hN5.fl, f3.keep0 k6, hN5.ll, hN5.ff⟩, .inr ⟨_, k5.at0 hpd2, fun i => ?_⟩, ⟨fun c hc x hx => ?_, fun p hp => if_pos (st.lo p hp), fun p hp => if_pos (st.fl p hp), by rw [pick_len]; omega, hf2, hf3⟩, fun a' H' hN' k7 => q a' H' hN' ((k2.trans k5).trans k7)⟩
      · rw [val_prs stay 0 [] i (up_nodup st.up)]
        by_cases hi : i ∈ stay
        · simp only [if_pos hi, Nat.zero_add]; rfl
        · simp only [if_neg hi]; rfl
      · obtain ⟨i, hi⟩ := List.getElem?_of_mem hc
        obtain ⟨y, hy, hc2⟩ := pick_at hi st.lt
        exact if_pos (st.cl y (List.mem_of_getElem? hy) c hc2 x hx)
end
end K7
namespace K7
open PySem PySem.Spec PyProof.Rows L2 B N7
/-! ### cells as nested keys -/
def Cell.nk (c : Cell) : NK := .tup (.text c.nm :: c.args.map fun n : Nat => NestedKey.num (n : Int))
theorem nums_at {K : PySem.W.Frag} {H : Hp} : ∀ ns : List Nat, DpAll K H (ns.map nt) (NestedKey.datas (ns.map fun n : Nat => NestedKey.num (n : Int)))
  | [] => by rw [List.map_nil, List.map_nil, NestedKey.datas]; exact .nil
  | n :: ns => by rw [List.map_cons, List.map_cons, NestedKey.datas, NestedKey.data]; exact .cons (.int _) (nums_at ns)
theorem Cell.kd {K : PySem.W.Frag} {H : Hp} {ad : Addr} {c : Cell} (h : H ad = some (.tup c.vals)) : Kd K H (ad, c.nk) := by
  refine ⟨?_, ?_⟩
  · show Dp K H (.ref ad) (NestedKey.data (.tup (.text c.nm :: c.args.map fun n : Nat => NestedKey.num (n : Int))))
    rw [NestedKey.data, NestedKey.datas, NestedKey.data]
    exact .tup (SqT.of h) (.cons (.str _) (nums_at _))
  · cases c <;> simp [Cell.nk, NestedKey.depth, NestedKey.depthAll, Cell.args]
theorem Cell.nm_args_inj {c c' : Cell} (h : c.nm = c'.nm) (e : c.args = c'.args) : c = c' := by
  cases c <;> cases c' <;> simp only [Cell.nm, Cell.args] at h e <;> first
    | rfl
    | (cases e; done)
    | (cases e; rfl)
    | exact absurd h (by decide)
    | (rename_i g _ _; cases g <;> simp only [G2.nm] at h <;> exact absurd h (by decide))
    | (rename_i g a b g' a' b'; cases e; cases g <;> cases g' <;> simp only [G2.nm] at h <;> first | rfl | exact absurd h (by decide))
theorem Cell.nk_inj {c c' : Cell} (h : c.nk = c'.nk) : c = c' := by
  injection h with h
  injection h with h1 h2
  injection h1 with h1
  refine Cell.nm_args_inj h1 ?_
  have inj : ∀ xs ys : List Nat, (xs.map fun n : Nat => NestedKey.num (n : Int)) = (ys.map fun n : Nat => NestedKey.num (n : Int)) → xs = ys := by
    intro xs
    induction xs with
    | nil => intro ys e; cases ys with
      | nil => rfl
      | cons y ys => cases e
    | cons x xs ih => intro ys e; cases ys with
      | nil => cases e
      | cons y ys =>
        injection e with e1 e2
        injection e1 with e1
        rw [ih ys e2, Int.ofNat.inj e1]
  exact inj _ _ h2
theorem Cell.key_inj {c c' : Cell} (h : c.key = c'.key) : c = c' := by
  injection h with h1 h2
  injection h1 with h1
  refine Cell.nm_args_inj h1 ?_
  have inj : ∀ xs ys : List Nat, (xs.map fun n : Nat => (Sum.inl (n : Int) : L2.Key)) = (ys.map fun n : Nat => (Sum.inl (n : Int) : L2.Key)) → xs = ys := by
    intro xs
    induction xs with
    | nil => intro ys e; cases ys with
      | nil => rfl
      | cons y ys => cases e
    | cons x xs ih => intro ys e; cases ys with
      | nil => cases e
      | cons y ys =>
        injection e with e1 e2
        injection e1 with e1
        rw [ih ys e2, Int.ofNat.inj e1]
  exact inj _ _ h2
theorem PrOk.few {P : Nat → Prop} {n m : Nat} {ps : List (Nat × Nat)} (h : PrOk P n ps) (hP : ∀ r, P r → r < m) : ps.length ≤ m := by
  have q2 := nat_nodup_len (ps.map (·.1)) (List.range m) (up_nodup h.up) fun x hx => by
    obtain ⟨y, hy, rfl⟩ := List.mem_map.mp hx
    exact List.mem_range.mpr (hP _ (h.at_ y hy).1)
  simpa using q2
theorem refs_lt {S : Nat → Prop} {i m : Nat} : ∀ {c : Cell}, c.ok S i m → i < m → ∀ x ∈ c.refs, x < m
  | .none, _, _, x, h => by simp [Cell.refs] at h
  | .first, _, _, x, h => by simp [Cell.refs] at h
  | .bit _, _, _, x, h => by simp [Cell.refs] at h
  | .inv c, q, hi, x, h => by simp [Cell.refs] at h; subst h; exact Nat.lt_trans q hi
  | .gate _ a b, q, hi, x, h => by
    simp [Cell.refs] at h
    rcases h with rfl | rfl
    · exact Nat.lt_trans q.1 hi
    · exact Nat.lt_trans q.2 hi
  | .later l, q, _, x, h => by simp [Cell.refs] at h; subst h; exact q
theorem refs_ren (f : Nat → Nat) : ∀ c : Cell, (c.ren f).refs = c.refs.map f
  | .none => rfl | .first => rfl | .bit _ => rfl | .inv _ => rfl | .gate _ _ _ => rfl | .later _ => rfl
/-! ### a cell's first place -/
def firstOf (cells : List Cell) (i : Nat) : Nat := cells.idxOf (cells[i]?.getD .none)
theorem idxOf_le {cells : List Cell} {i : Nat} {c : Cell} (h : cells[i]? = some c) : cells.idxOf c ≤ i := by
  induction cells generalizing i with
  | nil => simp at h
  | cons x l ih =>
    rw [List.idxOf_cons]
    by_cases e : x = c
    · rw [show (x == c) = true by simp [e], cond_true]
      exact Nat.zero_le _
    · rw [show (x == c) = false by simp [e], cond_false]
      cases i with
      | zero => simp at h; exact absurd h e
      | succ i => exact Nat.succ_le_succ (ih (by simpa using h))
theorem firstOf_le {cells : List Cell} {i : Nat} (h : i < cells.length) : firstOf cells i ≤ i := idxOf_le (getD_ix h)
theorem ren_ok {S : Nat → Prop} {N : Net} (ok : NetOk S N) : NetOk S (N.ren (firstOf N.cells)) := by
  have hl : (N.ren (firstOf N.cells)).cells.length = N.cells.length := List.length_map _
  refine ⟨by rw [hl]; exact ok.few, fun i c hc => ?_, ?_, ?_⟩
  · rw [hl]
    replace hc : (N.cells.map (Cell.ren (firstOf N.cells)))[i]? = some c := hc
    rw [List.getElem?_map, Option.map_eq_some_iff] at hc
    obtain ⟨c0, h0, rfl⟩ := hc
    have hi := (List.getElem?_eq_some_iff.mp h0).1
    have hr := refs_lt (ok.ok i c0 h0) hi
    exact (ok.ok i c0 h0).ren (fun x hx hxi => Nat.lt_of_le_of_lt (firstOf_le (hr x hx)) hxi) fun x hx => Nat.lt_of_le_of_lt (firstOf_le (hr x hx)) (hr x hx)
  · rw [hl]
    exact ok.lo.ren fun p hp => Nat.lt_of_le_of_lt (firstOf_le (ok.lo.at_ p hp).2) (ok.lo.at_ p hp).2
  · rw [hl]
    exact ok.fl.ren fun p hp => Nat.lt_of_le_of_lt (firstOf_le (ok.fl.at_ p hp).2) (ok.fl.at_ p hp).2
theorem ren_stays {S : Nat → Prop} {N : Net} (ok : NetOk S N) {stay : List Nat} (up : stay.Pairwise (· < ·)) (mem : ∀ x, x ∈ stay ↔ ∃ c ∈ N.cells, N.cells.idxOf c = x) : Stays (N.ren (firstOf N.cells)) stay := by
  have hl : (N.ren (firstOf N.cells)).cells.length = N.cells.length := List.length_map _
  have hf : ∀ i, i < N.cells.length → firstOf N.cells i ∈ stay := fun i hi => (mem _).mpr ⟨_, List.mem_of_getElem? (getD_ix hi), rfl⟩
  refine ⟨up, fun x hx => ?_, fun x hx c hc y hy => ?_, fun p hp => ?_, fun p hp => ?_⟩
  · rw [hl]
    obtain ⟨c, hc, rfl⟩ := (mem x).mp hx
    exact List.idxOf_lt_length_of_mem hc
  · replace hc : (N.cells.map (Cell.ren (firstOf N.cells)))[x]? = some c := hc
    rw [List.getElem?_map, Option.map_eq_some_iff] at hc
    obtain ⟨c0, h0, rfl⟩ := hc
    have hr := refs_lt (ok.ok x c0 h0) (List.getElem?_eq_some_iff.mp h0).1
    rw [refs_ren] at hy
    obtain ⟨z, hz, rfl⟩ := List.mem_map.mp hy
    exact hf z (hr z hz)
  · obtain ⟨p0, hp0, rfl⟩ := List.mem_map.mp hp
    exact hf _ (ok.lo.at_ p0 hp0).2
  · obtain ⟨p0, hp0, rfl⟩ := List.mem_map.mp hp
    exact hf _ (ok.fl.at_ p0 hp0).2
theorem first_fewer {cells : List Cell} {stay : List Nat} (up : stay.Pairwise (· < ·)) (mem : ∀ x, x ∈ stay ↔ ∃ c ∈ cells, cells.idxOf c = x) (nd : ¬ cells.Nodup) : stay.length < cells.length := by
  obtain ⟨j, hj, hn⟩ : ∃ j, j < cells.length ∧ j ∉ stay := by
    by_cases h : ∃ j, j < cells.length ∧ j ∉ stay
    · exact h
    exfalso
    refine nd (List.nodup_iff_pairwise_ne.mpr (List.pairwise_iff_getElem.mpr fun i j hi hj hij e => h ⟨j, hj, fun hm => ?_⟩))
    obtain ⟨c, hc, ec⟩ := (mem j).mp hm
    have e1 : cells[j] = c := by
      have := List.getElem_idxOf (x := c) (xs := cells) (by rw [ec]; exact hj)
      simp only [ec] at this
      exact this
    have e2 := idxOf_le (cells := cells) (i := i) (c := c) (by rw [List.getElem?_eq_getElem hi, e, e1])
    omega
  have q := nat_nodup_len (j :: stay) (List.range cells.length) (List.nodup_cons.mpr ⟨hn, up_nodup up⟩) fun x hx => by
    rcases List.mem_cons.mp hx with rfl | hx
    · exact List.mem_range.mpr hj
    · obtain ⟨c, hc, rfl⟩ := (mem x).mp hx
      exact List.mem_range.mpr (List.idxOf_lt_length_of_mem hc)
  rw [List.length_range, List.length_cons] at q
  exact q
/-- the dict of the cells' first places -/
def Known (cells : List Cell) (i : Nat) (kvs : List (List L2.Key × V)) : Prop := kvs.length ≤ i ∧ ∀ c : Cell, valV kvs c.key = if c ∈ cells.take i then some (nt (cells.idxOf c)) else none
theorem Known.old {cells : List Cell} {i : Nat} {kvs : List (List L2.Key × V)} (h : Known cells i kvs) {c : Cell} (hc : cells[i]? = some c) (hm : c ∈ cells.take i) : Known cells (i + 1) kvs := by
  refine ⟨Nat.le_succ_of_le h.1, fun c' => ?_⟩
  rw [h.2 c', take_one hc]
  by_cases e : c' ∈ cells.take i
  · rw [if_pos e, if_pos (List.mem_append_left _ e)]
  · rw [if_neg e, if_neg]
    intro z
    rcases List.mem_append.mp z with z | z
    · exact e z
    · rw [List.mem_singleton] at z
      exact e (by rw [z]; exact hm)
theorem idx_new {cells : List Cell} {i : Nat} {c : Cell} (hc : cells[i]? = some c) (hn : c ∉ cells.take i) : cells.idxOf c = i := by
  have h1 := idxOf_le hc
  rcases Nat.lt_or_ge (cells.idxOf c) i with z | z
  · have hm : c ∈ cells := List.mem_of_getElem? hc
    have hlt := List.idxOf_lt_length_of_mem hm
    have e := List.getElem_idxOf (x := c) (xs := cells) hlt
    exact absurd (List.mem_of_getElem? (i := cells.idxOf c) (by rw [List.getElem?_take, if_pos z, List.getElem?_eq_getElem hlt, e])) hn
  · omega
theorem Known.new {cells : List Cell} {i : Nat} {kvs : List (List L2.Key × V)} (h : Known cells i kvs) {c : Cell} (hc : cells[i]? = some c) (hm : c ∉ cells.take i) : Known cells (i + 1) (putK kvs c.key (nt i)) := by
  refine ⟨by have := length_putK kvs c.key (nt i); have := h.1; omega, fun c' => ?_⟩
  rw [valV_put, h.2 c', take_one hc]
  by_cases e0 : c' = c
  · subst e0
    rw [if_pos rfl, if_pos (List.mem_append_right _ (List.mem_singleton.mpr rfl)), idx_new hc hm]
  · rw [if_neg (fun z => e0 (Cell.key_inj z))]
    by_cases e : c' ∈ cells.take i
    · rw [if_pos e, if_pos (List.mem_append_left _ e)]
    · rw [if_neg e, if_neg]
      intro z
      rcases List.mem_append.mp z with z | z
      · exact e z
      · rw [List.mem_singleton] at z
        exact e0 z
end K7
namespace K7
open PySem PySem.Spec PyProof.Rows L2 B N7
section
variable {P : Program} {w : World} {K : PySem.W.Frag} {mg : Str → Option Value} {base : Heap} {d : Ads} {C : Addr} {S : Nat → Prop}
/-- a net comes back, of no more cells -/
def Nets (K : PySem.W.Frag) (S : Nat → Prop) (N : Net) (H : Hp) (Q : VK) : Prop := ∀ (a' : NAd) (N' : Net) (H' : Hp), NetAt K H' a' N' → NetOk S N' → N'.cells.length ≤ N.cells.length → Kp No H H' → Q (.ref a'.p) H'
def pMerged (S : Nat → Prop) (K : PySem.W.Frag) : V → Hp → VK → XK → Prop := fun x H Q _ => ∃ (a : NAd) (N : Net), x = .ref a.p ∧ NetAt K H a N ∧ NetOk S N ∧ Nets K S N H Q
/-- the keys of a net's cells -/
def ckeys (ads : List Addr) (cells : List Cell) : List (Addr × NK) := ads.zip (cells.map Cell.nk)
theorem ckeys_fst {ads : List Addr} {cells : List Cell} (h : ads.length = cells.length) : (ckeys ads cells).map (fun p => V.ref p.1) = ads.map V.ref := by
  rw [ckeys, show (fun p : Addr × NK => V.ref p.1) = V.ref ∘ Prod.fst from rfl, ← List.map_map, List.map_fst_zip (by rw [List.length_map, h]; exact Nat.le_refl _)]
theorem ckeys_snd {ads : List Addr} {cells : List Cell} (h : ads.length = cells.length) : (ckeys ads cells).map (·.2) = cells.map Cell.nk := by
  rw [ckeys, List.map_snd_zip (by rw [List.length_map, h]; exact Nat.le_refl _)]
theorem ckeys_len {ads : List Addr} {cells : List Cell} (h : ads.length = cells.length) : (ckeys ads cells).length = cells.length := by simp [ckeys, h]
theorem ckeys_kd {H : Hp} {ads : List Addr} {cells : List Cell} (h : ClAt H ads cells) : ∀ p ∈ ckeys ads cells, Kd K H p := by
  intro p hp
  obtain ⟨i, hi⟩ := List.getElem?_of_mem hp
  rw [ckeys, List.getElem?_zip_eq_some] at hi
  obtain ⟨h1, h2⟩ := hi
  rw [List.getElem?_map, Option.map_eq_some_iff] at h2
  obtain ⟨c, hc, e⟩ := h2
  rw [show p = (p.1, c.nk) from by rw [e]]
  exact Cell.kd (h.row i p.1 c h1 hc)
theorem Come.nodup {ads : List Addr} {cells : List Cell} (h : ads.length = cells.length) {L : List (Addr × NK)} (g : Come (ckeys ads cells) (ckeys ads cells).length L) (lt : L.length < cells.length) : ¬ cells.Nodup := by
  rcases g.less with z | z
  · rw [ckeys_len h] at z; omega
  · rw [List.take_length, ckeys_snd h] at z
    intro q
    refine z ?_
    rw [List.nodup_iff_pairwise_ne, List.pairwise_map]
    rw [List.nodup_iff_pairwise_ne] at q
    exact q.imp fun h z => h (Cell.nk_inj z)
theorem ok_merged (G : Txt K w mg d) (D : Df K mg "merged" s_merged ["net"]) (c_renumbered : Cal P w K mg base CX0 1 "renumbered" (sp2 (pRen K))) (c_without : Cal P w K mg base CX0 2 "without" (sp2 (pWithout K))) : Cal P w K mg base CX0 3 "merged" (U fun S => sp1 (pMerged S K)) := by
  refine cal0 D sc_merged rfl fun f cdv A outer s H vs Q E hr h => ?_
  obtain ⟨S, h⟩ := h
  obtain ⟨_, rfl, a0, N0, rfl, hN0, ok0, q⟩ := h
  refine ⟨_, (pss_cons (ps_while PassesOwn.never (pt_cmpR op_lt (pe_callB (N7.lenN w) (by rfl) G.n_len (by decide +kernel) (pa_cons (pe_callTy (N7.setN K w rfl hr.units) (by rfl) G.n_set (by decide +kernel) (pa_cons (pe_ix (ixT K) (pv 0) pe_int (fun _ _ => rfl)) pa_nil)) pa_nil)) (pe_callB (lenS K) (by rfl) G.n_len (by decide +kernel) (pa_cons (pe_ix (ixT K) (pv 0) pe_int (fun _ _ => rfl)) pa_nil)) (nomark _))
      (pss_cons (ps_set (i := 1) sc_merged.nd rfl (Or.inr rfl) pe_dnewT)
      (pss_cons (ps_for PassesOwn.never rfl (pi_range1 (by rfl) G.n_range (pa_cons (pe_callB (lenS K) (by rfl) G.n_len (by decide +kernel) (pa_cons (pe_ix (ixT K) (pv 0) pe_int (fun _ _ => rfl)) pa_nil)) pa_nil)) (pg_name (i := 2) sc_merged.nd rfl (Or.inl rfl))
        (pss_one (ps_expr (N7.setdT (hu_of hr) (pv 1) (pe_ix (ixT K) (pe_ix (ixT K) (pv 0) pe_int (fun _ _ => rfl)) (pv 2) (fun _ _ => rfl)) (pv 2) (N7.m2 rfl)))))
      (pss_cons (ps_setLc (i := 3) (own := [("cell", 4)]) (g := gName 4) (tt := tYes) rfl sc_merged.nd rfl rfl (sw_true rfl rfl rfl (by decide +kernel)) (piT K (pe_ix (ixT K) (pv 0) pe_int (fun _ _ => rfl))) (blkOk_by (own := [("cell", 4)]) (N := N_merged) (sc := defScope s_merged) (by decide +kernel)) (fun _ _ _ _ _ => (pg_name (i := 4) sc_merged.nd rfl (Or.inl rfl))) (fun _ _ _ _ _ => pts_nil) (fun _ _ _ _ _ => (pe_dget (hu_of hr) (pv 1) (pv 4) (fun _ _ => rfl))))
      (pss_one (ps_set (i := 0) sc_merged.nd rfl (Or.inl rfl) (pe_c c_without hr (by first | decide | omega) (by rfl) pass0 (pa_cons (pe_c c_renumbered hr (by first | decide | omega) (by rfl) pass0 (pa_cons (pv 0) (pa_cons (pv 3) pa_nil))) (pa_cons (pe_callB (N7.sortI w rfl hr.units) (by rfl) G.n_sorted (by decide +kernel) (pa_cons (pe_callTy (N7.setI K w rfl) (by rfl) G.n_set (by decide +kernel) (pa_cons (pv 3) pa_nil)) pa_nil)) pa_nil)))))))))
    (pss_one (ps_ret (pv 0)))), ?_⟩
  refine B.x_start (σ' := [some (.ref a0.p), none, none, none, none]) rfl ?_
  walk_at "go"
  refine x_while (fun m σ H' => ∃ (a : NAd) (N : Net) (o1 o2 o3 o4 : Option V), σ = [some (.ref a.p), o1, o2, o3, o4] ∧ N.cells.length = m ∧ NetAt K H' a N ∧ NetOk S N ∧ m ≤ N0.cells.length ∧ Kp No H H') N0.cells.length ⟨a0, N0, _, _, _, _, rfl, rfl, hN0, ok0, Nat.le_refl _, .refl H⟩ ?_
  rintro m σ H1 ⟨a, N, o1, o2, o3, o4, rfl, hm, hN, ok, hm0, k1⟩
  have top := hN.top
  have cs := hN.cs
  have hl := hN.cl.len
  have few := ok.few
  walk_at "go"
  refine ⟨a.pc, ckeys a.ca N.cells, rfl, .inr (by rw [ckeys_fst hl]; exact cs), ckeys_kd hN.cl, by rw [ckeys_len hl]; omega, fun sa L hsa come => ?_⟩
  have k2 : Kp No H1 (upd H1 sa (SetNO w sa L)) := .new hsa
  have hN2 := hN.keep0 k2
  have top2 := hN2.top
  have cs2 := hN2.cs
  walk_at "go"
  rw [List.length_map, hl]
  walk_at "go"
  refine x_ite (fun e => ?_) (fun e => ?_)
  · have lt : L.length < N.cells.length := by simp at e; omega
    have nd := Come.nodup hl come lt
    refine ⟨fun σ H' => ∃ m', m' < m ∧ ∃ (a : NAd) (N : Net) (o1 o2 o3 o4 : Option V), σ = [some (.ref a.p), o1, o2, o3, o4] ∧ N.cells.length = m' ∧ NetAt K H' a N ∧ NetOk S N ∧ m' ≤ N0.cells.length ∧ Kp No H H', fun σ2 H2 z => z, ?_⟩
    have k12 := k1.trans k2
    generalize upd H1 sa (SetNO w sa L) = H2 at *
    walk_at "go"
    intro kp hkp
    have hk3 : upd H2 kp (.dT []) kp = some (.dT []) := upd_same
    have k3 : Kp No H2 (upd H2 kp (.dT [])) := .new hkp
    have hN3 := hN2.keep0 k3
    have nk : NoTup (fun z => z = kp) (upd H2 kp (.dT [])) := fun z e => by rw [e, upd_same]; exact ⟨fun xs e2 => (by cases e2), fun o xs e2 => (by cases e2)⟩
    generalize upd H2 kp (.dT []) = H3 at *
    have top3 := hN3.top
    have cs3 := hN3.cs
    have el : (((a.ca.map V.ref).length : Nat) : Int) = (N.cells.length : Int) := by rw [List.length_map, hl]
    walk_at "go"
    rw [el]
    refine fr_r (n := N.cells.length) (fun i σ H' => ∃ (o : Option V) (kvs : List (List L2.Key × V)), σ = [some (.ref a.p), some (.ref kp), o, o3, o4] ∧ Kp (fun z => z = kp) H3 H' ∧ H' kp = some (.dT kvs) ∧ Known N.cells i kvs) ⟨_, _, rfl, .refl _, hk3, Nat.le_refl _, fun c => by simp [valV_nil]⟩ ?_ ?_
    · rintro i σ H4 hi ⟨o, kvs, rfl, k4, g1, g2⟩
      have hN4 := hN3.keep k4 nk
      have top4 := hN4.top
      have cs4 := hN4.cs
      obtain ⟨c, hc⟩ : ∃ c, N.cells[i]? = some c := ⟨N.cells[i], List.getElem?_eq_getElem hi⟩
      obtain ⟨ad, had⟩ : ∃ ad, a.ca[i]? = some ad := ⟨a.ca[i]'(by rw [hl]; exact hi), List.getElem?_eq_getElem _⟩
      have hrow := hN4.cl.row i ad c had hc
      have e1 : atI (a.ca.map V.ref) (i : Int) = some (.ref ad) := atI_nat (j := i) (by rw [List.getElem?_map, had]; rfl)
      walk_at "go"
      refine ⟨kp, rfl, .inr ⟨_, .of g1⟩, ?_⟩
      walk_at "go"
      refine ⟨kvs, c.key, ad, g1, rfl, by rw [c.key_vals]; exact hrow, by have := g2.1; rw [sizeLine_eq]; omega, fun v hv => ?_, fun hv => ?_⟩
      · walk_at "go"
        refine ⟨_, kvs, rfl, k4, g1, g2.old hc ?_⟩
        have := g2.2 c
        rw [hv] at this
        by_cases z : c ∈ N.cells.take i
        · exact z
        · rw [if_neg z] at this; cases this
      · walk_at "go"
        refine ⟨_, _, rfl, k4.trans (.set rfl), upd_same, g2.new hc ?_⟩
        intro z
        have := g2.2 c
        rw [hv, if_pos z] at this
        cases this
    · rintro σ H4 ⟨o, kvs, rfl, k4, g1, g2⟩
      rw [Known, List.take_length] at g2
      have hN4 := hN3.keep k4 nk
      have k14 : Kp No H2 H4 := Kp.fresh k3 k4 (by rintro b rfl; exact hkp)
      have top4 := hN4.top
      have cs4 := hN4.cs
      walk_at "go"
      refine lc_t (a.ca.map V.ref) (fun D i H' => Kp No H4 H' ∧ H' D = some (.lst (((N.cells.take i).map N.cells.idxOf).map nt))) (fun D hD => ⟨.new hD, upd_same⟩) (fun D i H' _ z => Kp.sqt z.1 .no cs4) ?_ ?_
      · rintro D i y H5 hD hy ⟨k5, f1⟩
        rw [List.getElem?_map, Option.map_eq_some_iff] at hy
        obtain ⟨ad, had, rfl⟩ := hy
        have hi : i < N.cells.length := by rw [← hl]; exact (List.getElem?_eq_some_iff.mp had).1
        obtain ⟨c, hc⟩ : ∃ c, N.cells[i]? = some c := ⟨N.cells[i], List.getElem?_eq_getElem hi⟩
        have hrow := k5.at0 (hN4.cl.row i ad c had hc)
        have g15 := k5.at0 g1
        have hv : valV kvs c.key = some (nt (N.cells.idxOf c)) := by rw [g2.2 c, if_pos (List.mem_of_getElem? hc)]
        walk_at "go"
        refine ⟨rfl, ?_⟩
        walk_at "go"
        refine ⟨kp, nt (N.cells.idxOf c), rfl, by rw [← hv]; exact DGet.t g15 (by rw [c.key_vals]; exact hrow), ?_⟩
        refine ⟨_, f1, by rw [List.length_map, List.length_map, List.length_take, sizeLine_eq]; omega, k5.old hD, ?_⟩
        rw [upd_same, take_one hc, List.map_append, List.map_append]
        rfl
      · rintro D H5 hD ⟨k5, f1⟩
        rw [List.length_map, hl, List.take_length] at f1
        have hN5 := hN4.keep0 k5
        walk_at "go"
        refine ⟨a, N, D, fun i => (N.cells.map N.cells.idxOf)[i]?, firstOf N.cells, rfl, rfl, hN5, .inl ⟨_, f1, fun i => rfl⟩, ?_, fun a6 H6 hN6 k6 => ?_⟩
        · have hx : ∀ x, x < N.cells.length → (N.cells.map N.cells.idxOf)[x]? = some (firstOf N.cells x) := fun x hx => by rw [List.getElem?_map, getD_ix hx]; rfl
          refine ⟨fun c hc x hxr => hx x ?_, fun p hp => hx _ (ok.lo.at_ p hp).2, fun p hp => hx _ (ok.fl.at_ p hp).2, by omega, ?_, ?_⟩
          · obtain ⟨i, hi⟩ := List.getElem?_of_mem hc
            exact refs_lt (ok.ok i c hi) (List.getElem?_eq_some_iff.mp hi).1 x hxr
          · have := ok.lo.few (m := 8) fun r h => h.1
            omega
          · have := ok.fl.few (m := 4) fun r h => h
            omega
        have f16 := k6.at0 f1
        have f16' : H6 D = some (.lst ((N.cells.map fun c => ((N.cells.idxOf c : Nat) : Int)).map V.int)) := by rw [f16, List.map_map, List.map_map]; rfl
        walk_at "go"
        refine ⟨D, _, rfl, SqL.of f16', by rw [List.length_map]; omega, fun sb n hsb hn => ?_⟩
        have k7 : Kp No H6 (upd H6 sb (SetO w sb (fun j => decide (j ∈ N.cells.map fun c => ((N.cells.idxOf c : Nat) : Int))) n)) := .new hsb
        rw [List.length_map] at hn
        walk_at "go"
        refine ⟨sb, _, n, rfl, upd_same, by omega, fun ys l hll hup hmem => ?_⟩
        obtain ⟨stay, rfl⟩ : ∃ stay : List Nat, ys = stay.map fun n : Nat => (n : Int) := by
          refine ⟨ys.map Int.toNat, ?_⟩
          rw [List.map_map]
          refine (List.map_id ys).symm.trans (List.map_congr_left fun y hy => ?_)
          have := (hmem y).mp hy
          simp only [decide_eq_true_eq, List.mem_map] at this
          obtain ⟨c, _, rfl⟩ := this
          rfl
        have up : stay.Pairwise (· < ·) := by
          rw [List.pairwise_map] at hup
          exact hup.imp fun h => by omega
        have mem : ∀ x, x ∈ stay ↔ ∃ c ∈ N.cells, N.cells.idxOf c = x := fun x => by
          have := hmem (x : Int)
          simp only [decide_eq_true_eq, List.mem_map] at this
          constructor
          · intro h
            obtain ⟨c, hc, e⟩ := this.mp ⟨x, h, rfl⟩
            exact ⟨c, hc, by omega⟩
          · rintro ⟨c, hc, e⟩
            obtain ⟨y, hy, e2⟩ := this.mpr ⟨c, hc, by omega⟩
            have : y = x := by omega
            rw [← this]; exact hy
        have okr := ren_ok ok
        have str := ren_stays ok up mem
        have fewer := first_fewer up mem nd
        have k8 : Kp No H6 (upd (upd H6 sb (SetO w sb (fun j => decide (j ∈ N.cells.map fun c => ((N.cells.idxOf c : Nat) : Int))) n)) l (.lst ((stay.map fun n : Nat => (n : Int)).map V.int))) := k7.trans (.new hll)
        have hN8 := hN6.keep0 k8
        have hlr : (N.ren (firstOf N.cells)).cells.length = N.cells.length := List.length_map _
        walk_at "go"
        refine ⟨a6, N.ren (firstOf N.cells), l, stay, rfl, rfl, hN8, by rw [upd_same, List.map_map]; rfl, str, by omega, ?_, ?_, fun a9 H9 hN9 k9 => ?_⟩
        · have := okr.lo.few (m := 8) fun r h => h.1
          omega
        · have := okr.fl.few (m := 4) fun r h => h
          omega
        walk_at "go"
        have hw := wo_len (N.ren (firstOf N.cells)) stay
        exact ⟨_, by omega, a9, _, _, _, _, _, rfl, rfl, hN9, wo_ok okr str, by omega, k12.trans (k14.trans (k5.trans (k6.trans (k8.trans k9))))⟩
  · walk_at "go"
    exact q a N _ hN2 ok (by omega) (k1.trans k2)
end
end K7
namespace K7
open PySem PySem.Spec PyProof.Rows L2 B N7
section
variable {P : Program} {w : World} {K : PySem.W.Frag} {mg : Str → Option Value} {base : Heap} {d : Ads} {C : Addr} {S : Nat → Prop}
theorem lay_nts (ns : List Nat) : (ns.map nt).all okF = true := List.all_eq_true.mpr fun x hx => by
  obtain ⟨n, _, rfl⟩ := List.mem_map.mp hx
  rfl
theorem PrAt.append {H : Hp} {as bs : List Addr} {ps qs : List (Nat × Nat)} (h1 : PrAt H as ps) (h2 : PrAt H bs qs) : PrAt H (as ++ bs) (ps ++ qs) := by
  refine ⟨by rw [List.length_append, List.length_append, h1.len, h2.len], fun i ad p e1 e2 => ?_⟩
  rcases Nat.lt_or_ge i ps.length with z | z
  · rw [List.getElem?_append_left (by rw [h1.len]; exact z)] at e1
    rw [List.getElem?_append_left z] at e2
    exact h1.row i ad p e1 e2
  · rw [List.getElem?_append_right (by rw [h1.len]; exact z), h1.len] at e1
    rw [List.getElem?_append_right z] at e2
    exact h2.row _ ad p e1 e2
/-! ### what a net needs -/
def dTrue (F : List Nat) : List (L2.Key × V) := F.map fun x : Nat => ((Sum.inl (x : Int) : L2.Key), V.bl true)
theorem val_dTrue : ∀ (F : List Nat) (x : Nat), valV (dTrue F) (Sum.inl (x : Int)) = if x ∈ F then some (.bl true) else none
  | [], x => by simp [dTrue, valV_nil]
  | y :: F, x => by
    rw [dTrue, List.map_cons]
    by_cases e : y = x
    · subst e
      rw [valV_pos rfl, if_pos List.mem_cons_self]
    · rw [valV_neg (by intro z; injection z with z; omega)]
      have := val_dTrue F x
      rw [dTrue] at this
      rw [this]
      by_cases h : x ∈ F
      · rw [if_pos h, if_pos (List.mem_cons_of_mem _ h)]
      · rw [if_neg h, if_neg (by simp [h]; omega)]
theorem put_dTrue {F : List Nat} {x : Nat} (h : x ∉ F) : putK (dTrue F) (Sum.inl (x : Int)) (.bl true) = dTrue (F ++ [x]) := by
  have e : ¬ ((dTrue F).any fun kv => decide (kv.1 = (Sum.inl (x : Int) : L2.Key))) = true := by
    intro z
    rw [List.any_eq_true] at z
    obtain ⟨kv, h1, h2⟩ := z
    obtain ⟨y, hy, rfl⟩ := List.mem_map.mp h1
    have h3 := of_decide_eq_true h2
    injection h3 with h3
    exact h (by rw [show x = y by omega]; exact hy)
  rw [putK, if_neg e, dTrue, dTrue, List.map_append]
  rfl
structure Seek (N : Net) (F L : List Nat) : Prop where
  nd : F.Nodup
  flt : ∀ x ∈ F, x < N.cells.length
  llt : ∀ x ∈ L, x < N.cells.length
  cl : ∀ x ∈ F, ∀ c, N.cells[x]? = some c → ∀ y ∈ c.refs, y ∈ F ∨ y ∈ L
  lo : ∀ p ∈ N.loops, p.2 ∈ F ∨ p.2 ∈ L
  fl : ∀ p ∈ N.flags, p.2 ∈ F ∨ p.2 ∈ L
theorem Seek.few {N : Net} {F L : List Nat} (h : Seek N F L) : F.length ≤ N.cells.length := by
  have q := nat_nodup_len F (List.range N.cells.length) h.nd fun x hx => List.mem_range.mpr (h.flt x hx)
  simpa using q
theorem Seek.old {N : Net} {F L : List Nat} {x : Nat} (h : Seek N F (L ++ [x])) (hx : x ∈ F) : Seek N F L := by
  have g : ∀ y, y ∈ F ∨ y ∈ L ++ [x] → y ∈ F ∨ y ∈ L := fun y z => by
    rcases z with z | z
    · exact .inl z
    · rcases List.mem_append.mp z with z | z
      · exact .inr z
      · rw [List.mem_singleton] at z; subst z; exact .inl hx
  exact ⟨h.nd, h.flt, fun y hy => h.llt y (List.mem_append_left _ hy), fun y hy c hc r hr => g r (h.cl y hy c hc r hr), fun p hp => g _ (h.lo p hp), fun p hp => g _ (h.fl p hp)⟩
theorem Seek.new {S : Nat → Prop} {N : Net} (ok : NetOk S N) {F L : List Nat} {x : Nat} (h : Seek N F (L ++ [x])) (hx : x ∉ F) {c : Cell} (hc : N.cells[x]? = some c) : Seek N (F ++ [x]) (L ++ c.refs) := by
  have hxl := (List.getElem?_eq_some_iff.mp hc).1
  have g : ∀ y, y ∈ F ∨ y ∈ L ++ [x] → y ∈ F ++ [x] ∨ y ∈ L ++ c.refs := fun y z => by
    rcases z with z | z
    · exact .inl (List.mem_append_left _ z)
    · rcases List.mem_append.mp z with z | z
      · exact .inr (List.mem_append_left _ z)
      · exact .inl (List.mem_append_right _ z)
  refine ⟨?_, fun y hy => ?_, fun y hy => ?_, fun y hy c' hc' r hr => ?_, fun p hp => g _ (h.lo p hp), fun p hp => g _ (h.fl p hp)⟩
  · rw [List.nodup_append]
    exact ⟨h.nd, by simp, fun a ha b hb e => hx (by rw [List.mem_singleton] at hb; rw [← hb, ← e]; exact ha)⟩
  · rcases List.mem_append.mp hy with z | z
    · exact h.flt y z
    · rw [List.mem_singleton] at z; subst z; exact hxl
  · rcases List.mem_append.mp hy with z | z
    · exact h.llt y (List.mem_append_left _ z)
    · exact refs_lt (ok.ok x c hc) hxl y z
  · rcases List.mem_append.mp hy with z | z
    · exact g r (h.cl y z c' hc' r hr)
    · rw [List.mem_singleton] at z
      subst z
      rw [hc] at hc'
      cases hc'
      exact .inr (List.mem_append_right _ hr)
def pNeeded (S : Nat → Prop) (K : PySem.W.Frag) : V → Hp → VK → XK → Prop := fun x H Q _ => ∃ (a : NAd) (N : Net), x = .ref a.p ∧ NetAt K H a N ∧ NetOk S N ∧ ∀ (b : Addr) (stay : List Nat) H', H' b = some (.lst (stay.map nt)) → Stays N stay → Kp No H H' → Q (.ref b) H'
theorem ok_needed (G : Txt K w mg d) (D : Df K mg "needed" s_needed ["net"]) : Cal P w K mg base CX0 1 "needed" (U fun S => sp1 (pNeeded S K)) := by
  refine cal0 D sc_needed rfl fun f cdv A outer s H vs Q E hr h => ?_
  obtain ⟨S, h⟩ := h
  obtain ⟨_, rfl, a, N, rfl, hN, ok, q⟩ := h
  refine ⟨_, (pss_cons (ps_asg (pv 0) (pgT (n := 3) K (by rfl) (pgs_cons (pg_name (i := 1) sc_needed.nd rfl (Or.inl rfl)) (pgs_cons (pg_name (i := 2) sc_needed.nd rfl (Or.inl rfl)) (pgs_cons (pg_name (i := 3) sc_needed.nd rfl (Or.inl rfl)) pgs_nil)))))
    (pss_cons (ps_set (i := 4) sc_needed.nd rfl (Or.inl rfl) pe_dnewK)
    (pss_cons (ps_setLc (i := 5) (own := [("one", 6), ("cell", 7)]) (tt := tYes) rfl sc_needed.nd rfl rfl (sw_true rfl rfl rfl (by decide +kernel)) (piT K (pe_op (N7.catA K) (pv 2) (pv 3))) (blkOk_by (own := [("one", 6), ("cell", 7)]) (N := N_needed) (sc := defScope s_needed) (by decide +kernel)) (fun _ _ _ _ _ => (pgT (n := 2) K (by rfl) (pgs_cons (pg_name (i := 6) sc_needed.nd rfl (Or.inl rfl)) (pgs_cons (pg_name (i := 7) sc_needed.nd rfl (Or.inl rfl)) pgs_nil)))) (fun _ _ _ _ _ => pts_nil) (fun _ _ _ _ _ => (pv 7)))
    (pss_cons (ps_while PassesOwn.never (pt_cmpR (neD K hr.units) (pv 5) (pe_lst pa_nil) (nomark _))
      (pss_cons (ps_set (i := 8) sc_needed.nd rfl (Or.inl rfl) (bm0 K PySem.F.plainAttrs_list PySem.F.slot_list_pop PySem.F.type_list_pop mt_pop (pv 5)))
      (pss_one (ps_if (pt_cmp (pc_dnotin (hu_of hr) (pv 8) (pv 4)) (by rfl))
        (pss_cons (ps_dput (hu_of hr) (pv 4) (pv 8) pe_bl rfl)
        (pss_one (ps_expr (bm K PySem.F.plainAttrs_list PySem.F.slot_list_extend PySem.F.type_list_extend (N7.extT K) (pv 5) (pa_cons (pe_ifExp (pt_cmpR op_ne (pe_ix (ixT K) (pe_ix (ixT K) (pv 1) (pv 8) (fun _ _ => rfl)) pe_int (fun _ _ => rfl)) pe_str (nomark _)) (pe_slice (N7.slA K) (pe_ix (ixT K) (pv 1) (pv 8) (fun _ _ => rfl)) (po_some pe_int) po_none) (pe_lst pa_nil)) pa_nil)))))
        pss_nil))))
    (pss_one (ps_ret (pe_callB (N7.cr_sortDK rfl hr.units) (by rfl) G.n_sorted (by decide +kernel) (pa_cons (pv 4) pa_nil)))))))), ?_⟩
  refine B.x_start (σ' := [some (.ref a.p), none, none, none, none, none, none, none, none]) rfl ?_
  have top := hN.top
  have f8 := ok.lo.few (m := 8) fun r h => h.1
  have f4 := ok.fl.few (m := 4) fun r h => h
  walk_at "go"
  intro F hF
  have kF : Kp No H (upd H F (.dK [])) := .new hF
  have hN1 := hN.keep0 kF
  have hF1 : upd H F (.dK []) F = some (.dK []) := upd_same
  generalize upd H F (.dK []) = H1 at *
  walk_at "go"
  refine x_catA hN1.lo.sq hN1.fl.sq (by rw [List.length_map, List.length_map, hN1.ll.len, hN1.ff.len]; omega) fun pz H2 hpz k2 => ?_
  have k2' : Kp No H1 H2 := fun x o e _ => k2 x o e
  have hN2 := hN1.keep0 k2'
  have hF2 := k2'.at0 hF1
  rw [← List.map_append] at hpz
  have hpr := hN2.ll.append hN2.ff
  have hln := hpr.len
  rw [List.length_append] at hln
  walk_at "go"
  refine lc_t ((a.la ++ a.fa).map V.ref) (fun D i H' => Kp No H2 H' ∧ H' D = some (.lst ((((N.loops ++ N.flags).take i).map (·.2)).map nt))) (fun D hD => ⟨.new hD, upd_same⟩) (fun D i H' _ z => Kp.sqt z.1 .no hpz) ?_ ?_
  · rintro D i y H3 hD hy ⟨k3, g1⟩
    rw [List.getElem?_map, Option.map_eq_some_iff] at hy
    obtain ⟨ad, had, rfl⟩ := hy
    have hi : i < (N.loops ++ N.flags).length := by rw [← hpr.len]; exact (List.getElem?_eq_some_iff.mp had).1
    obtain ⟨p, hp⟩ : ∃ p, (N.loops ++ N.flags)[i]? = some p := ⟨_, List.getElem?_eq_getElem hi⟩
    have hrow := k3.at0 (hpr.row i ad p had hp)
    rw [List.length_append] at hi
    walk_at "go"
    refine ⟨rfl, ?_⟩
    walk_at "go"
    refine ⟨_, g1, by rw [List.length_map, List.length_map, List.length_take, sizeLine_eq]; omega, k3.old hD, ?_⟩
    rw [upd_same, take_one hp, List.map_append, List.map_append]
    rfl
  rintro LD H3 hLD ⟨k3, g1⟩
  rw [List.length_map, hpr.len, List.take_length] at g1
  have hN3 := hN2.keep0 k3
  have hF3 := k3.at0 hF2
  have hFD : F ≠ LD := ne_of hF3 g1 (by intro z; cases z)
  have k03 : Kp No H H3 := kF.trans (k2'.trans k3)
  have hLH : H LD = none := (kF.trans k2').free hLD
  have s0 : Seek N [] ((N.loops ++ N.flags).map (·.2)) := by
    refine ⟨List.nodup_nil, fun x hx => (by cases hx), fun x hx => ?_, fun x hx => (by cases hx), fun p hp => .inr (List.mem_map.mpr ⟨p, List.mem_append_left _ hp, rfl⟩), fun p hp => .inr (List.mem_map.mpr ⟨p, List.mem_append_right _ hp, rfl⟩)⟩
    obtain ⟨p, hp, rfl⟩ := List.mem_map.mp hx
    rcases List.mem_append.mp hp with z | z
    · exact (ok.lo.at_ p z).2
    · exact (ok.fl.at_ p z).2
  have few := ok.few
  have nM : NoTup (fun z => z = F ∨ z = LD) H3 := by
    rintro z (rfl | rfl)
    · exact ⟨fun xs e2 => (by rw [hF3] at e2; cases e2), fun o xs e2 => (by rw [hF3] at e2; cases e2)⟩
    · exact ⟨fun xs e2 => (by rw [g1] at e2; cases e2), fun o xs e2 => (by rw [g1] at e2; cases e2)⟩
  walk_at "go"
  refine x_while (fun m σ H' => ∃ (Fd L : List Nat) (o6 o7 o8 : Option V), σ = [some (.ref a.p), some (.ref a.pc), some (.ref a.pl), some (.ref a.pf), some (.ref F), some (.ref LD), o6, o7, o8] ∧ m = 3 * (N.cells.length - Fd.length) + L.length ∧ m ≤ 9012 ∧ Seek N Fd L ∧ H' F = some (.dK (dTrue Fd)) ∧ H' LD = some (.lst (L.map nt)) ∧ Kp (fun z => z = F ∨ z = LD) H3 H') (3 * N.cells.length + (N.loops ++ N.flags).length) ⟨[], (N.loops ++ N.flags).map (·.2), _, _, _, rfl, by simp, by rw [List.length_append]; omega, s0, hF3, g1, .refl _⟩ ?_
  rintro m σ H4 ⟨Fd, L, o6, o7, o8, rfl, hm, hm9, sk, e1, e2, k4⟩
  have hok := lay_nts L
  walk_at "go"
  intro e he
  have hN4 := hN3.keep k4 nM
  have kfew := sk.few
  walk_at "go"
  have k5 : Kp No H4 (upd H4 e (.lst [])) := .new he
  have e15 := k5.at0 e1
  have e25 := k5.at0 e2
  have hN5 := hN4.keep0 k5
  have k45 : Kp (fun z => z = F ∨ z = LD) H3 (upd H4 e (.lst [])) := k4.trans k5.of0
  have kall : ∀ {H6 : Hp}, Kp (fun z => z = F ∨ z = LD) H3 H6 → Kp No H H6 := fun k => by
    refine Kp.fresh k03 k ?_
    rintro b (rfl | rfl)
    · exact hF
    · exact hLH
  generalize upd H4 e (.lst []) = H5 at *
  rcases List.eq_nil_or_concat L with rfl | ⟨L', x, e0⟩
  · refine x_no rfl ?_
    walk_at "go"
    refine ⟨F, dTrue Fd, Fd.map fun x : Nat => (x : Int), rfl, e15, by rw [dTrue, List.map_map, List.map_map]; rfl, ?_, by rw [List.length_map]; omega, fun ys p hp hup hmem => ?_⟩
    · rw [List.nodup_iff_pairwise_ne, List.pairwise_map]
      have := sk.nd
      rw [List.nodup_iff_pairwise_ne] at this
      exact this.imp fun h z => h (by omega)
    obtain ⟨stay, rfl, mem⟩ : ∃ stay : List Nat, ys = stay.map (fun n : Nat => (n : Int)) ∧ ∀ x, x ∈ stay ↔ x ∈ Fd := by
      have e : ys = (ys.map Int.toNat).map fun n : Nat => (n : Int) := by
        rw [List.map_map]
        refine (List.map_id ys).symm.trans (List.map_congr_left fun y hy => ?_)
        obtain ⟨c, _, rfl⟩ := List.mem_map.mp ((hmem y).mp hy)
        rfl
      refine ⟨_, e, fun x => ?_⟩
      have h1 := hmem (x : Int)
      rw [e] at h1
      simp only [List.mem_map] at h1 ⊢
      constructor
      · rintro ⟨y, hy, rfl⟩
        obtain ⟨z, hz, e2⟩ := List.mem_map.mp ((hmem y).mp hy)
        subst e2
        exact hz
      · intro hx
        exact ⟨(x : Int), (hmem _).mpr (List.mem_map.mpr ⟨x, hx, rfl⟩), rfl⟩
    have up : stay.Pairwise (· < ·) := by
      rw [List.pairwise_map] at hup
      exact hup.imp fun h => by omega
    have sol : ∀ {y : Nat}, y ∈ Fd ∨ y ∈ ([] : List Nat) → y ∈ stay := fun z => by
      rcases z with z | z
      · exact (mem _).mpr z
      · cases z
    refine q p stay _ (by rw [upd_same, List.map_map]; rfl) ⟨up, fun x hx => sk.flt x ((mem x).mp hx), fun x hx c hc y hy => sol (sk.cl x ((mem x).mp hx) c hc y hy), fun p hp => sol (sk.lo p hp), fun p hp => sol (sk.fl p hp)⟩ ((kall k45).trans (.new hp))
  · rw [List.concat_eq_append] at e0
    subst e0
    refine x_yes (by simp) ?_
    refine ⟨fun σ H' => ∃ m', m' < m ∧ ∃ (Fd L : List Nat) (o6 o7 o8 : Option V), σ = [some (.ref a.p), some (.ref a.pc), some (.ref a.pl), some (.ref a.pf), some (.ref F), some (.ref LD), o6, o7, o8] ∧ m' = 3 * (N.cells.length - Fd.length) + L.length ∧ m' ≤ 9012 ∧ Seek N Fd L ∧ H' F = some (.dK (dTrue Fd)) ∧ H' LD = some (.lst (L.map nt)) ∧ Kp (fun z => z = F ∨ z = LD) H3 H', fun _ _ z => z, ?_⟩
    rw [List.length_append, List.length_singleton] at hm
    have hxl := sk.llt x (List.mem_append_right _ (List.mem_singleton.mpr rfl))
    walk_at "go"
    refine ⟨LD, (L' ++ [x]).map nt, nt x, rfl, rfl, e25, by simp, ?_⟩
    rw [List.map_append, List.map_singleton, List.dropLast_concat]
    have e26 : upd H5 LD (.lst (L'.map nt)) LD = some (.lst (L'.map nt)) := upd_same
    have e16 : upd H5 LD (.lst (L'.map nt)) F = some (.dK (dTrue Fd)) := by rw [upd_ne hFD]; exact e15
    have k6 : Kp (fun z => z = F ∨ z = LD) H3 (upd H5 LD (.lst (L'.map nt))) := k45.trans (.set (.inr rfl))
    have hN6 := hN3.keep k6 nM
    generalize upd H5 LD (.lst (L'.map nt)) = H6 at *
    walk_at "go"
    refine ⟨F, valV (dTrue Fd) (Sum.inl (x : Int)), rfl, DGet.k (k := Sum.inl (x : Int)) e16, ?_⟩
    rw [val_dTrue]
    walk_at "go"
    by_cases hx : x ∈ Fd
    · rw [if_pos hx]
      refine x_no rfl ?_
      walk_at "go"
      exact ⟨_, by omega, Fd, L', _, _, _, rfl, rfl, by omega, sk.old hx, e16, e26, k6⟩
    rw [if_neg hx]
    refine x_yes rfl ?_
    walk_at "go"
    refine ⟨F, _, rfl, DPut.k (k := Sum.inl (x : Int)) e16 (by rw [dTrue, List.length_map, sizeLine_eq]; omega), ?_⟩
    rw [put_dTrue hx]
    obtain ⟨c, hc⟩ : ∃ c, N.cells[x]? = some c := ⟨_, List.getElem?_eq_getElem hxl⟩
    have sk7 := sk.new ok hx hc
    have e17 : upd H6 F (.dK (dTrue (Fd ++ [x]))) F = some (.dK (dTrue (Fd ++ [x]))) := upd_same
    have e27 : upd H6 F (.dK (dTrue (Fd ++ [x]))) LD = some (.lst (L'.map nt)) := by rw [upd_ne hFD.symm]; exact e26
    have k7 : Kp (fun z => z = F ∨ z = LD) H3 (upd H6 F (.dK (dTrue (Fd ++ [x])))) := k6.trans (.set (.inl rfl))
    have hN7 := hN3.keep k7 nM
    generalize upd H6 F (.dK (dTrue (Fd ++ [x]))) = H7 at *
    have cs7 := hN7.cs
    obtain ⟨ad, had⟩ : ∃ ad, a.ca[x]? = some ad := ⟨a.ca[x]'(by rw [hN.cl.len]; exact hxl), List.getElem?_eq_getElem _⟩
    have hrow := hN7.cl.row x ad c had hc
    have z0 : atI c.vals 0 = some (.str c.nm) := atI_nat (j := 0) rfl
    have z1 : atI (a.ca.map V.ref) (x : Int) = some (.ref ad) := atI_nat (j := x) (by rw [List.getElem?_map, had]; rfl)
    have kfew7 := sk7.few
    rw [List.length_append, List.length_singleton] at kfew7
    have hr2 : c.refs.length ≤ 2 := by cases c <;> simp [Cell.refs]
    have fin : ∀ (t : Addr) (H8 : Hp) (R : VK), Kp No H7 H8 → (SqT K H8 t (c.refs.map nt) ∨ H8 t = some (.lst (c.refs.map nt))) → (∀ H9, H9 F = some (.dK (dTrue (Fd ++ [x]))) → H9 LD = some (.lst ((L' ++ c.refs).map nt)) → Kp (fun z => z = F ∨ z = LD) H3 H9 → R .non H9) → rExtT K (.ref LD) [.ref t] H8 R := by
      intro t H8 R k8 ht hR
      exact ⟨LD, t, _, _, rfl, rfl, k8.at0 e27, ht, by rw [List.length_map, List.length_map, sizeLine_eq]; omega, hR _ (by rw [upd_ne hFD]; exact k8.at0 e17) (by rw [upd_same, List.map_append]) ((k7.trans k8.of0).trans (.set (.inr rfl)))⟩
    have hlen1 : (Fd ++ [x]).length = Fd.length + 1 := by simp
    have hlen2 : (L' ++ c.refs).length = L'.length + c.refs.length := List.length_append
    walk_at "go"
    rcases c.nm_bit with ⟨r, rfl⟩ | ⟨hbit, hrefs, _⟩
    · refine x_no rfl ?_
      walk_at "go"
      intro t ht
      walk_at "go"
      exact fin t _ _ (.new ht) (.inr upd_same) fun H9 f1 f2 f3 => ⟨_, by omega, Fd ++ [x], L' ++ _, _, _, _, rfl, rfl, by omega, sk7, f1, f2, f3⟩
    · refine x_yes (by simp [hbit]) ?_
      walk_at "go"
      refine x_slA (SqT.of hrow) (cut1_not _) fun t ht => ?_
      rw [cut1, hrefs]
      walk_at "go"
      exact fin t _ _ (.new ht) (.inl (SqT.of upd_same)) fun H9 f1 f2 f3 => ⟨_, by omega, Fd ++ [x], L' ++ _, _, _, _, rfl, rfl, by omega, sk7, f1, f2, f3⟩
end
end K7
namespace K7
open PySem PySem.Spec PyProof.Rows L2 B N7
section
variable {P : Program} {w : World} {K : PySem.W.Frag} {mg : Str → Option Value} {base : Heap} {d : Ads} {C : Addr} {S : Nat → Prop}
theorem ok_trimmed (G : Txt K w mg d) (D : Df K mg "trimmed" s_trimmed ["net"]) (c_need_net : Cal P w K mg base CX0 3 "need_net" (U fun S => sp1 (pNeedNet S K))) (c_needed : Cal P w K mg base CX0 1 "needed" (U fun S => sp1 (pNeeded S K)))
    (c_without : Cal P w K mg base CX0 2 "without" (sp2 (pWithout K))) (c_merged : Cal P w K mg base CX0 3 "merged" (U fun S => sp1 (pMerged S K))) : Cal P w K mg base CX0 4 "trimmed" (U fun S => sp1 (pMerged S K)) := by
  refine cal0 D sc_trimmed rfl fun f cdv A outer s H vs Q E hr h => ?_
  obtain ⟨S, h⟩ := h
  replace c_need_net := c_need_net.at S
  replace c_needed := c_needed.at S
  replace c_merged := c_merged.at S
  obtain ⟨_, rfl, a, N, rfl, hN, ok, q⟩ := h
  refine ⟨_, (pss_cons (ps_expr (pe_c c_need_net hr (by first | decide | omega) (by rfl) pass0 (pa_cons (pv 0) pa_nil)))
    (pss_cons (ps_set (i := 1) sc_trimmed.nd rfl (Or.inl rfl) (pe_c c_merged hr (by first | decide | omega) (by rfl) pass0 (pa_cons (pe_c c_without hr (by first | decide | omega) (by rfl) pass0 (pa_cons (pv 0) (pa_cons (pe_c c_needed hr (by first | decide | omega) (by rfl) pass0 (pa_cons (pv 0) pa_nil)) pa_nil))) pa_nil)))
    (pss_one (ps_ret (pe_c c_without hr (by first | decide | omega) (by rfl) pass0 (pa_cons (pv 1) (pa_cons (pe_c c_needed hr (by first | decide | omega) (by rfl) pass0 (pa_cons (pv 1) pa_nil)) pa_nil))))))), ?_⟩
  refine B.x_start (σ' := [some (.ref a.p), none]) rfl ?_
  have f8 := ok.lo.few (m := 8) fun r h => h.1
  have f4 := ok.fl.few (m := 4) fun r h => h
  have few := ok.few
  walk_at "go"
  refine ⟨a, N, rfl, hN, ok, fun H1 k1 => ?_⟩
  have hN1 := hN.keep0 k1
  walk_at "go"
  refine ⟨a, N, rfl, hN1, ok, fun b stay H2 hb st k2 => ?_⟩
  have hN2 := hN1.keep0 k2
  walk_at "go"
  refine ⟨a, N, b, stay, rfl, rfl, hN2, hb, st, by omega, by omega, by omega, fun a3 H3 hN3 k3 => ?_⟩
  have ok3 := wo_ok ok st
  have l3 := wo_len N stay
  have le3 := up_len st.up st.lt
  walk_at "go"
  refine ⟨a3, _, rfl, hN3, ok3, fun a4 N4 H4 hN4 ok4 l4 k4 => ?_⟩
  have f8' := ok4.lo.few (m := 8) fun r h => h.1
  have f4' := ok4.fl.few (m := 4) fun r h => h
  have few' := ok4.few
  walk_at "go"
  refine ⟨a4, N4, rfl, hN4, ok4, fun b5 stay5 H5 hb5 st5 k5 => ?_⟩
  have hN5 := hN4.keep0 k5
  walk_at "go"
  refine ⟨a4, N4, b5, stay5, rfl, rfl, hN5, hb5, st5, by omega, by omega, by omega, fun a6 H6 hN6 k6 => ?_⟩
  have l6 := wo_len N4 stay5
  have le6 := up_len st5.up st5.lt
  exact q a6 _ H6 hN6 (wo_ok ok4 st5) (by omega) (k1.trans (k2.trans (k3.trans (k4.trans (k5.trans k6)))))
end
end K7
namespace K7
open PySem PySem.Spec PyProof.Rows L2 B N7
/-! ### places of the memories, loops that a net uses -/
def Cell.isL : Cell → Bool
  | .later _ => true | _ => false
def Cell.bitOf : Cell → Option Nat
  | .bit r => some r | _ => Option.none
def latersTo (cs : List Cell) (n : Nat) : List Nat := (List.range n).filter fun i => (cs[i]?.getD .none).isL
def laters (cs : List Cell) : List Nat := latersTo cs cs.length
theorem laters_one {cs : List Cell} {i : Nat} {c : Cell} (h : cs[i]? = some c) : latersTo cs (i + 1) = latersTo cs i ++ (if c.isL = true then [i] else []) := by
  rw [latersTo, List.range_succ, List.filter_append, latersTo]
  congr 1
  rw [List.filter_cons, List.filter_nil, h]
  rfl
theorem latersTo_len (cs : List Cell) (n : Nat) : (latersTo cs n).length ≤ n := by
  have := List.length_filter_le (fun i => (cs[i]?.getD .none).isL) (List.range n)
  rw [List.length_range] at this
  exact this
def usedN (N : Net) : List Nat := N.cells.filterMap Cell.bitOf ++ N.loops.map (·.1)
theorem isL_nm : ∀ c : Cell, (c.isL = true ∧ c.nm = "later") ∨ (c.isL = false ∧ c.nm ≠ "later")
  | .later _ => .inl ⟨rfl, rfl⟩
  | .none => .inr ⟨rfl, show ("none" : Str) ≠ "later" by decide⟩
  | .first => .inr ⟨rfl, show ("first" : Str) ≠ "later" by decide⟩
  | .inv _ => .inr ⟨rfl, show ("not" : Str) ≠ "later" by decide⟩
  | .bit _ => .inr ⟨rfl, show ("bit" : Str) ≠ "later" by decide⟩
  | .gate .and _ _ => .inr ⟨rfl, show ("and" : Str) ≠ "later" by decide⟩
  | .gate .or _ _ => .inr ⟨rfl, show ("or" : Str) ≠ "later" by decide⟩
  | .gate .odd _ _ => .inr ⟨rfl, show ("odd" : Str) ≠ "later" by decide⟩
theorem bit_nm : ∀ c : Cell, (∃ r, c = .bit r) ∨ (c.bitOf = none ∧ c.nm ≠ "bit")
  | .bit r => .inl ⟨r, rfl⟩
  | .none => .inr ⟨rfl, show ("none" : Str) ≠ "bit" by decide⟩
  | .first => .inr ⟨rfl, show ("first" : Str) ≠ "bit" by decide⟩
  | .inv _ => .inr ⟨rfl, show ("not" : Str) ≠ "bit" by decide⟩
  | .later _ => .inr ⟨rfl, show ("later" : Str) ≠ "bit" by decide⟩
  | .gate .and _ _ => .inr ⟨rfl, show ("and" : Str) ≠ "bit" by decide⟩
  | .gate .or _ _ => .inr ⟨rfl, show ("or" : Str) ≠ "bit" by decide⟩
  | .gate .odd _ _ => .inr ⟨rfl, show ("odd" : Str) ≠ "bit" by decide⟩
section
variable {P : Program} {w : World} {K : PySem.W.Frag} {mg : Str → Option Value} {base : Heap} {d : Ads} {C : Addr} {S : Nat → Prop}
def pMemories (K : PySem.W.Frag) : V → Hp → VK → XK → Prop := fun x H Q _ => ∃ (a : NAd) (N : Net), x = .ref a.p ∧ NetAt K H a N ∧ N.cells.length ≤ 3000 ∧ ∀ (b : Addr), H b = none → ∀ H', H' b = some (.lst ((laters N.cells).map nt)) → Kp No H H' → Q (.ref b) H'
theorem ok_memories (G : Txt K w mg d) (D : Df K mg "memories" s_memories ["net"]) : Cal P w K mg base CX0 1 "memories" (sp1 (pMemories K)) := by
  refine cal0 D sc_memories rfl fun f cdv A outer s H vs Q E hr h => ?_
  obtain ⟨_, rfl, a, N, rfl, hN, few, q⟩ := h
  refine ⟨_, (pss_one (ps_ret (pe_lc (own := [("number", 1)]) (g := gName 1) rfl sc_memories.nd (pi_range1 (by rfl) G.n_range (pa_cons (pe_callB (lenS K) (by rfl) G.n_len (by decide +kernel) (pa_cons (pe_ix (ixT K) (pv 0) pe_int (fun _ _ => rfl)) pa_nil)) pa_nil)) (blkOk_by (own := [("number", 1)]) (N := N_memories) (sc := defScope s_memories) (by decide +kernel)) (fun _ _ _ _ _ => (pg_name (i := 1) sc_memories.nd rfl (Or.inl rfl))) (fun _ _ _ _ _ => pts_one (pt_cmpR op_eq (pe_ix (ixT K) (pe_ix (ixT K) (pe_ix (ixT K) (pv 0) pe_int (fun _ _ => rfl)) (pv 1) (fun _ _ => rfl)) pe_int (fun _ _ => rfl)) pe_str (nomark _))) (fun _ _ _ _ _ => (pv 1))))), ?_⟩
  refine B.x_start (σ' := [some (.ref a.p), none]) rfl ?_
  have top := hN.top
  have cs := hN.cs
  have hl := hN.cl.len
  have el : (((a.ca.map V.ref).length : Nat) : Int) = (N.cells.length : Int) := by rw [List.length_map, hl]
  walk_at "go"
  rw [el]
  refine lc_r (n := N.cells.length) (fun D i H' => Kp No H H' ∧ H' D = some (.lst ((latersTo N.cells i).map nt))) (fun D hD => ⟨.new hD, upd_same⟩) ?_ ?_
  · rintro D i H2 hD hi ⟨k1, g1⟩
    have hN2 := hN.keep0 k1
    have top2 := hN2.top
    have cs2 := hN2.cs
    obtain ⟨c, hc⟩ : ∃ c, N.cells[i]? = some c := ⟨N.cells[i], List.getElem?_eq_getElem hi⟩
    obtain ⟨ad, had⟩ : ∃ ad, a.ca[i]? = some ad := ⟨a.ca[i]'(by rw [hl]; exact hi), List.getElem?_eq_getElem _⟩
    have hrow := hN2.cl.row i ad c had hc
    have e1 : atI (a.ca.map V.ref) (i : Int) = some (.ref ad) := atI_nat (j := i) (by rw [List.getElem?_map, had]; rfl)
    have z0 : atI c.vals 0 = some (.str c.nm) := atI_nat (j := 0) rfl
    walk_at "go"
    refine ⟨rfl, ?_⟩
    walk_at "go"
    rcases isL_nm c with ⟨e2, e3⟩ | ⟨e2, e3⟩
    · refine x_yes (by simp [e3]) ?_
      walk_at "go"
      refine ⟨_, g1, by have := latersTo_len N.cells i; rw [List.length_map, sizeLine_eq]; omega, k1.old hD, ?_⟩
      rw [upd_same, laters_one hc, e2, List.map_append]
      rfl
    · refine x_no (by simp [e3]) ?_
      refine ⟨k1, ?_⟩
      rw [laters_one hc, e2, List.map_append]
      simpa using g1
  · rintro D H2 hD ⟨k1, g1⟩
    exact q D hD H2 g1 k1
def pUsed (K : PySem.W.Frag) : V → Hp → VK → XK → Prop := fun x H Q _ => ∃ (a : NAd) (N : Net), x = .ref a.p ∧ NetAt K H a N ∧ N.cells.length ≤ 3000 ∧ N.loops.length ≤ 8 ∧ ∀ (b : Addr) H', H' b = some (.lst ((usedN N).map nt)) → Kp No H H' → Q (.ref b) H'
theorem ok_used (G : Txt K w mg d) (D : Df K mg "used" s_used ["net"]) : Cal P w K mg base CX0 1 "used" (sp1 (pUsed K)) := by
  refine cal0 D sc_used rfl fun f cdv A outer s H vs Q E hr h => ?_
  obtain ⟨_, rfl, a, N, rfl, hN, few, few8, q⟩ := h
  refine ⟨_, (pss_one (ps_ret (pe_op op_cat (pe_lc (own := [("cell", 1)]) (g := gName 1) rfl sc_used.nd (piT K (pe_ix (ixT K) (pv 0) pe_int (fun _ _ => rfl))) (blkOk_by (own := [("cell", 1)]) (N := N_used) (sc := defScope s_used) (by decide +kernel)) (fun _ _ _ _ _ => (pg_name (i := 1) sc_used.nd rfl (Or.inl rfl))) (fun _ _ _ _ _ => pts_one (pt_cmpR op_eq (pe_ix (ixT K) (pv 1) pe_int (fun _ _ => rfl)) pe_str (nomark _))) (fun _ _ _ _ _ => (pe_ix (ixT K) (pv 1) pe_int (fun _ _ => rfl)))) (pe_lc (own := [("loop", 2), ("cell", 1)]) (tt := tYes) rfl sc_used.nd (piT K (pe_ix (ixT K) (pv 0) pe_int (fun _ _ => rfl))) (blkOk_by (own := [("loop", 2), ("cell", 1)]) (N := N_used) (sc := defScope s_used) (by decide +kernel)) (fun _ _ _ _ _ => (pgT (n := 2) K (by rfl) (pgs_cons (pg_name (i := 2) sc_used.nd rfl (Or.inl rfl)) (pgs_cons (pg_name (i := 1) sc_used.nd rfl (Or.inl rfl)) pgs_nil)))) (fun _ _ _ _ _ => pts_nil) (fun _ _ _ _ _ => (pv 2)))))), ?_⟩
  refine B.x_start (σ' := [some (.ref a.p), none, none]) rfl ?_
  have top := hN.top
  have cs := hN.cs
  have hl := hN.cl.len
  walk_at "go"
  refine lc_t (a.ca.map V.ref) (fun D i H' => Kp No H H' ∧ H' D = some (.lst (((N.cells.take i).filterMap Cell.bitOf).map nt))) (fun D hD => ⟨.new hD, upd_same⟩) (fun D i H' _ z => Kp.sqt z.1 .no cs) ?_ ?_
  · rintro D i y H2 hD hy ⟨k1, g1⟩
    rw [List.getElem?_map, Option.map_eq_some_iff] at hy
    obtain ⟨ad, had, rfl⟩ := hy
    have hi : i < N.cells.length := by rw [← hl]; exact (List.getElem?_eq_some_iff.mp had).1
    obtain ⟨c, hc⟩ : ∃ c, N.cells[i]? = some c := ⟨N.cells[i], List.getElem?_eq_getElem hi⟩
    have hrow := k1.at0 (hN.cl.row i ad c had hc)
    have z0 : atI c.vals 0 = some (.str c.nm) := atI_nat (j := 0) rfl
    have hlen : ((N.cells.take i).filterMap Cell.bitOf).length ≤ i := Nat.le_trans (List.length_filterMap_le _ _) (by rw [List.length_take]; omega)
    walk_at "go"
    refine ⟨rfl, ?_⟩
    walk_at "go"
    rcases bit_nm c with ⟨r, rfl⟩ | ⟨e2, e3⟩
    · refine x_yes rfl ?_
      have z1 : atI (Cell.bit r).vals 1 = some (nt r) := atI_nat (j := 1) rfl
      walk_at "go"
      refine ⟨_, g1, by rw [List.length_map, sizeLine_eq]; omega, k1.old hD, ?_⟩
      rw [upd_same, take_one hc, List.filterMap_append, List.map_append]
      rfl
    · refine x_no (by simp [e3]) ?_
      refine ⟨k1, ?_⟩
      rw [take_one hc, List.filterMap_append, List.filterMap_cons, e2, List.filterMap_nil, List.append_nil]
      exact g1
  · rintro D H2 hD ⟨k1, g1⟩
    rw [List.length_map, hl, List.take_length] at g1
    have hN2 := hN.keep0 k1
    have top2 := hN2.top
    have lo2 : SqT K H2 a.pl (a.la.map V.ref) := hN2.lo.sq
    walk_at "go"
    refine lc_t (a.la.map V.ref) (fun D i H' => Kp No H2 H' ∧ H' D = some (.lst (((N.loops.take i).map (·.1)).map nt))) (fun D hD => ⟨.new hD, upd_same⟩) (fun D i H' _ z => Kp.sqt z.1 .no lo2) ?_ ?_
    · rintro D2 i y H3 hD2 hy ⟨k2, g2⟩
      rw [List.getElem?_map, Option.map_eq_some_iff] at hy
      obtain ⟨ad, had, rfl⟩ := hy
      have hi : i < N.loops.length := by rw [← hN.ll.len]; exact (List.getElem?_eq_some_iff.mp had).1
      obtain ⟨p, hp⟩ : ∃ p, N.loops[i]? = some p := ⟨_, List.getElem?_eq_getElem hi⟩
      have hrow := k2.at0 (hN2.ll.row i ad p had hp)
      walk_at "go"
      refine ⟨rfl, ?_⟩
      walk_at "go"
      refine ⟨_, g2, by rw [List.length_map, List.length_map, List.length_take, sizeLine_eq]; omega, k2.old hD2, ?_⟩
      rw [upd_same, take_one hp, List.map_append, List.map_append]
      rfl
    · rintro D2 H3 hD2 ⟨k2, g2⟩
      rw [List.length_map, hN.ll.len, List.take_length] at g2
      have l1 : (N.cells.filterMap Cell.bitOf).length ≤ N.cells.length := List.length_filterMap_le _ _
      refine ⟨D, D2, _, _, rfl, rfl, k2.at0 g1, g2, by rw [List.length_map, List.length_map, List.length_map, sizeLine_eq]; omega, fun p hp => ?_⟩
      refine q p _ ?_ ((k1.trans k2).trans (.new hp))
      rw [upd_same, usedN, List.map_append]
end
end K7
namespace K7
open PySem PySem.Spec PyProof.Rows L2 B N7
/-! ### Pairs: the object -/
structure PAd where
  x : Addr
  C : Addr
  dx : Addr
  pn : Addr
  pl : Addr
  a1 : NAd
  a2 : NAd
def prF (a : PAd) : List (Str × V) := [("nets", .ref a.pn), ("loops", .ref a.pl)]
structure PTxt (K : PySem.W.Frag) (C : Addr) : Prop where
  cl : Cls K C
  na : ∀ f : Str, f = "nets" ∨ f = "loops" → NoAttr K C f
structure PairsAt (K : PySem.W.Frag) (H : Hp) (a : PAd) (N M : Net) (L : List Nat) : Prop where
  ob : H a.x = some (.ins a.C a.dx (prF a))
  nt : H a.pn = some (.tup [.ref a.a1.p, .ref a.a2.p])
  n1 : NetAt K H a.a1 N
  n2 : NetAt K H a.a2 M
  lp : H a.pl = some (.lst (L.map K7.nt))
structure LpOk (N M : Net) (L : List Nat) : Prop where
  up : L.Pairwise (· < ·)
  mem : ∀ r, r ∈ L ↔ r ∈ usedN N ∨ r ∈ usedN M
section
variable {K : PySem.W.Frag} {H H' : Hp} {a : PAd} {N M : Net} {L : List Nat}
theorem PairsAt.keep0 (h : PairsAt K H a N M L) (k : Kp No H H') : PairsAt K H' a N M L := ⟨k.at0 h.ob, k.at0 h.nt, h.n1.keep0 k, h.n2.keep0 k, k.at0 h.lp⟩
theorem pg_n {R : V → Prop} (T : PTxt K a.C) (M : H a.x = some (.ins a.C a.dx (prF a))) (k : R (.ref a.pn)) : ∃ b C dx fs v, V.ref a.x = .ref b ∧ H b = some (.ins C dx fs) ∧ Cls K C ∧ NoAttr K C "nets" ∧ fs.lookup ("nets" : Str) = some v ∧ R v := ⟨_, _, _, _, .ref a.pn, rfl, M, T.cl, T.na _ (.inl rfl), rfl, k⟩
theorem pg_l {R : V → Prop} (T : PTxt K a.C) (M : H a.x = some (.ins a.C a.dx (prF a))) (k : R (.ref a.pl)) : ∃ b C dx fs v, V.ref a.x = .ref b ∧ H b = some (.ins C dx fs) ∧ Cls K C ∧ NoAttr K C "loops" ∧ fs.lookup ("loops" : Str) = some v ∧ R v := ⟨_, _, _, _, .ref a.pl, rfl, M, T.cl, T.na _ (.inr rfl), rfl, k⟩
theorem pmeth {R : Prop} {m : Str} (M : H a.x = some (.ins a.C a.dx (prF a))) (hm : (["nets", "loops"] : List Str).contains m = false) (k : R) : ∃ b dx fs, V.ref a.x = .ref b ∧ H b = some (.ins a.C dx fs) ∧ fs.lookup m = none ∧ R := by
  refine ⟨_, _, _, rfl, M, ?_, k⟩
  show (List.zip (["nets", "loops"] : List Str) [V.ref a.pn, .ref a.pl]).lookup m = none
  exact zip_none hm
end
section
variable {P : Program} {w : World} {K : PySem.W.Frag} {mg : Str → Option Value} {base : Heap} {d : Ads} {C : Addr} {S : Nat → Prop}
theorem nats_of {ys : List Int} {L : List Nat} (up : ys.Pairwise (· < ·)) (mem : ∀ k, k ∈ ys ↔ decide (k ∈ L.map fun n : Nat => (n : Int)) = true) : ∃ stay : List Nat, ys = stay.map (fun n : Nat => (n : Int)) ∧ stay.Pairwise (· < ·) ∧ ∀ x, x ∈ stay ↔ x ∈ L := by
  simp only [decide_eq_true_eq] at mem
  have e : ys = (ys.map Int.toNat).map fun n : Nat => (n : Int) := by
    rw [List.map_map]
    refine (List.map_id ys).symm.trans (List.map_congr_left fun y hy => ?_)
    obtain ⟨c, _, rfl⟩ := List.mem_map.mp ((mem y).mp hy)
    rfl
  refine ⟨_, e, ?_, fun x => ?_⟩
  · rw [e, List.pairwise_map] at up
    exact up.imp fun h => by omega
  · simp only [List.mem_map]
    constructor
    · rintro ⟨y, hy, rfl⟩
      obtain ⟨z, hz, e2⟩ := List.mem_map.mp ((mem y).mp hy)
      subst e2
      exact hz
    · intro hx
      exact ⟨(x : Int), (mem _).mpr (List.mem_map.mpr ⟨x, hx, rfl⟩), rfl⟩
def pPInit (K : PySem.W.Frag) (C : Addr) : V → V → V → Hp → VK → XK → Prop := fun x y z H Q _ => ∃ (b dx : Addr) (a1 a2 : NAd) (N M : Net), x = .ref b ∧ y = .ref a1.p ∧ z = .ref a2.p ∧ H b = some (.ins C dx []) ∧ NetAt K H a1 N ∧ NetAt K H a2 M ∧ N.cells.length ≤ 1900 ∧ M.cells.length ≤ 1900 ∧ N.loops.length ≤ 8 ∧ M.loops.length ≤ 8 ∧
  ∀ H' (a : PAd) (L : List Nat), a.x = b → a.C = C → a.a1 = a1 → a.a2 = a2 → PairsAt K H' a N M L → LpOk N M L → Kp (fun z => z = b) H H' → Q .non H'
theorem ok_pinit (G : Txt K w mg d) (T : PTxt K C) (D : If K mg C "Pairs" "Pairs.__init__" s_Pairs_init ["self", "one", "other"]) (c_used : Cal P w K mg base CX0 1 "used" (sp1 (pUsed K))) : Mak P w K mg base CX0 2 "Pairs" C (sp3 (pPInit K C)) := by
  refine mak0 D sc_Pairs_init rfl fun f cdv A outer s H vs Q E hr h => ?_
  obtain ⟨_, _, _, rfl, b, dx, a1, a2, N, M, rfl, rfl, rfl, hb, hN, hM, l1, l2, l3, l4, q⟩ := h
  refine ⟨_, (pss_cons (sfldK K (pv 0) (pe_tup (pa_cons (pv 1) (pa_cons (pv 2) pa_nil))))
    (pss_one (sfldK K (pv 0) (pe_callB (N7.sortI w rfl hr.units) (by rfl) G.n_sorted (by decide +kernel) (pa_cons (pe_callTy (N7.setI K w rfl) (by rfl) G.n_set (by decide +kernel) (pa_cons (pe_op op_cat (pe_c c_used hr (by first | decide | omega) (by rfl) pass0 (pa_cons (pv 1) pa_nil)) (pe_c c_used hr (by first | decide | omega) (by rfl) pass0 (pa_cons (pv 2) pa_nil))) pa_nil)) pa_nil))))), ?_⟩
  refine B.x_start (σ' := [some (.ref b), some (.ref a1.p), some (.ref a2.p)]) rfl ?_
  walk_at "go"
  intro pn hpn
  have nc : b ≠ pn := ne_of_none hb hpn
  walk_at "go"
  refine ⟨b, C, dx, [], rfl, by rw [upd_ne nc]; exact hb, T.cl, T.na _ (.inl rfl), by decide, ?_⟩
  have kb : Kp (fun z => z = b) H (upd (upd H pn (.tup [.ref a1.p, .ref a2.p])) b (.ins C dx (putF "nets" (.ref pn) []))) := (Kp.new hpn).trans (.set rfl)
  have nb : NoTup (fun z => z = b) H := fun z e => by rw [e]; exact ⟨fun xs e2 => (by rw [hb] at e2; cases e2), fun o xs e2 => (by rw [hb] at e2; cases e2)⟩
  have hb1 : upd (upd H pn (.tup [.ref a1.p, .ref a2.p])) b (.ins C dx (putF "nets" (.ref pn) [])) b = some (.ins C dx (putF "nets" (.ref pn) [])) := upd_same
  have hp1 : upd (upd H pn (.tup [.ref a1.p, .ref a2.p])) b (.ins C dx (putF "nets" (.ref pn) [])) pn = some (.tup [.ref a1.p, .ref a2.p]) := by rw [upd_ne nc.symm, upd_same]
  generalize upd (upd H pn (.tup [.ref a1.p, .ref a2.p])) b (.ins C dx (putF "nets" (.ref pn) [])) = H1 at *
  have hN1 := hN.keep kb nb
  have hM1 := hM.keep kb nb
  walk_at "go"
  refine ⟨a1, N, rfl, hN1, by omega, l3, fun u1 H2 g1 k2 => ?_⟩
  have hM2 := hM1.keep0 k2
  walk_at "go"
  refine ⟨a2, M, rfl, hM2, by omega, l4, fun u2 H3 g2 k3 => ?_⟩
  have g13 := k3.at0 g1
  walk_at "go"
  have u1l : (usedN N).length ≤ 1908 := by
    have : (N.cells.filterMap Cell.bitOf).length ≤ N.cells.length := List.length_filterMap_le _ _
    rw [usedN, List.length_append, List.length_map]; omega
  have u2l : (usedN M).length ≤ 1908 := by
    have : (M.cells.filterMap Cell.bitOf).length ≤ M.cells.length := List.length_filterMap_le _ _
    rw [usedN, List.length_append, List.length_map]; omega
  refine ⟨u1, u2, _, _, rfl, rfl, g13, g2, by rw [List.length_map, List.length_map, sizeLine_eq]; omega, fun u3 hu3 => ?_⟩
  have k4 : Kp No H1 (upd H3 u3 (.lst ((usedN N).map nt ++ (usedN M).map nt))) := (k2.trans k3).trans (.new hu3)
  have g3 : upd H3 u3 (.lst ((usedN N).map nt ++ (usedN M).map nt)) u3 = some (.lst (((usedN N ++ usedN M).map fun n : Nat => (n : Int)).map V.int)) := by rw [upd_same, List.map_map, ← List.map_append]; rfl
  generalize upd H3 u3 (.lst ((usedN N).map nt ++ (usedN M).map nt)) = H4 at *
  walk_at "go"
  refine ⟨u3, _, rfl, SqL.of g3, by rw [List.length_map, List.length_append]; omega, fun sb n hsb hn => ?_⟩
  rw [List.length_map, List.length_append] at hn
  walk_at "go"
  refine ⟨sb, _, n, rfl, upd_same, by omega, fun ys pl hpl hup hmem => ?_⟩
  obtain ⟨L, rfl, up, mem⟩ := nats_of hup hmem
  have k5 : Kp No H1 (upd (upd H4 sb (SetO w sb (fun j => decide (j ∈ (usedN N ++ usedN M).map fun n : Nat => (n : Int))) n)) pl (.lst ((L.map fun n : Nat => (n : Int)).map V.int))) := (k4.trans (.new hsb)).trans (.new hpl)
  have g5 : upd (upd H4 sb (SetO w sb (fun j => decide (j ∈ (usedN N ++ usedN M).map fun n : Nat => (n : Int))) n)) pl (.lst ((L.map fun n : Nat => (n : Int)).map V.int)) pl = some (.lst (L.map nt)) := by rw [upd_same, List.map_map]; rfl
  generalize upd (upd H4 sb (SetO w sb (fun j => decide (j ∈ (usedN N ++ usedN M).map fun n : Nat => (n : Int))) n)) pl (.lst ((L.map fun n : Nat => (n : Int)).map V.int)) = H5 at *
  have hb5 := k5.at0 hb1
  walk_at "go"
  refine ⟨b, C, dx, _, rfl, hb5, T.cl, T.na _ (.inr rfl), Nat.lt_of_le_of_lt (putF_few (n := 0) (fs := []) (Nat.le_refl 0)) (by decide), ?_⟩
  have k6 : Kp (fun z => z = b) H5 (upd H5 b (.ins C dx (putF "loops" (.ref pl) (putF "nets" (.ref pn) [])))) := .set rfl
  have nb5 : NoTup (fun z => z = b) H5 := fun z e => by rw [e]; exact ⟨fun xs e2 => (by rw [hb5] at e2; cases e2), fun o xs e2 => (by rw [hb5] at e2; cases e2)⟩
  walk_at "go"
  refine q _ ⟨b, C, dx, pn, pl, a1, a2⟩ L rfl rfl rfl rfl ⟨upd_same, Kp.tup k6 nb5 (k5.at0 hp1), (hN1.keep0 k5).keep k6 nb5, (hM1.keep0 k5).keep k6 nb5, ?_⟩ ⟨up, fun r => by rw [mem r, List.mem_append]⟩ ((kb.trans k5.of0).trans k6)
  show upd H5 b _ pl = _
  rw [upd_ne (ne_of g5 hb5 (by intro z; cases z))]
  exact g5
end
end K7
local macro_rules | `(tactic| walk_at "g1") => `(tactic| first
  | ((with_reducible refine' K7.pg_n ?hT ?hM ?kk); (case hT => assumption); (case hM => first | assumption | exact K7.PairsAt.ob (by assumption)))
  | ((with_reducible refine' K7.pg_l ?hT ?hM ?kk); (case hT => assumption); (case hM => first | assumption | exact K7.PairsAt.ob (by assumption)))
  | ((with_reducible refine' K7.pmeth ?hM ?hm ?kk); (case hM => first | assumption | exact K7.PairsAt.ob (by assumption)); (case hm => decide +kernel))
  | fail)
namespace K7
open PySem PySem.Spec PyProof.Rows L2 B N7
theorem cut_drop (xs : List V) (k : Nat) : cutV xs (some (k : Int)) none = xs.drop k := by
  unfold cutV
  rw [HT.sIx_nat, HT.sIx_none]
  rcases Nat.lt_or_ge k xs.length with h | h
  · rw [Nat.min_eq_left (by omega), List.take_of_length_le (by rw [List.length_drop]; exact Nat.le_refl _)]
  · rw [Nat.min_eq_right h, Nat.sub_self, List.take_zero, List.drop_eq_nil_of_le h]
theorem cut_take (xs : List V) (k : Nat) : cutV xs none (some (k : Int)) = xs.take k := by
  unfold cutV
  rw [HT.sIx_nat, HT.sIx_none, List.drop_zero, Nat.sub_zero]
  rcases Nat.lt_or_ge k xs.length with h | h
  · rw [Nat.min_eq_left (by omega)]
  · rw [Nat.min_eq_right h, List.take_of_length_le (Nat.le_refl _), List.take_of_length_le h]
/-! ### letters -/
theorem rev_ind {α : Type} {p : List α → Prop} (nil : p []) (snoc : ∀ (l : List α) (x : α), p l → p (l ++ [x])) : ∀ l, p l := fun l => by
  have h : ∀ l : List α, p l.reverse := by
    intro l
    induction l with
    | nil => exact nil
    | cons x l ih => rw [List.reverse_cons]; exact snoc _ _ ih
  have := h l.reverse
  rwa [List.reverse_reverse] at this
abbrev bt (b : Bool) : V := .int ((b.toNat : Nat) : Int)
def two (bs : List Bool) (r : Nat) : List (List Bool) := [bs.set r false, bs.set r true]
def growL (lets : List (List Bool)) (r : Nat) : List (List Bool) := lets.flatMap fun bs => two bs r
def letsP (L : List Nat) : List (List Bool) := L.foldl growL [List.replicate 8 false]
theorem lets_snoc (L : List Nat) (r : Nat) : letsP (L ++ [r]) = growL (letsP L) r := by rw [letsP, List.foldl_append]; rfl
theorem lets_len8 {L : List Nat} : ∀ bs ∈ letsP L, bs.length = 8 := by
  induction L using rev_ind with
  | nil => intro bs h; rw [letsP, List.foldl_nil, List.mem_singleton] at h; rw [h]; rfl
  | snoc L r ih =>
    intro bs h
    rw [lets_snoc, growL, List.mem_flatMap] at h
    obtain ⟨b0, h0, h1⟩ := h
    simp only [two, List.mem_cons, List.not_mem_nil, or_false] at h1
    rcases h1 with rfl | rfl <;> rw [List.length_set, ih b0 h0]
theorem lets_count (L : List Nat) : (letsP L).length = 2 ^ L.length := by
  induction L using rev_ind with
  | nil => rfl
  | snoc L r ih =>
    rw [lets_snoc, List.length_append, List.length_singleton, Nat.pow_succ, ← ih, growL]
    generalize letsP L = l
    induction l with
    | nil => rfl
    | cons x l ih => rw [List.flatMap_cons, List.length_append, ih, List.length_cons]; show 2 + _ = _; omega
/-- the letters: the loops' bits free, the others nought -/
def IsLet (L : List Nat) (bs : List Bool) : Prop := bs.length = 8 ∧ ∀ r, r < 8 → r ∉ L → bs[r]? = some false
theorem mem_lets {L : List Nat} (h8 : ∀ r ∈ L, r < 8) (bs : List Bool) : bs ∈ letsP L ↔ IsLet L bs := by
  induction L using rev_ind generalizing bs with
  | nil =>
    rw [letsP, List.foldl_nil, List.mem_singleton]
    constructor
    · rintro rfl
      exact ⟨rfl, fun r hr _ => by rw [List.getElem?_replicate, if_pos hr]⟩
    · rintro ⟨h1, h2⟩
      refine List.ext_getElem? fun i => ?_
      rcases Nat.lt_or_ge i 8 with z | z
      · rw [h2 i z (by simp), List.getElem?_replicate, if_pos z]
      · rw [List.getElem?_eq_none (by omega), List.getElem?_eq_none (by rw [List.length_replicate]; omega)]
  | snoc L r ih =>
    have ih := ih fun x hx => h8 x (List.mem_append_left _ hx)
    have hr8 := h8 r (List.mem_append_right _ (List.mem_singleton.mpr rfl))
    rw [lets_snoc, growL, List.mem_flatMap]
    constructor
    · rintro ⟨b0, h0, h1⟩
      obtain ⟨g1, g2⟩ := (ih b0).mp h0
      obtain ⟨b, rfl⟩ : ∃ b, bs = b0.set r b := by
        simp only [two, List.mem_cons, List.not_mem_nil, or_false] at h1
        rcases h1 with rfl | rfl
        · exact ⟨_, rfl⟩
        · exact ⟨_, rfl⟩
      refine ⟨by rw [List.length_set]; exact g1, fun x hx hn => ?_⟩
      rw [List.mem_append, List.mem_singleton, not_or] at hn
      rw [List.getElem?_set_ne (by omega)]
      exact g2 x hx hn.1
    · rintro ⟨g1, g2⟩
      refine ⟨bs.set r false, (ih _).mpr ⟨by rw [List.length_set]; exact g1, fun x hx hn => ?_⟩, ?_⟩
      · by_cases e : x = r
        · subst e
          rw [List.getElem?_set_self (by omega)]
        · rw [List.getElem?_set_ne (by omega)]
          exact g2 x hx (by rw [List.mem_append, List.mem_singleton, not_or]; exact ⟨hn, e⟩)
      · have hb : ∃ b, bs[r]? = some b := ⟨bs[r]'(by omega), List.getElem?_eq_getElem _⟩
        obtain ⟨b, hb⟩ := hb
        have e : (bs.set r false).set r b = bs := by
          rw [List.set_set]
          refine List.ext_getElem? fun i => ?_
          by_cases z : i = r
          · subst z
            rw [List.getElem?_set_self (by omega), hb]
          · rw [List.getElem?_set_ne (by omega)]
        simp only [two, List.mem_cons, List.not_mem_nil, or_false]
        cases b
        · exact .inl e.symm
        · exact .inr e.symm
structure LetAt (K : PySem.W.Frag) (H : Hp) (ads : List Addr) (lets : List (List Bool)) : Prop where
  len : ads.length = lets.length
  row : ∀ (i : Nat) (ad : Addr) (bs : List Bool), ads[i]? = some ad → lets[i]? = some bs → SqT K H ad (bs.map bt)
section
variable {K : PySem.W.Frag} {H H' : Hp} {M : Addr → Prop}
theorem LetAt.keep {ads : List Addr} {lets : List (List Bool)} (h : LetAt K H ads lets) (k : Kp M H H') (n : NoTup M H) : LetAt K H' ads lets := ⟨h.len, fun i ad bs h1 h2 => Kp.sqt k n (h.row i ad bs h1 h2)⟩
theorem LetAt.keep0 {ads : List Addr} {lets : List (List Bool)} (h : LetAt K H ads lets) (k : Kp No H H') : LetAt K H' ads lets := h.keep k .no
theorem LetAt.nil : LetAt K H [] [] := ⟨rfl, fun i ad c h1 => by simp at h1⟩
theorem LetAt.append {as bs : List Addr} {ps qs : List (List Bool)} (h1 : LetAt K H as ps) (h2 : LetAt K H bs qs) : LetAt K H (as ++ bs) (ps ++ qs) := by
  refine ⟨by rw [List.length_append, List.length_append, h1.len, h2.len], fun i ad p e1 e2 => ?_⟩
  rcases Nat.lt_or_ge i ps.length with z | z
  · rw [List.getElem?_append_left (by rw [h1.len]; exact z)] at e1
    rw [List.getElem?_append_left z] at e2
    exact h1.row i ad p e1 e2
  · rw [List.getElem?_append_right (by rw [h1.len]; exact z), h1.len] at e1
    rw [List.getElem?_append_right z] at e2
    exact h2.row _ ad p e1 e2
theorem LetAt.one {ad : Addr} {bs : List Bool} (h : SqT K H ad (bs.map bt)) : LetAt K H [ad] [bs] := by
  refine ⟨rfl, fun i a c h1 h2 => ?_⟩
  cases i with
  | zero => cases h1; cases h2; exact h
  | succ i => simp at h1
theorem LetAt.snoc {ads : List Addr} {lets : List (List Bool)} (h : LetAt K H ads lets) {ad : Addr} {bs : List Bool} (hb : SqT K H ad (bs.map bt)) : LetAt K H (ads ++ [ad]) (lets ++ [bs]) := h.append (.one hb)
end
theorem set_cut (bs : List Bool) (r : Nat) (b : Bool) (h : r < bs.length) : ((bs.map bt).take r ++ [bt b]) ++ (bs.map bt).drop (r + 1) = (bs.set r b).map bt := by
  rw [List.map_set, List.set_eq_take_append_cons_drop, if_pos (by rw [List.length_map]; exact h), List.append_assoc]
  rfl
section
variable {P : Program} {w : World} {K : PySem.W.Frag} {mg : Str → Option Value} {base : Heap} {d : Ads} {C : Addr} {S : Nat → Prop}
def pLetters (K : PySem.W.Frag) (C : Addr) : V → Hp → VK → XK → Prop := fun x H Q _ => ∃ (a : PAd) (N M : Net) (L : List Nat), a.C = C ∧ x = .ref a.x ∧ PairsAt K H a N M L ∧ L.length ≤ 6 ∧ (∀ r ∈ L, r < 8) ∧ ∀ (F : Addr) (ads : List Addr) H', H' F = some (.lst (ads.map V.ref)) → LetAt K H' ads (letsP L) → Kp No H H' → Q (.ref F) H'
theorem ok_letters (G : Txt K w mg d) (T : PTxt K C) (D : Mf K C "letters" "Pairs.letters" s_Pairs_letters ["self"]) : Met P w K mg base CX0 1 C "letters" (sp1 (pLetters K C)) := by
  refine met0 D sc_Pairs_letters rfl fun f cdv A outer s H vs Q E hr h => ?_
  obtain ⟨_, rfl, a, N, M, L, rfl, rfl, hP, h6, h8, q⟩ := h
  refine ⟨_, (pss_cons (ps_set (i := 1) sc_Pairs_letters.nd rfl (Or.inl rfl) (pe_lst (pa_cons (pe_op (N7.repT K) (pe_tup (pa_cons pe_int pa_nil)) (pe_gc (by rfl) G.c_LOOPS)) pa_nil)))
    (pss_cons (ps_for PassesOwn.never rfl (piL K (fldK K (pv 0))) (pg_name (i := 2) sc_Pairs_letters.nd rfl (Or.inr rfl))
      (pss_cons (ps_set (i := 3) sc_Pairs_letters.nd rfl (Or.inl rfl) (pe_lst pa_nil))
      (pss_cons (ps_for PassesOwn.never rfl (piL K (pv 1)) (pg_name (i := 4) sc_Pairs_letters.nd rfl (Or.inr rfl))
        (pss_one (ps_expr (bm K PySem.F.plainAttrs_list PySem.F.slot_list_extend PySem.F.type_list_extend (N7.extT K) (pv 3) (pa_cons (pe_lc (own := [("bit", 5)]) (g := gName 5) (tt := tYes) rfl sc_Pairs_letters.nd (piT K (pe_tup (pa_cons pe_int (pa_cons pe_int pa_nil)))) (blkOk_by (own := [("bit", 5)]) (N := N_Pairs_letters) (sc := defScope s_Pairs_letters) (by decide +kernel)) (fun _ _ _ _ _ => (pg_name (i := 5) sc_Pairs_letters.nd rfl (Or.inl rfl))) (fun _ _ _ _ _ => pts_nil) (fun _ _ _ _ _ => (pe_op (N7.catA K) (pe_op (N7.catA K) (pe_slice (N7.slA K) (pv 4) po_none (po_some (pv 2))) (pe_tup (pa_cons (pv 5) pa_nil))) (pe_slice (N7.slA K) (pv 4) (po_some (pe_op op_add (pv 2) pe_int)) po_none)))) pa_nil)))))
      (pss_one (ps_set (i := 1) sc_Pairs_letters.nd rfl (Or.inl rfl) (pv 3))))))
    (pss_one (ps_ret (pv 1))))), ?_⟩
  refine B.x_start (σ' := [some (.ref a.x), none, none, none, none, none]) rfl ?_
  have ob := hP.ob
  walk_at "go"
  intro t0 ht0
  walk_at "go"
  refine ⟨t0, 8, [.int 0], rfl, rfl, SqT.of upd_same, by simp, by decide, by decide, by decide, fun t1 ht1 => ?_⟩
  have k1 : Kp No H (upd (upd H t0 (.tup [.int 0])) t1 (.tup (List.replicate (8 : Int).toNat [V.int 0]).flatten)) := (Kp.new ht0).trans (.new ht1)
  have hz : SqT K (upd (upd H t0 (.tup [.int 0])) t1 (.tup (List.replicate (8 : Int).toNat [V.int 0]).flatten)) t1 ((List.replicate 8 false).map bt) := SqT.of upd_same
  generalize upd (upd H t0 (.tup [.int 0])) t1 (.tup (List.replicate (8 : Int).toNat [V.int 0]).flatten) = H1 at *
  walk_at "go"
  intro F0 hF0
  have k2 : Kp No H (upd H1 F0 (.lst [.ref t1])) := k1.trans (.new hF0)
  have k12 : Kp No H1 (upd H1 F0 (.lst [.ref t1])) := .new hF0
  have hz2 := Kp.sqt k12 .no hz
  have hP2 := hP.keep0 k2
  have hF2 : upd H1 F0 (.lst [.ref t1]) F0 = some (.lst [.ref t1]) := upd_same
  generalize upd H1 F0 (.lst [.ref t1]) = H2 at *
  have ob2 := hP2.ob
  have lp2 := hP2.lp
  walk_at "go"
  refine fr_l (L.map nt) (fun i σ H' => ∃ (F : Addr) (ads : List Addr) (o2 o3 o4 o5 : Option V), σ = [some (.ref a.x), some (.ref F), o2, o3, o4, o5] ∧ H' F = some (.lst (ads.map V.ref)) ∧ LetAt K H' ads (letsP (L.take i)) ∧ Kp No H2 H') ⟨F0, [t1], _, _, _, _, rfl, hF2, .one hz2, .refl _⟩ (fun i σ H' _ z => ?_) ?_ ?_
  · obtain ⟨F, ads, o2, o3, o4, o5, rfl, e1, e2, k3⟩ := z
    exact SqL.of (k3.at0 lp2)
  · rintro i y σ H3 hy ⟨F, ads, o2, o3, o4, o5, rfl, e1, e2, k3⟩
    rw [List.getElem?_map, Option.map_eq_some_iff] at hy
    obtain ⟨r, hr, rfl⟩ := hy
    have hr8 := h8 r (List.mem_of_getElem? hr)
    have hi := (List.getElem?_eq_some_iff.mp hr).1
    walk_at "go"
    intro G hG
    have k4 : Kp No H3 (upd H3 G (.lst [])) := .new hG
    have hG4 : upd H3 G (.lst []) G = some (.lst []) := upd_same
    have e14 := k4.at0 e1
    have e24 := e2.keep0 k4
    have k24 := k3.trans k4
    generalize upd H3 G (.lst []) = H4 at *
    have nG : NoTup (fun z => z = G) H4 := fun z e => by rw [e]; exact ⟨fun xs e2 => (by rw [hG4] at e2; cases e2), fun o xs e2 => (by rw [hG4] at e2; cases e2)⟩
    have hFG : F ≠ G := fun z => by rw [z, hG] at e1; cases e1
    have hcnt : (letsP (L.take i)).length ≤ 64 := by
      rw [lets_count]
      have : (L.take i).length ≤ 6 := by rw [List.length_take]; omega
      exact Nat.le_trans (Nat.pow_le_pow_right (by decide) this) (by decide)
    have hl4 := e24.len
    walk_at "go"
    refine fr_l (ads.map V.ref) (fun j σ H' => ∃ (ads2 : List Addr) (o4 o5 : Option V), σ = [some (.ref a.x), some (.ref F), some (nt r), some (.ref G), o4, o5] ∧ H' G = some (.lst (ads2.map V.ref)) ∧ LetAt K H' ads2 (growL ((letsP (L.take i)).take j) r) ∧ Kp (fun z => z = G) H4 H') ⟨[], _, _, rfl, hG4, .nil, .refl _⟩ (fun j σ H' _ z => ?_) ?_ ?_
    · obtain ⟨ads2, o4, o5, rfl, f1, f2, k5⟩ := z
      exact SqL.of (k5.at e14 hFG)
    · rintro j y σ H5 hy ⟨ads2, o4, o5, rfl, f1, f2, k5⟩
      rw [List.getElem?_map, Option.map_eq_some_iff] at hy
      obtain ⟨ad, had, rfl⟩ := hy
      have hj : j < (letsP (L.take i)).length := by rw [← e24.len]; exact (List.getElem?_eq_some_iff.mp had).1
      obtain ⟨bs, hbs⟩ : ∃ bs, (letsP (L.take i))[j]? = some bs := ⟨_, List.getElem?_eq_getElem hj⟩
      have hbl := lets_len8 bs (List.mem_of_getElem? hbs)
      have hrow := Kp.sqt k5 nG (e24.row j ad bs had hbs)
      walk_at "go"
      intro t ht
      have k6 : Kp No H5 (upd H5 t (.tup [.int 0, .int 1])) := .new ht
      have ht6 : upd H5 t (.tup [.int 0, .int 1]) t = some (.tup [.int 0, .int 1]) := upd_same
      have f16 := k6.at0 f1
      have f26 := f2.keep0 k6
      have hrow6 := Kp.sqt k6 .no hrow
      have k56 := k5.trans k6.of0
      generalize upd H5 t (.tup [.int 0, .int 1]) = H6 at *
      walk_at "go"
      refine lc_t [.int 0, .int 1] (fun D k H' => Kp No H6 H' ∧ ∃ ads3, H' D = some (.lst (ads3.map V.ref)) ∧ LetAt K H' ads3 ((two bs r).take k)) (fun D hD => ⟨.new hD, [], upd_same, .nil⟩) (fun D k H' _ z => SqT.of (z.1.at0 ht6)) ?_ ?_
      · rintro D k y H7 hD hy ⟨k7, ads3, g1, g2⟩
        obtain ⟨b, rfl, hk⟩ : ∃ b, y = bt b ∧ (two bs r)[k]? = some (bs.set r b) := by
          match k, hy with
          | 0, hy => cases hy; exact ⟨false, rfl, rfl⟩
          | 1, hy => cases hy; exact ⟨true, rfl, rfl⟩
          | k + 2, hy => cases hy
        have hk2 : k < 2 := (List.getElem?_eq_some_iff.mp hk).1
        have hrow7 := Kp.sqt k7 .no hrow6
        walk_at "go"
        refine ⟨rfl, ?_⟩
        walk_at "go"
        refine x_slA hrow7 (by rw [List.length_map, hbl, HT.sIx_nat]; omega) fun p1 hp1 => ?_
        rw [cut_take]
        have k8 : Kp No H7 (upd H7 p1 (.tup ((bs.map bt).take r))) := .new hp1
        have hp1' : SqT K (upd H7 p1 (.tup ((bs.map bt).take r))) p1 ((bs.map bt).take r) := SqT.of upd_same
        generalize upd H7 p1 (.tup ((bs.map bt).take r)) = H8 at *
        walk_at "go"
        intro t2 ht2
        have k9 : Kp No H8 (upd H8 t2 (.tup [bt b])) := .new ht2
        refine x_catA (Kp.sqt k9 .no hp1') (SqT.of upd_same) (by rw [List.length_take, List.length_map]; simp; omega) fun p2 H10 hp2 k10 => ?_
        have k10' : Kp No H8 H10 := k9.trans fun x o e _ => k10 x o e
        have hrow10 := Kp.sqt (k8.trans k10') .no hrow7
        walk_at "go"
        refine x_slA hrow10 (by rw [show ((r : Int) + 1) = ((r + 1 : Nat) : Int) by omega, HT.sIx_nat, List.length_map, hbl]; omega) fun p3 hp3 => ?_
        rw [show ((r : Int) + 1) = ((r + 1 : Nat) : Int) by omega, cut_drop]
        have k11 : Kp No H10 (upd H10 p3 (.tup ((bs.map bt).drop (r + 1)))) := .new hp3
        walk_at "go"
        refine x_catA (Kp.sqt k11 .no hp2) (SqT.of upd_same) (by rw [List.length_append, List.length_take, List.length_drop, List.length_map]; simp; omega) fun p4 H12 hp4 k12 => ?_
        rw [set_cut bs r b (by omega)] at hp4
        have kk : Kp No H7 H12 := (k8.trans k10').trans (k11.trans fun x o e _ => k12 x o e)
        have g12 := kk.at0 g1
        have hl3 := g2.len
        rw [List.length_take] at hl3
        refine ⟨_, g12, by rw [List.length_map, sizeLine_eq]; omega, (k7.trans kk).old hD, ads3 ++ [p4], by rw [upd_same, List.map_append]; rfl, ?_⟩
        rw [take_one hk]
        have nD : NoTup (fun z => z = D) H12 := fun z e => by rw [e]; exact ⟨fun xs e2 => (by rw [g12] at e2; cases e2), fun o xs e2 => (by rw [g12] at e2; cases e2)⟩
        have kD : Kp (fun z => z = D) H12 (upd H12 D (.lst (ads3.map V.ref ++ [.ref p4]))) := .set rfl
        exact ((g2.keep0 kk).keep kD nD).snoc (Kp.sqt kD nD hp4)
      · rintro D H7 hD ⟨k7, ads3, g1, g2⟩
        have g2 : LetAt K H7 ads3 (two bs r) := g2
        have f17 := k7.at0 f16
        have f27 := f26.keep0 k7
        have hl2 : ads2.length ≤ 130 := by
          rw [f2.len]
          have : ∀ l : List (List Bool), (growL l r).length = 2 * l.length := fun l => by
            induction l with
            | nil => rfl
            | cons x l ih => rw [growL, List.flatMap_cons, List.length_append, List.length_cons]; rw [growL] at ih; rw [ih]; show 2 + _ = _; omega
          rw [this, List.length_take]
          omega
        walk_at "go"
        refine ⟨G, D, _, _, rfl, rfl, f17, .inr g1, by rw [List.length_map, List.length_map, g2.len, sizeLine_eq]; show _ + 2 ≤ _; omega, ?_⟩
        have nD : NoTup (fun z => z = G) H7 := fun z e => by rw [e]; exact ⟨fun xs e2 => (by rw [f17] at e2; cases e2), fun o xs e2 => (by rw [f17] at e2; cases e2)⟩
        have kD : Kp (fun z => z = G) H7 (upd H7 G (.lst (ads2.map V.ref ++ ads3.map V.ref))) := .set rfl
        refine ⟨ads2 ++ ads3, _, _, rfl, by rw [upd_same, List.map_append], ?_, (k56.trans k7.of0).trans kD⟩
        rw [take_one hbs, growL, List.flatMap_append]
        refine ((f27.keep kD nD).append (g2.keep kD nD))
    · rintro σ H5 ⟨ads2, o4, o5, rfl, f1, f2, k5⟩
      rw [List.length_map, hl4, List.take_length] at f2
      walk_at "go"
      refine ⟨G, ads2, _, _, _, _, rfl, f1, ?_, ?_⟩
      · rw [take_one hr, lets_snoc]
        exact f2
      · exact k3.trans (Kp.fresh (.refl H3) (k4.of0.trans k5) fun b z => by rw [z]; exact hG)
  · rintro σ H3 ⟨F, ads, o2, o3, o4, o5, rfl, e1, e2, k3⟩
    rw [List.length_map, List.take_length] at e2
    walk_at "go"
    exact q F ads H3 e1 e2 (k2.trans k3)
end
end K7
namespace K7
open PySem PySem.Spec PyProof.Rows L2 B N7
/-! ### a beat of a net -/
def G2.op : G2 → Bool → Bool → Bool
  | .and, a, b => a && b | .or, a, b => a || b | .odd, a, b => a ^^ b
def gb (l : List Bool) (i : Nat) : Bool := l[i]?.getD false
def Cell.tell (told bits : List Bool) (mem : Nat → Bool) (fst : Bool) : Cell → Bool
  | .none => false | .first => fst | .bit r => gb bits r | .inv c => !gb told c | .gate g a b => g.op (gb told a) (gb told b) | .later l => mem l
def beatTo (cs : List Cell) (old bits : List Bool) (fst : Bool) : Nat → List Bool
  | 0 => []
  | n + 1 => beatTo cs old bits fst n ++ [(cs[n]?.getD .none).tell (beatTo cs old bits fst n) bits (fun l => if fst = true then false else gb old l) fst]
theorem beatTo_len (cs : List Cell) (old bits : List Bool) (fst : Bool) : ∀ n, (beatTo cs old bits fst n).length = n
  | 0 => rfl
  | n + 1 => by rw [beatTo, List.length_append, beatTo_len]; rfl
theorem at_bits {bs : List Bool} {i : Nat} (h : i < bs.length) : atI (bs.map bt) (i : Int) = some (bt (gb bs i)) := atI_nat (j := i) (by rw [List.getElem?_map, gb, List.getElem?_eq_getElem h]; rfl)
section
variable {P : Program} {w : World} {K : PySem.W.Frag} {mg : Str → Option Value} {base : Heap} {d : Ads} {C : Addr} {S : Nat → Prop}
def pGate : V → V → V → Hp → VK → XK → Prop := fun x y z H Q _ => ∃ (g : G2) (a b : Bool), x = .str g.nm ∧ y = bt a ∧ z = bt b ∧ Q (bt (g.op a b)) H
theorem ok_gate (G : Txt K w mg d) (D : Df K mg "gate" s_gate ["word", "one", "other"]) : Cal P w K mg base CX0 1 "gate" (sp3 pGate) := by
  refine cal0 D sc_gate rfl fun f cdv A outer s H vs Q E hr h => ?_
  obtain ⟨_, _, _, rfl, g, a, b, rfl, rfl, rfl, q⟩ := h
  refine ⟨_, (pss_cons (ps_if (pt_cmpR op_eq (pv 0) pe_str (nomark _))
      (pss_one (ps_ret (pe_op op_mul (pv 1) (pv 2))))
      pss_nil)
    (pss_one (ps_ret (pe_ifExp (pt_cmpR op_eq (pv 0) pe_str (nomark _)) (pe_callB (call_max2 rfl) (by rfl) G.n_max (by decide +kernel) (pa_cons (pv 1) (pa_cons (pv 2) pa_nil))) (pe_op op_mod (pe_op op_add (pv 1) (pv 2)) pe_int))))), ?_⟩
  refine B.x_start (σ' := [some (.str g.nm), some (bt a), some (bt b)]) rfl ?_
  have mo : CMul ((a.toNat : Nat) : Int) ((b.toNat : Nat) : Int) := by
    unfold CMul
    have h1 := Bool.toNat_le a
    have h2 := Bool.toNat_le b
    omega
  cases g
  · walk_at "go"
    cases a <;> cases b <;> exact q
  · walk_at "go"
    cases a <;> cases b <;> exact q
  · walk_at "go"
    cases a <;> cases b <;> exact q
def pBeatOf (K : PySem.W.Frag) : V → V → V → V → Hp → VK → XK → Prop := fun x y z u H Q _ => ∃ (F fo b : Addr) (ads : List Addr) (cs : List Cell) (old bits : List Bool) (fst : Bool), x = .ref F ∧ y = .ref fo ∧ z = .ref b ∧ u = .bl fst ∧
  H F = some (.lst (ads.map V.ref)) ∧ ClAt H ads cs ∧ H fo = some (.lst (old.map bt)) ∧ SqT K H b (bits.map bt) ∧ old.length = cs.length ∧ bits.length = 8 ∧ cs.length ≤ 3000 ∧ (∀ (i : Nat) (c : Cell), cs[i]? = some c → c.ok (fun _ => True) i cs.length) ∧
  ∀ (D : Addr) H', H' D = some (.lst ((beatTo cs old bits fst cs.length).map bt)) → Kp No H H' → Q (.ref D) H'
theorem ok_beat_of (G : Txt K w mg d) (D : Df K mg "beat_of" s_beat_of ["cells", "kept", "bits", "is_first"]) (c_gate : Cal P w K mg base CX0 1 "gate" (sp3 pGate)) : Cal P w K mg base CX0 2 "beat_of" (sp4 (pBeatOf K)) := by
  refine cal0 D sc_beat_of rfl fun f cdv A outer s H vs Q E hr h => ?_
  obtain ⟨_, _, _, _, rfl, F, fo, b, ads, cs, old, bits, fst, rfl, rfl, rfl, rfl, hF, hcl, ho, hb, hol, hbl, few, ok, q⟩ := h
  refine ⟨_, (pss_cons (ps_set (i := 4) sc_beat_of.nd rfl (Or.inl rfl) (pe_lst pa_nil))
    (pss_cons (ps_for PassesOwn.never rfl (piL K (pv 0)) (pg_name (i := 5) sc_beat_of.nd rfl (Or.inl rfl))
      (pss_cons (ps_set (i := 6) sc_beat_of.nd rfl (Or.inl rfl) (pe_ix (ixT K) (pv 5) pe_int (fun _ _ => rfl)))
      (pss_one (ps_if (pt_cmpR op_eq (pv 6) pe_str (nomark _))
        (pss_one (ps_expr (bm K PySem.F.plainAttrs_list PySem.F.slot_list_append PySem.F.type_list_append mt_append (pv 4) (pa_cons (pe_ix (ixT K) (pv 2) (pe_ix (ixT K) (pv 5) pe_int (fun _ _ => rfl)) (fun _ _ => rfl)) pa_nil))))
        (pss_one (ps_if (pt_cmpR op_eq (pv 6) pe_str (nomark _))
          (pss_one (ps_expr (bm K PySem.F.plainAttrs_list PySem.F.slot_list_append PySem.F.type_list_append mt_append (pv 4) (pa_cons (pe_ifExp (pt_val (pv 3)) pe_int (pe_ix (ixL K) (pv 1) (pe_ix (ixT K) (pv 5) pe_int (fun _ _ => rfl)) (fun _ _ => rfl))) pa_nil))))
          (pss_one (ps_if (PW.pt (pw_or (pt_cmpR op_eq (pv 6) pe_str (nomark _)) (pw_or1 (pt_cmpR op_eq (pv 6) pe_str (nomark _)))))
            (pss_one (ps_expr (bm K PySem.F.plainAttrs_list PySem.F.slot_list_append PySem.F.type_list_append mt_append (pv 4) (pa_cons (pe_callTy call_int1 (by rfl) G.n_int (by decide +kernel) (pa_cons (pe_and (pe_cmpR op_eq (pv 6) pe_str (nomark _)) (pe_one (pv 3))) pa_nil)) pa_nil))))
            (pss_one (ps_if (pt_cmpR op_eq (pv 6) pe_str (nomark _))
              (pss_one (ps_expr (bm K PySem.F.plainAttrs_list PySem.F.slot_list_append PySem.F.type_list_append mt_append (pv 4) (pa_cons (pe_op op_sub pe_int (pe_ix (ixL K) (pv 4) (pe_ix (ixT K) (pv 5) pe_int (fun _ _ => rfl)) (fun _ _ => rfl))) pa_nil))))
              (pss_one (ps_expr (bm K PySem.F.plainAttrs_list PySem.F.slot_list_append PySem.F.type_list_append mt_append (pv 4) (pa_cons (pe_c c_gate hr (by first | decide | omega) (by rfl) pass0 (pa_cons (pv 6) (pa_cons (pe_ix (ixL K) (pv 4) (pe_ix (ixT K) (pv 5) pe_int (fun _ _ => rfl)) (fun _ _ => rfl)) (pa_cons (pe_ix (ixL K) (pv 4) (pe_ix (ixT K) (pv 5) pe_int (fun _ _ => rfl)) (fun _ _ => rfl)) pa_nil)))) pa_nil))))))))))))))
    (pss_one (ps_ret (pv 4))))), ?_⟩
  refine B.x_start (σ' := [some (.ref F), some (.ref fo), some (.ref b), some (.bl fst), none, none, none]) rfl ?_
  walk_at "go"
  intro T hT
  have k1 : Kp No H (upd H T (.lst [])) := .new hT
  have hT1 : upd H T (.lst []) T = some (.lst []) := upd_same
  have hcl1 := hcl.keep0 k1
  have hF1 := k1.at0 hF
  have ho1 := k1.at0 ho
  have hb1 := Kp.sqt k1 .no hb
  generalize upd H T (.lst []) = H1 at *
  have nT : NoTup (fun z => z = T) H1 := fun z e => by rw [e]; exact ⟨fun xs e2 => (by rw [hT1] at e2; cases e2), fun o xs e2 => (by rw [hT1] at e2; cases e2)⟩
  have nF : F ≠ T := fun z => by rw [z, hT] at hF; cases hF
  have nO : fo ≠ T := fun z => by rw [z, hT] at ho; cases ho
  have hl := hcl.len
  walk_at "go"
  refine fr_l (ads.map V.ref) (fun i σ H' => ∃ (o5 o6 : Option V), σ = [some (.ref F), some (.ref fo), some (.ref b), some (.bl fst), some (.ref T), o5, o6] ∧ H' T = some (.lst ((beatTo cs old bits fst i).map bt)) ∧ Kp (fun z => z = T) H1 H') ⟨_, _, rfl, hT1, .refl _⟩ (fun i σ H' _ z => ?_) ?_ ?_
  · obtain ⟨o5, o6, rfl, e1, k2⟩ := z
    exact SqL.of (k2.at hF1 nF)
  · rintro i y σ H2 hy ⟨o5, o6, rfl, e1, k2⟩
    rw [List.getElem?_map, Option.map_eq_some_iff] at hy
    obtain ⟨ad, had, rfl⟩ := hy
    have hi : i < cs.length := by rw [← hl]; exact (List.getElem?_eq_some_iff.mp had).1
    obtain ⟨c, hc⟩ : ∃ c, cs[i]? = some c := ⟨cs[i], List.getElem?_eq_getElem hi⟩
    have hrow := Kp.tup k2 nT (hcl1.row i ad c had hc)
    have z0 : atI c.vals 0 = some (.str c.nm) := atI_nat (j := 0) rfl
    have hbl2 := beatTo_len cs old bits fst i
    have hok := ok i c hc
    have ho2 := k2.at ho1 nO
    have hb2 := Kp.sqt k2 nT hb1
    have hsz : ((beatTo cs old bits fst i).map bt).length < 16777216 := by rw [List.length_map, hbl2]; omega
    have fin : ∀ (v : Bool) (o6 : Option V), v = c.tell (beatTo cs old bits fst i) bits (fun l => if fst = true then false else gb old l) fst → ∃ (o5' o6' : Option V), [some (V.ref F), some (.ref fo), some (.ref b), some (.bl fst), some (.ref T), some (.ref ad), o6] = [some (.ref F), some (.ref fo), some (.ref b), some (.bl fst), some (.ref T), o5', o6'] ∧
        upd H2 T (.lst ((beatTo cs old bits fst i).map bt ++ [bt v])) T = some (.lst ((beatTo cs old bits fst (i + 1)).map bt)) ∧ Kp (fun z => z = T) H1 (upd H2 T (.lst ((beatTo cs old bits fst i).map bt ++ [bt v]))) := by
      intro v o6 hv
      refine ⟨_, _, rfl, ?_, k2.trans (.set rfl)⟩
      rw [upd_same, beatTo, hc, List.map_append, hv]
      rfl
    have at1 : ∀ {n : Nat}, n < i → atI ((beatTo cs old bits fst i).map bt) (n : Int) = some (bt (gb (beatTo cs old bits fst i) n)) := fun h => at_bits (by rw [hbl2]; exact h)
    cases c with
    | bit r =>
      have z1 : atI (Cell.bit r).vals 1 = some (nt r) := atI_nat (j := 1) rfl
      have e3 := at_bits (bs := bits) (i := r) (by rw [hbl]; exact hok.1)
      walk_at "go"
      try refine x_yes rfl ?_
      walk_at "go"
      exact fin _ _ rfl
    | later l =>
      have z1 : atI (Cell.later l).vals 1 = some (nt l) := atI_nat (j := 1) rfl
      have e3 := at_bits (bs := old) (i := l) (by rw [hol]; exact hok)
      walk_at "go"
      try refine x_no rfl ?_
      walk_at "go"
      try refine x_yes rfl ?_
      walk_at "go"
      cases fst
      · walk_at "go"
        exact fin _ _ rfl
      · walk_at "go"
        exact fin false _ rfl
    | none =>
      walk_at "go"
      cases fst
      · walk_at "go"
        exact fin _ _ rfl
      · walk_at "go"
        exact fin false _ rfl
    | first =>
      walk_at "go"
      cases fst
      · walk_at "go"
        exact fin _ _ rfl
      · walk_at "go"
        exact fin true _ rfl
    | inv n =>
      have z1 : atI (Cell.inv n).vals 1 = some (nt n) := atI_nat (j := 1) rfl
      have e3 := at1 (n := n) hok
      walk_at "go"
      have e5 : (1 : Int) - ((gb (beatTo cs old bits fst i) n).toNat : Int) = ((!gb (beatTo cs old bits fst i) n).toNat : Int) := by cases gb (beatTo cs old bits fst i) n <;> rfl
      rw [e5]
      exact fin _ _ rfl
    | gate g n1 n2 =>
      have z1 : atI (Cell.gate g n1 n2).vals 1 = some (nt n1) := atI_nat (j := 1) rfl
      have z2 : atI (Cell.gate g n1 n2).vals 2 = some (nt n2) := atI_nat (j := 2) rfl
      have e3 := at1 (n := n1) hok.1
      have e4 := at1 (n := n2) hok.2
      cases g
      · walk_at "go"
        refine ⟨.and, gb (beatTo cs old bits fst i) n1, gb (beatTo cs old bits fst i) n2, rfl, rfl, rfl, ?_⟩
        walk_at "go"
        exact fin _ _ rfl
      · walk_at "go"
        refine ⟨.or, gb (beatTo cs old bits fst i) n1, gb (beatTo cs old bits fst i) n2, rfl, rfl, rfl, ?_⟩
        walk_at "go"
        exact fin _ _ rfl
      · walk_at "go"
        refine ⟨.odd, gb (beatTo cs old bits fst i) n1, gb (beatTo cs old bits fst i) n2, rfl, rfl, rfl, ?_⟩
        walk_at "go"
        exact fin _ _ rfl
  · rintro σ H2 ⟨o5, o6, rfl, e1, k2⟩
    rw [List.length_map, hl] at e1
    walk_at "go"
    exact q T H2 e1 (Kp.fresh k1 k2 (by rintro b rfl; exact hT))
end
end K7
namespace K7
open PySem PySem.Spec PyProof.Rows L2 B N7
/-! ### a half of a step, as data -/
def memAt (cs : List Cell) (kept : Option (List Bool)) (j : Nat) : Bool := match kept with
  | .none => false | some ks => gb ks (latersTo cs j).length
def tellTo (cs : List Cell) (kept : Option (List Bool)) (bits : List Bool) : Nat → List Bool
  | 0 => []
  | n + 1 => tellTo cs kept bits n ++ [(cs[n]?.getD .none).tell (tellTo cs kept bits n) bits (fun _ => memAt cs kept n) kept.isNone]
theorem tellTo_len (cs : List Cell) (kept : Option (List Bool)) (bits : List Bool) : ∀ n, (tellTo cs kept bits n).length = n
  | 0 => rfl
  | n + 1 => by rw [tellTo, List.length_append, tellTo_len]; rfl
def look (ps : List (Nat × Nat)) (r : Nat) : Option Nat := (ps.find? fun p => p.1 == r).map (·.2)
def outL (N : Net) (t bits : List Bool) : List Bool := (List.range 8).map fun r => match look N.loops r with | some c => gb t c | none => gb bits r
def outF (N : Net) (t : List Bool) : List Bool := (List.range 4).map fun r => match look N.flags r with | some c => gb t c | none => false
def ref1 (cs : List Cell) (j : Nat) : Nat := match cs[j]? with | some (.later l) => l | _ => 0
def behind (cs : List Cell) (t : List Bool) : List Bool := (laters cs).map fun j => gb t (ref1 cs j)
theorem behind_len (cs : List Cell) (t : List Bool) : (behind cs t).length = (laters cs).length := List.length_map _
theorem tell_cong {c : Cell} {t bits : List Bool} {m1 m2 : Nat → Bool} {fst : Bool} (h : ∀ l, c = .later l → m1 l = m2 l) : c.tell t bits m1 fst = c.tell t bits m2 fst := by
  cases c with
  | later l => exact h l rfl
  | _ => rfl
theorem beat_none (cs : List Cell) (old bits : List Bool) : ∀ n, beatTo cs old bits true n = tellTo cs .none bits n
  | 0 => rfl
  | n + 1 => by
    rw [beatTo, tellTo, beat_none cs old bits n]
    congr 2
/-! places -/
theorem latersTo_split (cs : List Cell) : ∀ {i n : Nat}, i ≤ n → ∃ r, latersTo cs n = latersTo cs i ++ r := by
  intro i n h
  induction n with
  | zero => obtain rfl : i = 0 := by omega
            exact ⟨[], by simp⟩
  | succ n ih =>
    rcases Nat.lt_or_ge n i with z | z
    · obtain rfl : i = n + 1 := by omega
      exact ⟨[], by simp⟩
    · obtain ⟨r, e⟩ := ih z
      refine ⟨r ++ (if (cs[n]?.getD .none).isL = true then [n] else []), ?_⟩
      rw [← List.append_assoc, ← e, latersTo, List.range_succ, List.filter_append, latersTo]
      congr 1
      rw [List.filter_cons, List.filter_nil]
theorem mem_latersTo {cs : List Cell} {n i : Nat} : i ∈ latersTo cs n ↔ i < n ∧ (cs[i]?.getD .none).isL = true := by rw [latersTo, List.mem_filter, List.mem_range]
theorem laters_rank {cs : List Cell} {i n : Nat} (hi : i < n) (hc : (cs[i]?.getD .none).isL = true) : (latersTo cs n)[(latersTo cs i).length]? = some i := by
  obtain ⟨r, e⟩ := latersTo_split cs (show i + 1 ≤ n from hi)
  have e2 : latersTo cs (i + 1) = latersTo cs i ++ [i] := by
    rw [latersTo, List.range_succ, List.filter_append, latersTo]
    congr 1
    rw [List.filter_cons, List.filter_nil, if_pos hc]
  rw [e, e2, List.append_assoc, List.getElem?_append_right (Nat.le_refl _), Nat.sub_self]
  rfl
theorem laters_nodup (cs : List Cell) (n : Nat) : (latersTo cs n).Nodup := List.nodup_range.sublist List.filter_sublist
theorem later_at {cs : List Cell} {j : Nat} (h : j ∈ laters cs) : ∃ l, cs[j]? = some (.later l) ∧ ref1 cs j = l := by
  obtain ⟨h1, h2⟩ := mem_latersTo.mp h
  rw [List.getElem?_eq_getElem h1] at h2
  replace h2 : (cs[j]).isL = true := h2
  cases e : cs[j] with
  | later l => exact ⟨l, by rw [List.getElem?_eq_getElem h1, e], by rw [ref1, List.getElem?_eq_getElem h1, e]⟩
  | _ => rw [e] at h2; cases h2
/-- the cells and the bits after so many of the memories are laid in -/
def cellsTo (cs : List Cell) : Nat → List Cell
  | 0 => cs
  | j + 1 => (cellsTo cs j).set ((laters cs)[j]?.getD 0) (.later ((laters cs)[j]?.getD 0))
def oldTo (cs : List Cell) (ks : List Bool) : Nat → List Bool
  | 0 => List.replicate cs.length false
  | j + 1 => (oldTo cs ks j).set ((laters cs)[j]?.getD 0) (gb ks j)
theorem cellsTo_len (cs : List Cell) : ∀ j, (cellsTo cs j).length = cs.length
  | 0 => rfl
  | j + 1 => by rw [cellsTo, List.length_set, cellsTo_len]
theorem oldTo_len (cs : List Cell) (ks : List Bool) : ∀ j, (oldTo cs ks j).length = cs.length
  | 0 => List.length_replicate
  | j + 1 => by rw [oldTo, List.length_set, oldTo_len]
theorem cellsTo_at (cs : List Cell) : ∀ (j i : Nat), j ≤ (laters cs).length → (cellsTo cs j)[i]? = if i ∈ (laters cs).take j then some (.later i) else cs[i]?
  | 0, i, _ => by rw [cellsTo, List.take_zero, if_neg (by simp)]
  | j + 1, i, h => by
    have hj : (laters cs)[j]? = some (laters cs)[j] := List.getElem?_eq_getElem h
    have hlt : (laters cs)[j] < cs.length := (mem_latersTo.mp (List.mem_of_getElem? hj)).1
    rw [cellsTo, take_one hj, hj, Option.getD_some]
    by_cases e : i = (laters cs)[j]
    · subst e
      rw [List.getElem?_set_self (by rw [cellsTo_len]; exact hlt), if_pos (List.mem_append_right _ (List.mem_singleton.mpr rfl))]
    · rw [List.getElem?_set_ne (fun z => e z.symm), cellsTo_at cs j i (by omega)]
      have : i ∈ (laters cs).take j ↔ i ∈ (laters cs).take j ++ [(laters cs)[j]] := by rw [List.mem_append, List.mem_singleton]; exact ⟨.inl, fun z => z.resolve_right e⟩
      by_cases q : i ∈ (laters cs).take j
      · rw [if_pos q, if_pos (this.mp q)]
      · rw [if_neg q, if_neg (fun z => q (this.mpr z))]
theorem oldTo_at (cs : List Cell) (ks : List Bool) : ∀ (j k : Nat), j ≤ (laters cs).length → k < j → ∀ x, (laters cs)[k]? = some x → gb (oldTo cs ks j) x = gb ks k
  | 0, k, _, h, _, _ => by omega
  | j + 1, k, h, hk, x, hx => by
    have hj : (laters cs)[j]? = some (laters cs)[j] := List.getElem?_eq_getElem h
    rw [oldTo, hj, Option.getD_some]
    by_cases e : k = j
    · subst e
      rw [hj] at hx
      cases hx
      have hlt : (laters cs)[k] < cs.length := (mem_latersTo.mp (List.mem_of_getElem? hj)).1
      rw [gb, List.getElem?_set_self (by rw [oldTo_len]; exact hlt)]
      rfl
    · have hn : ¬ (laters cs)[j] = x := by
        intro z
        have nd := laters_nodup cs cs.length
        rw [List.nodup_iff_pairwise_ne, List.pairwise_iff_getElem] at nd
        have hkl : k < (laters cs).length := by omega
        have := nd k j hkl h (by omega)
        rw [List.getElem?_eq_getElem hkl] at hx
        cases hx
        exact this z.symm
      rw [gb, List.getElem?_set_ne hn]
      exact oldTo_at cs ks j k (by omega) (by omega) x hx
theorem beat_some (cs : List Cell) (ks bits : List Bool) (hk : ks.length = (laters cs).length) : ∀ n, n ≤ cs.length → beatTo (cellsTo cs (laters cs).length) (oldTo cs ks (laters cs).length) bits false n = tellTo cs (some ks) bits n
  | 0, _ => rfl
  | n + 1, h => by
    have hc := cellsTo_at cs (laters cs).length n (Nat.le_refl _)
    rw [List.take_length] at hc
    rw [beatTo, tellTo, beat_some cs ks bits hk n (by omega), hc]
    congr 2
    have hn := getD_ix (cs := cs) (x := n) h
    by_cases e : n ∈ laters cs
    · rw [if_pos e]
      obtain ⟨l, h1, _⟩ := later_at e
      rw [h1]
      have h2 := (mem_latersTo.mp e).2
      have hr := laters_rank (n := cs.length) h h2
      show gb (oldTo cs ks (laters cs).length) n = gb ks (latersTo cs n).length
      exact oldTo_at cs ks _ _ (Nat.le_refl _) (List.getElem?_eq_some_iff.mp hr).1 n hr
    · rw [if_neg e]
      refine tell_cong fun l hl => ?_
      exfalso
      refine e (mem_latersTo.mpr ⟨h, ?_⟩)
      rw [hl]
      rfl
/-! dicts of told pairs -/
theorem val_look : ∀ (ps : List (Nat × Nat)) (d : List (L2.Key × V)) (r : Nat), (ps.map (·.1)).Nodup → valV (mergeK d (dOf ps)) (Sum.inl (r : Int)) = match look ps r with | some c => some (nt c) | none => valV d (Sum.inl (r : Int))
  | [], d, r, _ => rfl
  | (x, c) :: ps, d, r, h => by
    rw [List.map_cons, List.nodup_cons] at h
    have e : mergeK d (dOf ((x, c) :: ps)) = mergeK (putK d (Sum.inl (x : Int)) (nt c)) (dOf ps) := rfl
    rw [e, val_look ps _ r h.2, look, look, List.find?_cons]
    by_cases hx : x = r
    · subst hx
      have hn : ps.find? (fun p => p.1 == x) = none := by
        rw [List.find?_eq_none]
        intro p hp
        simp only [beq_iff_eq]
        intro z
        exact h.1 (List.mem_map.mpr ⟨p, hp, z⟩)
      rw [hn]
      simp only [beq_self_eq_true, Option.map_none, Option.map_some]
      rw [valV_put, if_pos rfl]
    · have hb : (x == r) = false := by simp [hx]
      simp only [hb]
      cases ps.find? (fun p => p.1 == r) with
      | some q => rfl
      | none => 
        simp only [Option.map_none]
        rw [valV_put, if_neg (fun z => hx (by injection z with z; omega))]
theorem look_mem {ps : List (Nat × Nat)} {r c : Nat} (h : look ps r = some c) : ∃ p ∈ ps, p.1 = r ∧ p.2 = c := by
  rw [look, Option.map_eq_some_iff] at h
  obtain ⟨p, hp, e⟩ := h
  have := List.find?_some hp
  exact ⟨p, List.mem_of_find?_eq_some hp, by simpa using this, e⟩
theorem Cell.ok.any {S : Nat → Prop} {i m : Nat} : ∀ {c : Cell}, c.ok S i m → c.ok (fun _ => True) i m
  | .none, _ => trivial
  | .first, _ => trivial
  | .bit _, q => ⟨q.1, trivial⟩
  | .inv _, q => q
  | .gate _ _ _, q => q
  | .later _, q => q
end K7
namespace K7
open PySem PySem.Spec PyProof.Rows L2 B N7
theorem x_rep {Q : VK} {H : Hp} {l : Addr} {v : V} {n : Nat} (h : H l = some (.lst [v])) (hn : n ≤ 10000) (k : ∀ p, H p = none → Q (.ref p) (upd H p (.lst (List.replicate n v)))) : rRep (.ref l) (.int (n : Int)) H Q := by
  refine ⟨l, n, [v], rfl, rfl, h, by omega, by omega, ?_, fun p hp => ?_⟩
  · rw [Int.toNat_natCast]
    exact Nat.le_trans (by simp; exact hn) (by decide)
  · have e : (List.replicate ((n : Int)).toNat [v]).flatten = List.replicate n v := by
      rw [Int.toNat_natCast]
      clear hn k
      induction n with
      | zero => rfl
      | succ n ih => rw [List.replicate_succ, List.flatten_cons, ih]; rfl
    rw [e]
    exact k p hp
/-- what a half gives -/
def HalfAt (K : PySem.W.Frag) (H : Hp) (p : Addr) (o f k : List Bool) : Prop := ∃ q a b c : Addr, H p = some (.tup [.ref q, .ref c]) ∧ H q = some (.tup [.ref a, .ref b]) ∧ H a = some (.lst (o.map bt)) ∧ H b = some (.lst (f.map V.bl)) ∧ SqT K H c (k.map bt)
theorem HalfAt.keep0 {K : PySem.W.Frag} {H H' : Hp} {p : Addr} {o f k : List Bool} (h : HalfAt K H p o f k) (kk : Kp No H H') : HalfAt K H' p o f k := by
  obtain ⟨q, a, b, c, h1, h2, h3, h4, h5⟩ := h
  exact ⟨q, a, b, c, kk.at0 h1, kk.at0 h2, kk.at0 h3, kk.at0 h4, Kp.sqt kk .no h5⟩
/-- what was kept, for a net with so many memories -/
def KeptAt (K : PySem.W.Frag) (H : Hp) (v : V) (kept : Option (List Bool)) (n : Nat) : Prop := (v = .non ∧ kept = none) ∨ ∃ (kb : Addr) (ks : List Bool), v = .ref kb ∧ kept = some ks ∧ SqT K H kb (ks.map bt) ∧ ks.length = n
def tellN (N : Net) (kept : Option (List Bool)) (bits : List Bool) : List Bool := tellTo N.cells kept bits N.cells.length
section
variable {P : Program} {w : World} {K : PySem.W.Frag} {mg : Str → Option Value} {base : Heap} {d : Ads} {C : Addr} {S : Nat → Prop}
def pHalf (S : Nat → Prop) (K : PySem.W.Frag) (C : Addr) : V → V → V → V → Hp → VK → XK → Prop := fun x y z u H Q _ => ∃ (a : PAd) (N M : Net) (L : List Nat) (wh : Nat) (na : NAd) (Nx : Net) (kept : Option (List Bool)) (b : Addr) (bits : List Bool), a.C = C ∧ x = .ref a.x ∧ y = nt wh ∧ u = .ref b ∧
  PairsAt K H a N M L ∧ ((wh = 0 ∧ na = a.a1 ∧ Nx = N) ∨ (wh = 1 ∧ na = a.a2 ∧ Nx = M)) ∧ NetOk S Nx ∧ KeptAt K H z kept (laters Nx.cells).length ∧ SqT K H b (bits.map bt) ∧ bits.length = 8 ∧
  ∀ (p : Addr) H', HalfAt K H' p (outL Nx (tellN Nx kept bits) bits) (outF Nx (tellN Nx kept bits)) (behind Nx.cells (tellN Nx kept bits)) → Kp No H H' → Q (.ref p) H'
theorem ok_half (G : Txt K w mg d) (T : PTxt K C) (D : Mf K C "half" "Pairs.half" s_Pairs_half ["self", "which", "kept", "bits"]) (c_memories : Cal P w K mg base CX0 1 "memories" (sp1 (pMemories K))) (c_beat_of : Cal P w K mg base CX0 2 "beat_of" (sp4 (pBeatOf K))) :
    Met P w K mg base CX0 3 C "half" (U fun S => sp4 (pHalf S K C)) := by
  refine met0 D sc_Pairs_half rfl fun f cdv A outer s H vs Q E hr h => ?_
  obtain ⟨S, h⟩ := h
  obtain ⟨_, _, kv, _, rfl, a, N, M, L, wh, na, Nx, kept, b, bits, rfl, rfl, rfl, rfl, hP, hsel, ok, hk, hb, hb8, q⟩ := h
  refine ⟨_, (pss_cons (ps_set (i := 4) sc_Pairs_half.nd rfl (Or.inr rfl) (pe_ix (ixT K) (fldK K (pv 0)) (pv 1) (fun _ _ => rfl)))
    (pss_cons (ps_set (i := 5) sc_Pairs_half.nd rfl (Or.inl rfl) (pe_c c_memories hr (by first | decide | omega) (by rfl) pass0 (pa_cons (pv 4) pa_nil)))
    (pss_cons (ps_par (i := 6) (j := 7) (by rfl) sc_Pairs_half.nd rfl rfl (by decide) rfl rfl (pa_cons (pe_callTy (listOf K) (by rfl) G.n_list (by decide +kernel) (pa_cons (pe_ix (ixT K) (pv 4) pe_int (fun _ _ => rfl)) pa_nil)) (pa_cons (pe_op op_rep (pe_lst (pa_cons pe_int pa_nil)) (pe_callB (lenS K) (by rfl) G.n_len (by decide +kernel) (pa_cons (pe_ix (ixT K) (pv 4) pe_int (fun _ _ => rfl)) pa_nil))) pa_nil)) (by rfl))
    (Evl.pss_cut (ps_if (pt_cmpR op_notN (pv 2) pe_non (nomark _))
      (pss_one (ps_for PassesOwn.never rfl (N7.pi_zipM K (by rfl) G.n_zip (pa_cons (pv 5) (pa_cons (pv 2) pa_nil))) (pgT (n := 2) K (by rfl) (pgs_cons (pg_name (i := 8) sc_Pairs_half.nd rfl (Or.inl rfl)) (pgs_cons (pg_name (i := 9) sc_Pairs_half.nd rfl (Or.inl rfl)) pgs_nil)))
        (pss_cons (ps_asg (pe_tup (pa_cons pe_str (pa_cons (pv 8) pa_nil))) (pg_sub (pv 6) (pv 8) set_list))
        (pss_one (ps_asg (pv 9) (pg_sub (pv 7) (pv 8) set_list))))))
      pss_nil)
    (Evl.pss_cut (ps_set (i := 10) sc_Pairs_half.nd rfl (Or.inr rfl) (pe_c c_beat_of hr (by first | decide | omega) (by rfl) pass0 (pa_cons (pv 6) (pa_cons (pv 7) (pa_cons (pv 3) (pa_cons (pe_cmpR op_isN (pv 2) pe_non (nomark _)) pa_nil))))))
    (pss_cons (ps_set (i := 11) sc_Pairs_half.nd rfl (Or.inr rfl) (pe_callTy (N7.dictT K rfl) (by rfl) G.n_dict (by decide +kernel) (pa_cons (pe_ix (ixT K) (pv 4) pe_int (fun _ _ => rfl)) pa_nil)))
    (pss_cons (ps_setLc (i := 12) (own := [("loop", 13)]) (g := gName 13) (tt := tYes) rfl sc_Pairs_half.nd rfl rfl (sw_true rfl rfl rfl (by decide +kernel)) (pi_range1 (by rfl) G.n_range (pa_cons (pe_gc (by rfl) G.c_LOOPS) pa_nil)) (blkOk_by (own := [("loop", 13)]) (N := N_Pairs_half) (sc := defScope s_Pairs_half) (by decide +kernel)) (fun _ _ _ _ _ => (pg_name (i := 13) sc_Pairs_half.nd rfl (Or.inl rfl))) (fun _ _ _ _ _ => pts_nil) (fun _ _ _ _ _ => (pe_ifExp (pt_cmp (pc_din (hu_of hr) (pv 13) (pv 11)) (by rfl)) (pe_ix (ixL K) (pv 10) (pe_dget (hu_of hr) (pv 11) (pv 13) (fun _ _ => rfl)) (fun _ _ => rfl)) (pe_ix (ixT K) (pv 3) (pv 13) (fun _ _ => rfl)))))
    (pss_cons (ps_set (i := 14) sc_Pairs_half.nd rfl (Or.inr rfl) (pe_callTy (N7.dictT K rfl) (by rfl) G.n_dict (by decide +kernel) (pa_cons (pe_ix (ixT K) (pv 4) pe_int (fun _ _ => rfl)) pa_nil)))
    (pss_cons (ps_setLc (i := 15) (own := [("flag", 16)]) (g := gName 16) (tt := tYes) rfl sc_Pairs_half.nd rfl rfl (sw_true rfl rfl rfl (by decide +kernel)) (pi_range1 (by rfl) G.n_range (pa_cons (pe_gc (by rfl) G.c_FLAGS) pa_nil)) (blkOk_by (own := [("flag", 16)]) (N := N_Pairs_half) (sc := defScope s_Pairs_half) (by decide +kernel)) (fun _ _ _ _ _ => (pg_name (i := 16) sc_Pairs_half.nd rfl (Or.inl rfl))) (fun _ _ _ _ _ => pts_nil) (fun _ _ _ _ _ => (pe_and (pe_cmp (pc_din (hu_of hr) (pv 16) (pv 14)) (by rfl)) (pe_one (pe_cmpR op_eq (pe_ix (ixL K) (pv 10) (pe_dget (hu_of hr) (pv 14) (pv 16) (fun _ _ => rfl)) (fun _ _ => rfl)) pe_int (nomark _))))))
    (pss_one (ps_ret (pe_tup (pa_cons (pe_tup (pa_cons (pv 12) (pa_cons (pv 15) pa_nil))) (pa_cons (pe_callTy (tupOf K) (by rfl) G.n_tuple (by decide +kernel) (pa_cons (pe_lc (own := [("place", 8)]) (g := gName 8) (tt := tYes) rfl sc_Pairs_half.nd (piL K (pv 5)) (blkOk_by (own := [("place", 8)]) (N := N_Pairs_half) (sc := defScope s_Pairs_half) (by decide +kernel)) (fun _ _ _ _ _ => (pg_name (i := 8) sc_Pairs_half.nd rfl (Or.inl rfl))) (fun _ _ _ _ _ => pts_nil) (fun _ _ _ _ _ => (pe_ix (ixL K) (pv 10) (pe_ix (ixT K) (pe_ix (ixT K) (pe_ix (ixT K) (pv 4) pe_int (fun _ _ => rfl)) (pv 8) (fun _ _ => rfl)) pe_int (fun _ _ => rfl)) (fun _ _ => rfl)))) pa_nil)) pa_nil)))))))))))))), ?_⟩
  refine B.x_start (σ' := [some (.ref a.x), some (nt wh), some (kv), some (.ref b), none, none, none, none, none, none, none, none, none, none, none, none, none]) rfl ?_
  have ob := hP.ob
  have hnt := hP.nt
  obtain ⟨hNx, hwh⟩ : NetAt K H na Nx ∧ atI [V.ref a.a1.p, V.ref a.a2.p] (wh : Int) = some (.ref na.p) := by
    rcases hsel with ⟨rfl, rfl, rfl⟩ | ⟨rfl, rfl, rfl⟩
    · exact ⟨hP.n1, rfl⟩
    · exact ⟨hP.n2, rfl⟩
  have few := ok.few
  walk_at "go"
  refine ⟨na, Nx, rfl, hNx, few, fun PL hPL H1 hPL1 k1 => ?_⟩
  have hN1 := hNx.keep0 k1
  have hb1 := Kp.sqt k1 .no hb
  have top1 := hN1.top
  have cs1 := hN1.cs
  have hl := hN1.cl.len
  have hrk : ∀ {H2 : Hp}, Kp No H H2 → KeptAt K H2 kv kept (laters Nx.cells).length := fun k => by
    rcases hk with z | ⟨kb, ks, h1, h2, h3, h4⟩
    · exact .inl z
    · exact .inr ⟨kb, ks, h1, h2, Kp.sqt k .no h3, h4⟩
  walk_at "go"
  intro Fc hFc
  have k2 : Kp No H1 (upd H1 Fc (.lst (na.ca.map V.ref))) := .new hFc
  have hFc2 : upd H1 Fc (.lst (na.ca.map V.ref)) Fc = some (.lst (na.ca.map V.ref)) := upd_same
  generalize upd H1 Fc (.lst (na.ca.map V.ref)) = H2 at *
  walk_at "go"
  intro z0 hz0
  have k3 : Kp No H2 (upd H2 z0 (.lst [.int 0])) := .new hz0
  have hN3 := hN1.keep0 (k2.trans k3)
  have top3 := hN3.top
  have cs3 := hN3.cs
  walk_at "go"
  rw [List.length_map, hl]
  refine x_rep upd_same (by omega) fun fo hfo => ?_
  have hFz : Fc ≠ z0 := ne_of_none hFc2 hz0
  have hFf : Fc ≠ fo := ne_of_none (k3.at0 hFc2) hfo
  have k4 : Kp No H2 (upd (upd H2 z0 (.lst [.int 0])) fo (.lst (List.replicate Nx.cells.length (.int 0)))) := k3.trans (.new hfo)
  have hFc4 := k4.at0 hFc2
  have hfo4 : upd (upd H2 z0 (.lst [.int 0])) fo (.lst (List.replicate Nx.cells.length (.int 0))) fo = some (.lst ((oldTo Nx.cells [] 0).map bt)) := by rw [upd_same, oldTo, List.map_replicate]; rfl
  have hFn : H Fc = none := k1.free hFc
  have hfn : H fo = none := (k1.trans (k2.trans k3)).free hfo
  have nPF : PL ≠ Fc := ne_of_none hPL1 hFc
  have nPf : PL ≠ fo := ne_of_none ((k2.trans k3).at0 hPL1) hfo
  have k14 := k2.trans k4
  generalize upd (upd H2 z0 (.lst [.int 0])) fo (.lst (List.replicate Nx.cells.length (.int 0))) = H4 at *
  have hPL4 := k14.at0 hPL1
  have k04 : Kp No H H4 := k1.trans k14
  have hN4 := hNx.keep0 k04
  have hok : ∀ (i : Nat) (c : Cell), Nx.cells[i]? = some c → c.ok (fun _ => True) i Nx.cells.length := fun i c hc => (ok.ok i c hc).any
  walk_at "go"
  refine x_cut (fun σ H' => ∃ (o8 o9 : Option V) (ads : List Addr) (cs : List Cell) (old : List Bool), σ = [some (.ref a.x), some (nt wh), some kv, some (.ref b), some (.ref na.p), some (.ref PL), some (.ref Fc), some (.ref fo), o8, o9, none, none, none, none, none, none, none] ∧ H' Fc = some (.lst (ads.map V.ref)) ∧ ClAt H' ads cs ∧ H' fo = some (.lst (old.map bt)) ∧ H' PL = some (.lst ((laters Nx.cells).map nt)) ∧ Kp No H H' ∧
    cs.length = Nx.cells.length ∧ old.length = Nx.cells.length ∧ (∀ (i : Nat) (c : Cell), cs[i]? = some c → c.ok (fun _ => True) i cs.length) ∧ beatTo cs old bits kept.isNone Nx.cells.length = tellN Nx kept bits) ?_ ?_
  · rcases hk with ⟨rfl, rfl⟩ | ⟨kb, ks, rfl, rfl, hks, hkl⟩
    · walk_at "go"
      try refine x_no rfl ?_
      walk_at "go"
      exact ⟨_, _, na.ca, Nx.cells, oldTo Nx.cells [] 0, rfl, hFc4, hN4.cl, hfo4, hPL4, k04, rfl, oldTo_len _ _ _, hok, beat_none _ _ _ _⟩
    · walk_at "go"
      try refine x_yes rfl ?_
      walk_at "go"
      have nM : NoTup (fun z => z = Fc ∨ z = fo) H4 := by
        rintro z (rfl | rfl)
        · exact ⟨fun xs e2 => (by rw [hFc4] at e2; cases e2), fun o xs e2 => (by rw [hFc4] at e2; cases e2)⟩
        · exact ⟨fun xs e2 => (by rw [hfo4] at e2; cases e2), fun o xs e2 => (by rw [hfo4] at e2; cases e2)⟩
      have hks4 := Kp.sqt k04 .no hks
      refine ⟨PL, kb, (laters Nx.cells).map nt, ks.map bt, rfl, SqL.of hPL4, hks4, ?_⟩
      have nP : ¬ (PL = Fc ∨ PL = fo) := fun z => z.elim nPF nPf
      refine for_zipM (xs := (laters Nx.cells).map nt) (ys := ks.map bt) (by rw [List.length_map, List.length_map, hkl]) (fun j σ H' => ∃ (o8 o9 : Option V) (ads : List Addr), σ = [some (.ref a.x), some (nt wh), some (.ref kb), some (.ref b), some (.ref na.p), some (.ref PL), some (.ref Fc), some (.ref fo), o8, o9, none, none, none, none, none, none, none] ∧ H' Fc = some (.lst (ads.map V.ref)) ∧ ClAt H' ads (cellsTo Nx.cells j) ∧ H' fo = some (.lst ((oldTo Nx.cells ks j).map bt)) ∧ Kp (fun z => z = Fc ∨ z = fo) H4 H') ⟨_, _, na.ca, rfl, hFc4, hN4.cl, hfo4, .refl _⟩ (fun j σ H' z => ?_) ?_ ?_
      · obtain ⟨o8, o9, ads, rfl, e1, e2, e3, k5⟩ := z
        exact ⟨SqL.of (k5.at hPL4 nP), Kp.sqt k5 nM hks4⟩
      · rintro j x y T σ H5 hx hy ⟨o8, o9, ads, rfl, e1, e2, e3, k5⟩ hT
        rw [List.getElem?_map, Option.map_eq_some_iff] at hx hy
        obtain ⟨pl, hpl, rfl⟩ := hx
        obtain ⟨kbit, hkb, rfl⟩ := hy
        have hplt : pl < Nx.cells.length := (mem_latersTo.mp (List.mem_of_getElem? hpl)).1
        have k6 : Kp No H5 (upd H5 T (.tup [nt pl, bt kbit])) := .new hT
        have e16 := k6.at0 e1
        have e26 := e2.keep0 k6
        have e36 := k6.at0 e3
        have hT6 : upd H5 T (.tup [nt pl, bt kbit]) T = some (.tup [nt pl, bt kbit]) := upd_same
        have k46 := k5.trans k6.of0
        generalize upd H5 T (.tup [nt pl, bt kbit]) = H6 at *
        have hlen : ads.length = Nx.cells.length := by rw [e26.len, cellsTo_len]
        walk_at "go"
        intro t ht
        have k7 : Kp No H6 (upd H6 t (.tup [.str "later", nt pl])) := .new ht
        walk_at "go"
        refine x_setL (k7.at0 e16) (j := pl) (Evl.ixN_nat (by rw [List.length_map, hlen]; exact hplt)) ?_
        have ntF : t ≠ Fc := (ne_of_none e16 ht).symm
        have e17 : ClAt (upd (upd H6 t (.tup [.str "later", nt pl])) Fc (.lst ((ads.map V.ref).set pl (.ref t)))) (ads.set pl t) (cellsTo Nx.cells (j + 1)) := by
          have nF6 : NoTup (fun z => z = Fc) (upd H6 t (.tup [.str "later", nt pl])) := by
            rintro z rfl
            exact ⟨fun xs e2 => (by rw [k7.at0 e16] at e2; cases e2), fun o xs e2 => (by rw [k7.at0 e16] at e2; cases e2)⟩
          have e27 := (e26.keep0 k7).keep (Kp.set (M := fun z => z = Fc) (o := .lst ((ads.map V.ref).set pl (.ref t))) rfl) nF6
          refine ⟨by rw [List.length_set, cellsTo_len, hlen], fun i ad c h1 h2 => ?_⟩
          rw [cellsTo, hpl, Option.getD_some] at h2
          by_cases z : pl = i
          · subst z
            rw [List.getElem?_set_self (by rw [hlen]; exact hplt)] at h1
            rw [List.getElem?_set_self (by rw [cellsTo_len]; exact hplt)] at h2
            cases h1
            cases h2
            rw [upd_ne ntF, upd_same]
            rfl
          · rw [List.getElem?_set_ne z] at h1 h2
            exact e27.row i ad c h1 h2
        have e37 : upd (upd H6 t (.tup [.str "later", nt pl])) Fc (.lst ((ads.map V.ref).set pl (.ref t))) fo = some (.lst ((oldTo Nx.cells ks j).map bt)) := by
          rw [upd_ne hFf.symm]
          exact k7.at0 e36
        have e47 : upd (upd H6 t (.tup [.str "later", nt pl])) Fc (.lst ((ads.map V.ref).set pl (.ref t))) Fc = some (.lst ((ads.set pl t).map V.ref)) := by rw [upd_same, List.map_set]
        have k47 : Kp (fun z => z = Fc ∨ z = fo) H4 (upd (upd H6 t (.tup [.str "later", nt pl])) Fc (.lst ((ads.map V.ref).set pl (.ref t)))) := (k46.trans k7.of0).trans (.set (.inl rfl))
        generalize upd (upd H6 t (.tup [.str "later", nt pl])) Fc (.lst ((ads.map V.ref).set pl (.ref t))) = H7 at *
        walk_at "go"
        refine x_setL e37 (j := pl) (Evl.ixN_nat (by rw [List.length_map, oldTo_len]; exact hplt)) ?_
        have nf7 : NoTup (fun z => z = fo) H7 := by
          rintro z rfl
          exact ⟨fun xs e2 => (by rw [e37] at e2; cases e2), fun o xs e2 => (by rw [e37] at e2; cases e2)⟩
        walk_at "go"
        refine ⟨_, _, ads.set pl t, rfl, by rw [upd_ne hFf]; exact e47, e17.keep (Kp.set (M := fun z => z = fo) rfl) nf7, ?_, k47.trans (.set (.inr rfl))⟩
        rw [upd_same, oldTo, hpl, Option.getD_some, List.map_set, gb, hkb]
        rfl
      · rintro σ H5 ⟨o8, o9, ads, rfl, e1, e2, e3, k5⟩
        rw [List.length_map] at e2 e3
        have kall : Kp No H H5 := Kp.fresh k04 k5 (by rintro z (rfl | rfl); exact hFn; exact hfn)
        refine ⟨_, _, ads, _, _, rfl, e1, e2, e3, k5.at hPL4 nP, kall, cellsTo_len _ _, oldTo_len _ _ _, fun i c hc => ?_, beat_some _ _ _ hkl _ (Nat.le_refl _)⟩
        rw [cellsTo_len]
        rw [cellsTo_at _ _ _ (Nat.le_refl _), List.take_length] at hc
        split at hc
        · rename_i hm
          cases hc
          exact (mem_latersTo.mp hm).1
        · exact hok i c hc
  · rintro σ H5 ⟨o8, o9, ads, cs, old, rfl, e1, e2, e3, e4, k5, hcl, hol, hcok, hbeat⟩
    walk_at "go"
    refine x_cut (fun σ H' => ∃ (T : Addr), σ = [some (.ref a.x), some (nt wh), some kv, some (.ref b), some (.ref na.p), some (.ref PL), some (.ref Fc), some (.ref fo), o8, o9, some (.ref T), none, none, none, none, none, none] ∧ H' T = some (.lst ((tellN Nx kept bits).map bt)) ∧ Kp No H5 H') ?_ ?_
    · have hflag : (decide (kv = V.non)) = kept.isNone := by
        rcases hk with ⟨rfl, rfl⟩ | ⟨kb, ks, rfl, rfl, _⟩
        · rfl
        · exact decide_eq_false (by intro z; cases z)
      walk_at "go"
      rw [hflag]
      walk_at "go"
      refine ⟨Fc, fo, b, ads, cs, old, bits, kept.isNone, rfl, rfl, rfl, rfl, e1, e2, e3, Kp.sqt k5 .no hb, by rw [hol, hcl], hb8, by omega, hcok, fun T H6 hT6 k6 => ?_⟩
      walk_at "go"
      exact ⟨T, rfl, by rw [hT6, hcl, hbeat], k6⟩
    · rintro σ H6 ⟨T, rfl, hT6, k6⟩
      have k06 := k5.trans k6
      have hN6 := hNx.keep0 k06
      have hPL6 := k6.at0 e4
      have hb6 := Kp.sqt k06 .no hb
      have htl : (tellN Nx kept bits).length = Nx.cells.length := tellTo_len _ _ _ _
      have top6 := hN6.top
      generalize tellN Nx kept bits = tl at *
      walk_at "go"
      refine ⟨na.pl, na.la, dOf Nx.loops, rfl, ⟨hN6.lo, by rw [dOf, List.length_map]; exact hN6.ll.len, fun j t p h1 h2 => ?_⟩, fun dl hdl => ?_⟩
      · rw [dOf, List.getElem?_map, Option.map_eq_some_iff] at h2
        obtain ⟨p0, h3, rfl⟩ := h2
        exact SqT.of (hN6.ll.row j t p0 h1 h3)
      have k7 : Kp No H6 (upd H6 dl (.dK (mergeK [] (dOf Nx.loops)))) := .new hdl
      have hdl7 : upd H6 dl (.dK (mergeK [] (dOf Nx.loops))) dl = some (.dK (mergeK [] (dOf Nx.loops))) := upd_same
      generalize upd H6 dl (.dK (mergeK [] (dOf Nx.loops))) = H7 at *
      walk_at "go"
      refine lc_r (n := 8) (fun D i H' => Kp No H7 H' ∧ H' D = some (.lst (((List.range i).map fun r => match look Nx.loops r with | some c => gb tl c | none => gb bits r).map bt))) (fun D hD => ⟨.new hD, upd_same⟩) ?_ ?_
      · rintro D i H8 hD hi ⟨k8, g1⟩
        have hdl8 := k8.at0 hdl7
        have hT8 := (k7.trans k8).at0 hT6
        have hb8' := Kp.sqt (k7.trans k8) .no hb6
        have e8 := at_bits (bs := bits) (i := i) (by rw [hb8]; exact hi)
        have hv := val_look Nx.loops [] i (up_nodup ok.lo.up)
        have fin : ∀ v : Bool, v = (match look Nx.loops i with | some c => gb tl c | none => gb bits i) → ∃ acc, H8 D = some (.lst acc) ∧ acc.length < sizeLine ∧ Kp No H7 (upd H8 D (.lst (acc ++ [bt v]))) ∧ upd H8 D (.lst (acc ++ [bt v])) D = some (.lst (((List.range (i + 1)).map fun r => match look Nx.loops r with | some c => gb tl c | none => gb bits r).map bt)) := by
          intro v hv
          refine ⟨_, g1, by rw [List.length_map, List.length_map, List.length_range, sizeLine_eq]; omega, k8.old hD, ?_⟩
          rw [upd_same, List.range_succ, List.map_append, List.map_append, hv]
          rfl
        walk_at "go"
        refine ⟨rfl, ?_⟩
        walk_at "go"
        refine ⟨dl, valV (mergeK [] (dOf Nx.loops)) (Sum.inl (i : Int)), rfl, DGet.k (k := Sum.inl (i : Int)) hdl8, ?_⟩
        rw [hv]
        cases hlk : look Nx.loops i with
        | some c =>
          obtain ⟨p, hp, e9, e10⟩ := look_mem hlk
          have hc : c < Nx.cells.length := by rw [← e10]; exact (ok.lo.at_ p hp).2
          have e11 := at_bits (bs := tl) (i := c) (by rw [htl]; exact hc)
          have hv2 : valV (mergeK [] (dOf Nx.loops)) (Sum.inl (i : Int)) = some (nt c) := by rw [hv, hlk]
          walk_at "go"
          try refine x_yes rfl ?_
          walk_at "go"
          refine ⟨dl, nt c, rfl, by rw [← hv2]; exact DGet.k (k := Sum.inl (i : Int)) hdl8, ?_⟩
          walk_at "go"
          exact fin _ (by rw [hlk])
        | none =>
          walk_at "go"
          try refine x_no rfl ?_
          walk_at "go"
          exact fin _ (by rw [hlk])
      · rintro D H8 hD ⟨k8, g1⟩
        have k08 := k06.trans (k7.trans k8)
        have hN8 := hNx.keep0 k08
        have top8 := hN8.top
        have hT8 := (k7.trans k8).at0 hT6
        have hPL8 := (k7.trans k8).at0 hPL6
        walk_at "go"
        refine ⟨na.pf, na.fa, dOf Nx.flags, rfl, ⟨hN8.fl, by rw [dOf, List.length_map]; exact hN8.ff.len, fun j t p h1 h2 => ?_⟩, fun df hdf => ?_⟩
        · rw [dOf, List.getElem?_map, Option.map_eq_some_iff] at h2
          obtain ⟨p0, h3, rfl⟩ := h2
          exact SqT.of (hN8.ff.row j t p0 h1 h3)
        have k9 : Kp No H8 (upd H8 df (.dK (mergeK [] (dOf Nx.flags)))) := .new hdf
        have hdf9 : upd H8 df (.dK (mergeK [] (dOf Nx.flags))) df = some (.dK (mergeK [] (dOf Nx.flags))) := upd_same
        generalize upd H8 df (.dK (mergeK [] (dOf Nx.flags))) = H9 at *
        walk_at "go"
        refine lc_r (n := 4) (fun D i H' => Kp No H9 H' ∧ H' D = some (.lst (((List.range i).map fun r => match look Nx.flags r with | some c => gb tl c | none => false).map V.bl))) (fun D hD => ⟨.new hD, upd_same⟩) ?_ ?_
        · rintro D2 i H10 hD2 hi ⟨k10, g2⟩
          have hdf10 := k10.at0 hdf9
          have hT10 := (k9.trans k10).at0 hT8
          have hv := val_look Nx.flags [] i (up_nodup ok.fl.up)
          have fin : ∀ v : Bool, v = (match look Nx.flags i with | some c => gb tl c | none => false) → ∃ acc, H10 D2 = some (.lst acc) ∧ acc.length < sizeLine ∧ Kp No H9 (upd H10 D2 (.lst (acc ++ [V.bl v]))) ∧ upd H10 D2 (.lst (acc ++ [V.bl v])) D2 = some (.lst (((List.range (i + 1)).map fun r => match look Nx.flags r with | some c => gb tl c | none => false).map V.bl)) := by
            intro v hv
            refine ⟨_, g2, by rw [List.length_map, List.length_map, List.length_range, sizeLine_eq]; omega, k10.old hD2, ?_⟩
            rw [upd_same, List.range_succ, List.map_append, List.map_append, hv]
            rfl
          walk_at "go"
          refine ⟨rfl, ?_⟩
          walk_at "go"
          refine ⟨df, valV (mergeK [] (dOf Nx.flags)) (Sum.inl (i : Int)), rfl, DGet.k (k := Sum.inl (i : Int)) hdf10, ?_⟩
          rw [hv]
          cases hlk : look Nx.flags i with
          | some c =>
            obtain ⟨p, hp, e9, e10⟩ := look_mem hlk
            have hc : c < Nx.cells.length := by rw [← e10]; exact (ok.fl.at_ p hp).2
            have e11 := at_bits (bs := tl) (i := c) (by rw [htl]; exact hc)
            have hv2 : valV (mergeK [] (dOf Nx.flags)) (Sum.inl (i : Int)) = some (nt c) := by rw [hv, hlk]
            walk_at "go"
            refine ⟨df, nt c, rfl, by rw [← hv2]; exact DGet.k (k := Sum.inl (i : Int)) hdf10, ?_⟩
            walk_at "go"
            have e12 : decide (bt (gb tl c) = V.int 1) = gb tl c := by cases gb tl c <;> rfl
            rw [e12]
            exact fin _ (by rw [hlk])
          | none =>
            walk_at "go"
            exact fin false (by rw [hlk])
        · rintro D2 H10 hD2 ⟨k10, g2⟩
          have hD8 := g1
          have hD10 := (k9.trans k10).at0 g1
          have hT10 := (k9.trans k10).at0 hT8
          have hPL10 := (k9.trans k10).at0 hPL8
          have k010 := k08.trans (k9.trans k10)
          walk_at "go"
          intro qd hqd
          have k11 : Kp No H10 (upd H10 qd (.tup [.ref D, .ref D2])) := .new hqd
          have hqd11 : upd H10 qd (.tup [.ref D, .ref D2]) qd = some (.tup [.ref D, .ref D2]) := upd_same
          have hD11 := k11.at0 hD10
          have hg211 := k11.at0 g2
          have hT11 := k11.at0 hT10
          have hPL11 := k11.at0 hPL10
          have k011 := k010.trans k11
          generalize upd H10 qd (.tup [.ref D, .ref D2]) = H11 at *
          walk_at "go"
          refine lc_l ((laters Nx.cells).map nt) (fun D i H' => Kp No H11 H' ∧ H' D = some (.lst ((((laters Nx.cells).take i).map fun j => gb tl (ref1 Nx.cells j)).map bt))) (fun D hD => ⟨.new hD, upd_same⟩) (fun D i H' _ z => SqL.of (z.1.at0 hPL11)) ?_ ?_
          · rintro D3 i y H12 hD3 hy ⟨k12, g3⟩
            rw [List.getElem?_map, Option.map_eq_some_iff] at hy
            obtain ⟨j, hj, rfl⟩ := hy
            obtain ⟨l, hl1, hl2⟩ := later_at (List.mem_of_getElem? hj)
            have hjl := (List.getElem?_eq_some_iff.mp hl1).1
            have hN12 := hNx.keep0 (k011.trans k12)
            have top12 := hN12.top
            have cs12 := hN12.cs
            have hT12 := k12.at0 hT11
            obtain ⟨ad, had⟩ : ∃ ad, na.ca[j]? = some ad := ⟨na.ca[j]'(by rw [hl]; exact hjl), List.getElem?_eq_getElem _⟩
            have hrow := hN12.cl.row j ad _ had hl1
            have e13 : atI (na.ca.map V.ref) (j : Int) = some (.ref ad) := atI_nat (j := j) (by rw [List.getElem?_map, had]; rfl)
            have e14 : atI (Cell.later l).vals 1 = some (nt l) := atI_nat (j := 1) rfl
            have hll : l < Nx.cells.length := hok j _ hl1
            have e15 := at_bits (bs := tl) (i := l) (by rw [htl]; exact hll)
            walk_at "go"
            refine ⟨rfl, ?_⟩
            walk_at "go"
            have hlat : (laters Nx.cells).length ≤ Nx.cells.length := latersTo_len Nx.cells Nx.cells.length
            refine ⟨_, g3, by rw [List.length_map, List.length_map, List.length_take, sizeLine_eq]; omega, k12.old hD3, ?_⟩
            rw [upd_same, take_one hj, List.map_append, List.map_append, List.map_cons, List.map_nil, hl2]
            rfl
          · rintro D3 H12 hD3 ⟨k12, g3⟩
            rw [List.length_map, List.take_length] at g3
            walk_at "go"
            intro c hc
            have k13 : Kp No H12 (upd H12 c (.tup (((laters Nx.cells).map fun j => gb tl (ref1 Nx.cells j)).map bt))) := .new hc
            walk_at "go"
            intro p hp
            have k14 := k13.trans (Kp.new (M := No) (o := .tup [.ref qd, .ref c]) hp)
            refine q p _ ⟨qd, D, D2, c, upd_same, (k12.trans k14).at0 hqd11, (k12.trans k14).at0 hD11, (k12.trans k14).at0 hg211, Kp.sqt (Kp.new hp) .no (SqT.of upd_same)⟩ (k011.trans (k12.trans k14))
end
end K7
namespace K7
open PySem PySem.Spec PyProof.Rows L2 B N7
theorem eqvAll_of {f : Bool → V} (hf : ∀ a b, PyData.eqv (fd (f a)) (fd (f b)) = decide (a = b)) : ∀ l m : List Bool, PyData.eqvAll ((l.map f).map fd) ((m.map f).map fd) = decide (l = m)
  | [], [] => by simp [PyData.eqvAll]
  | [], _ :: _ => by simp [PyData.eqvAll]
  | _ :: _, [] => by simp [PyData.eqvAll]
  | a :: l, b :: m => by
    simp only [List.map_cons, PyData.eqvAll]
    rw [hf, eqvAll_of hf l m, Bool.eq_iff_iff]
    simp
theorem eqv_bt (a b : Bool) : PyData.eqv (fd (bt a)) (fd (bt b)) = decide (a = b) := by cases a <;> cases b <;> simp [bt, fd, PyData.eqv]
theorem eqv_bl (a b : Bool) : PyData.eqv (fd (.bl a)) (fd (.bl b)) = decide (a = b) := by cases a <;> cases b <;> simp [fd, PyData.eqv]
theorem ok_bt (l : List Bool) : (l.map bt).all okF = true := List.all_eq_true.mpr fun x hx => by
  obtain ⟨n, _, rfl⟩ := List.mem_map.mp hx
  rfl
theorem ok_bl (l : List Bool) : (l.map V.bl).all okF = true := List.all_eq_true.mpr fun x hx => by
  obtain ⟨n, _, rfl⟩ := List.mem_map.mp hx
  rfl
theorem shaped_two {xs ys : List V} (h1 : xs.all okF = true) (h2 : ys.all okF = true) : SeqAt.shaped (.tuple [.list (xs.map fd), .list (ys.map fd)]) = true := by
  unfold SeqAt.shaped
  rw [Bool.and_eq_true]
  refine ⟨?_, decide_eq_true ?_⟩
  · simp only [PyData.canLay0, PyData.canLayAll0]
    rw [lay_flat h1, lay_flat h2]
    rfl
  · simp only [PyData.depth, PyData.depthAll]
    rw [depth_flat, depth_flat]
    decide
theorem x_eqTwo {K : PySem.W.Frag} {H : Hp} {Q : VK} {q1 q2 a1 b1 a2 b2 : Addr} {x1 y1 x2 y2 : List V} (h1 : H q1 = some (.tup [.ref a1, .ref b1])) (h2 : H q2 = some (.tup [.ref a2, .ref b2])) (e1 : H a1 = some (.lst x1)) (e2 : H b1 = some (.lst y1)) (e3 : H a2 = some (.lst x2)) (e4 : H b2 = some (.lst y2))
    (o1 : x1.all okF = true) (o2 : y1.all okF = true) (o3 : x2.all okF = true) (o4 : y2.all okF = true) (k : Q (.bl (PyData.eqvAll (x1.map fd) (x2.map fd) && PyData.eqvAll (y1.map fd) (y2.map fd))) H) : rEqD K (.ref q1) (.ref q2) H Q := by
  refine ⟨_, _, .tup (SqT.of h1) (.cons (.lst (SqL.of e1) (dpAll_flat o1)) (.cons (.lst (SqL.of e2) (dpAll_flat o2)) .nil)), .tup (SqT.of h2) (.cons (.lst (SqL.of e3) (dpAll_flat o3)) (.cons (.lst (SqL.of e4) (dpAll_flat o4)) .nil)), shaped_two o1 o2, shaped_two o3 o4, ?_⟩
  simp only [PyData.eqv, PyData.eqvAll, Bool.and_true]
  exact k
/-! ### pairs of bits -/
abbrev Two := List Bool × List Bool
def PairAt (K : PySem.W.Frag) (H : Hp) (p : Addr) (u : Two) : Prop := ∃ p1 p2 : Addr, SqT K H p [.ref p1, .ref p2] ∧ SqT K H p1 (u.1.map bt) ∧ SqT K H p2 (u.2.map bt)
theorem PairAt.keep {K : PySem.W.Frag} {H H' : Hp} {M : Addr → Prop} {p : Addr} {u : Two} (h : PairAt K H p u) (k : Kp M H H') (n : NoTup M H) : PairAt K H' p u := by
  obtain ⟨p1, p2, h1, h2, h3⟩ := h
  exact ⟨p1, p2, Kp.sqt k n h1, Kp.sqt k n h2, Kp.sqt k n h3⟩
theorem PairAt.keep0 {K : PySem.W.Frag} {H H' : Hp} {p : Addr} {u : Two} (h : PairAt K H p u) (k : Kp No H H') : PairAt K H' p u := h.keep k .no
def PairV (K : PySem.W.Frag) (H : Hp) (v : V) (u : Option Two) : Prop := (v = .non ∧ u = none) ∨ ∃ (p : Addr) (t : Two), v = .ref p ∧ u = some t ∧ PairAt K H p t
/-- of the right sizes -/
def Sized (N M : Net) (u : Two) : Prop := u.1.length = (laters N.cells).length ∧ u.2.length = (laters M.cells).length
def kept1 (u : Option Two) : Option (List Bool) := u.map (·.1)
def kept2 (u : Option Two) : Option (List Bool) := u.map (·.2)
/-- a step as data -/
def sameD (N M : Net) (u : Option Two) (bits : List Bool) : Bool := decide (outL N (tellN N (kept1 u) bits) bits = outL M (tellN M (kept2 u) bits) bits) && decide (outF N (tellN N (kept1 u) bits) = outF M (tellN M (kept2 u) bits))
def nextD (N M : Net) (u : Option Two) (bits : List Bool) : Two := (behind N.cells (tellN N (kept1 u) bits), behind M.cells (tellN M (kept2 u) bits))
theorem next_sized (N M : Net) (u : Option Two) (bits : List Bool) : Sized N M (nextD N M u bits) := ⟨behind_len _ _, behind_len _ _⟩
section
variable {P : Program} {w : World} {K : PySem.W.Frag} {mg : Str → Option Value} {base : Heap} {d : Ads} {C : Addr} {S : Nat → Prop}
def pStep (S : Nat → Prop) (K : PySem.W.Frag) (C : Addr) : V → V → V → Hp → VK → XK → Prop := fun x y z H Q _ => ∃ (a : PAd) (N M : Net) (L : List Nat) (u : Option Two) (b : Addr) (bits : List Bool), a.C = C ∧ x = .ref a.x ∧ z = .ref b ∧ PairsAt K H a N M L ∧ NetOk S N ∧ NetOk S M ∧ PairV K H y u ∧ (∀ t, u = some t → Sized N M t) ∧ SqT K H b (bits.map bt) ∧ bits.length = 8 ∧
  ∀ (p q : Addr) H', H' p = some (.tup [.bl (sameD N M u bits), .ref q]) → PairAt K H' q (nextD N M u bits) → Kp No H H' → Q (.ref p) H'
theorem ok_step (G : Txt K w mg d) (T : PTxt K C) (D : Mf K C "step" "Pairs.step" s_Pairs_step ["self", "pair", "bits"]) (c_Pairs_half : Met P w K mg base CX0 3 C "half" (U fun S => sp4 (pHalf S K C))) : Met P w K mg base CX0 4 C "step" (U fun S => sp3 (pStep S K C)) := by
  refine met0 D sc_Pairs_step rfl fun f cdv A outer s H vs Q E hr h => ?_
  obtain ⟨S, h⟩ := h
  replace c_Pairs_half := c_Pairs_half.at S
  obtain ⟨_, y, _, rfl, a, N, M, L, u, b, bits, rfl, rfl, rfl, hP, okN, okM, hy, hsz, hb, hb8, q⟩ := h
  refine ⟨_, (Evl.pss_cut (ps_asg (pe_mt c_Pairs_half hr (by decide) pass0 (pv 0) (pa_cons pe_int (pa_cons (pe_ifExp (pt_cmpR op_isN (pv 1) pe_non (nomark _)) pe_non (pe_ix (ixT K) (pv 1) pe_int (fun _ _ => rfl))) (pa_cons (pv 2) pa_nil)))) (pgT (n := 2) K (by rfl) (pgs_cons (pg_name (i := 3) sc_Pairs_step.nd rfl (Or.inl rfl)) (pgs_cons (pg_name (i := 4) sc_Pairs_step.nd rfl (Or.inl rfl)) pgs_nil))))
    (Evl.pss_cut (ps_asg (pe_mt c_Pairs_half hr (by decide) pass0 (pv 0) (pa_cons pe_int (pa_cons (pe_ifExp (pt_cmpR op_isN (pv 1) pe_non (nomark _)) pe_non (pe_ix (ixT K) (pv 1) pe_int (fun _ _ => rfl))) (pa_cons (pv 2) pa_nil)))) (pgT (n := 2) K (by rfl) (pgs_cons (pg_name (i := 5) sc_Pairs_step.nd rfl (Or.inl rfl)) (pgs_cons (pg_name (i := 6) sc_Pairs_step.nd rfl (Or.inl rfl)) pgs_nil))))
    (pss_one (ps_ret (pe_tup (pa_cons (pe_cmpR (eqD K hr.units) (pv 3) (pv 5) (nomark _)) (pa_cons (pe_tup (pa_cons (pv 4) (pa_cons (pv 6) pa_nil))) pa_nil))))))), ?_⟩
  refine B.x_start (σ' := [some (.ref a.x), some (y), some (.ref b), none, none, none, none]) rfl ?_
  have ob := hP.ob
  walk_at "go"
  refine x_cut (fun σ H' => ∃ (q1 a1 b1 c1 : Addr), σ = [some (.ref a.x), some y, some (.ref b), some (.ref q1), some (.ref c1), none, none] ∧ H' q1 = some (.tup [.ref a1, .ref b1]) ∧ H' a1 = some (.lst ((outL N (tellN N (kept1 u) bits) bits).map bt)) ∧ H' b1 = some (.lst ((outF N (tellN N (kept1 u) bits)).map V.bl)) ∧ SqT K H' c1 ((behind N.cells (tellN N (kept1 u) bits)).map bt) ∧ Kp No H H') ?_ ?_
  · have fin : ∀ (p : Addr) (H' : Hp), HalfAt K H' p (outL N (tellN N (kept1 u) bits) bits) (outF N (tellN N (kept1 u) bits)) (behind N.cells (tellN N (kept1 u) bits)) → ∃ q1 a1 b1 c1 : Addr, H' p = some (.tup [.ref q1, .ref c1]) ∧ H' q1 = some (.tup [.ref a1, .ref b1]) ∧ H' a1 = some (.lst ((outL N (tellN N (kept1 u) bits) bits).map bt)) ∧ H' b1 = some (.lst ((outF N (tellN N (kept1 u) bits)).map V.bl)) ∧ SqT K H' c1 ((behind N.cells (tellN N (kept1 u) bits)).map bt) := fun p H' h => h
    rcases hy with ⟨rfl, rfl⟩ | ⟨pp, t, rfl, rfl, hp⟩
    · walk_at "go"
      try refine x_yes rfl ?_
      walk_at "go"
      refine ⟨a, N, M, L, 0, a.a1, N, none, b, bits, rfl, rfl, rfl, rfl, hP, .inl ⟨rfl, rfl, rfl⟩, okN, .inl ⟨rfl, rfl⟩, hb, hb8, fun p H1 h1 k1 => ?_⟩
      obtain ⟨q1, a1, b1, c1, e1, e2, e3, e4, e5⟩ := fin p H1 h1
      walk_at "go"
      exact ⟨q1, a1, b1, c1, rfl, e2, e3, e4, e5, k1⟩
    · obtain ⟨p1, p2, hpp, hp1, hp2⟩ := hp
      walk_at "go"
      try refine x_no rfl ?_
      walk_at "go"
      refine ⟨a, N, M, L, 0, a.a1, N, some t.1, b, bits, rfl, rfl, rfl, rfl, hP, .inl ⟨rfl, rfl, rfl⟩, okN, .inr ⟨p1, t.1, rfl, rfl, hp1, (hsz t rfl).1⟩, hb, hb8, fun p H1 h1 k1 => ?_⟩
      obtain ⟨q1, a1, b1, c1, e1, e2, e3, e4, e5⟩ := fin p H1 h1
      walk_at "go"
      exact ⟨q1, a1, b1, c1, rfl, e2, e3, e4, e5, k1⟩
  rintro σ H1 ⟨q1, a1, b1, c1, rfl, e2, e3, e4, e5, k1⟩
  have hP1 := hP.keep0 k1
  have ob1 := hP1.ob
  have hb1 := Kp.sqt k1 .no hb
  walk_at "go"
  refine x_cut (fun σ H' => ∃ (q2 a2 b2 c2 : Addr), σ = [some (.ref a.x), some y, some (.ref b), some (.ref q1), some (.ref c1), some (.ref q2), some (.ref c2)] ∧ H' q2 = some (.tup [.ref a2, .ref b2]) ∧ H' a2 = some (.lst ((outL M (tellN M (kept2 u) bits) bits).map bt)) ∧ H' b2 = some (.lst ((outF M (tellN M (kept2 u) bits)).map V.bl)) ∧ SqT K H' c2 ((behind M.cells (tellN M (kept2 u) bits)).map bt) ∧ Kp No H1 H') ?_ ?_
  · have fin : ∀ (p : Addr) (H' : Hp), HalfAt K H' p (outL M (tellN M (kept2 u) bits) bits) (outF M (tellN M (kept2 u) bits)) (behind M.cells (tellN M (kept2 u) bits)) → ∃ q1 a1 b1 c1 : Addr, H' p = some (.tup [.ref q1, .ref c1]) ∧ H' q1 = some (.tup [.ref a1, .ref b1]) ∧ H' a1 = some (.lst ((outL M (tellN M (kept2 u) bits) bits).map bt)) ∧ H' b1 = some (.lst ((outF M (tellN M (kept2 u) bits)).map V.bl)) ∧ SqT K H' c1 ((behind M.cells (tellN M (kept2 u) bits)).map bt) := fun p H' h => h
    rcases hy with ⟨rfl, rfl⟩ | ⟨pp, t, rfl, rfl, hp⟩
    · walk_at "go"
      try refine x_yes rfl ?_
      walk_at "go"
      refine ⟨a, N, M, L, 1, a.a2, M, none, b, bits, rfl, rfl, rfl, rfl, hP1, .inr ⟨rfl, rfl, rfl⟩, okM, .inl ⟨rfl, rfl⟩, hb1, hb8, fun p H2 h1 k2 => ?_⟩
      obtain ⟨q2, a2, b2, c2, f1, f2, f3, f4, f5⟩ := fin p H2 h1
      walk_at "go"
      exact ⟨q2, a2, b2, c2, rfl, f2, f3, f4, f5, k2⟩
    · obtain ⟨p1, p2, hpp, hp1, hp2⟩ := hp.keep0 k1
      walk_at "go"
      try refine x_no rfl ?_
      walk_at "go"
      refine ⟨a, N, M, L, 1, a.a2, M, some t.2, b, bits, rfl, rfl, rfl, rfl, hP1, .inr ⟨rfl, rfl, rfl⟩, okM, .inr ⟨p2, t.2, rfl, rfl, hp2, (hsz t rfl).2⟩, hb1, hb8, fun p H2 h1 k2 => ?_⟩
      obtain ⟨q2, a2, b2, c2, f1, f2, f3, f4, f5⟩ := fin p H2 h1
      walk_at "go"
      exact ⟨q2, a2, b2, c2, rfl, f2, f3, f4, f5, k2⟩
  rintro σ H2 ⟨q2, a2, b2, c2, rfl, f2, f3, f4, f5, k2⟩
  walk_at "go"
  refine x_eqTwo (k2.at0 e2) f2 (k2.at0 e3) (k2.at0 e4) f3 f4 (ok_bt _) (ok_bl _) (ok_bt _) (ok_bl _) ?_
  rw [eqvAll_of eqv_bt, eqvAll_of eqv_bl]
  walk_at "go"
  intro qq hqq
  have k3 : Kp No H2 (upd H2 qq (.tup [.ref c1, .ref c2])) := .new hqq
  walk_at "go"
  intro p hp
  have k4 : Kp No H2 (upd (upd H2 qq (.tup [.ref c1, .ref c2])) p (.tup [.bl (decide (outL N (tellN N (kept1 u) bits) bits = outL M (tellN M (kept2 u) bits) bits) && decide (outF N (tellN N (kept1 u) bits) = outF M (tellN M (kept2 u) bits))), .ref qq])) := k3.trans (.new hp)
  exact q p qq _ upd_same ⟨c1, c2, Kp.sqt (Kp.new hp) .no (SqT.of upd_same), Kp.sqt (k2.trans k4) .no e5, Kp.sqt k4 .no f5⟩ (k1.trans (k2.trans k4))
end
end K7
namespace K7
open PySem PySem.Spec PyProof.Rows L2 B N7
/-! ### are these bits? -/
def isBit : V → Bool
  | .int i => decide (i = 0) || decide (i = 1) | _ => false
def ofBits : V → Bool
  | .int _ => true | .bl _ => true | _ => false
theorem inV_bits (j : Int) : inV (.int j) [.int 0, .int 1] = isBit (.int j) := by
  show ((0 : Int) == j || ((1 : Int) == j || false)) = (decide (j = 0) || decide (j = 1))
  rw [Bool.or_false]
  by_cases h0 : j = 0
  · subst h0; rfl
  · by_cases h1 : j = 1
    · subst h1; rfl
    · rw [decide_eq_false h0, decide_eq_false h1, beq_eq_false_iff_ne.mpr (fun z => h0 z.symm), beq_eq_false_iff_ne.mpr (fun z => h1 z.symm)]
theorem isBit_bt (l : List Bool) : (l.map bt).all isBit = true := List.all_eq_true.mpr fun x hx => by
  obtain ⟨b, _, rfl⟩ := List.mem_map.mp hx
  cases b <;> rfl
theorem ofBits_bt (l : List Bool) : (l.map bt).all ofBits = true := List.all_eq_true.mpr fun x hx => by
  obtain ⟨b, _, rfl⟩ := List.mem_map.mp hx
  rfl
theorem okF_of {xs : List V} (h : xs.all ofBits = true) : xs.all okF = true := List.all_eq_true.mpr fun x hx => by
  have := List.all_eq_true.mp h x hx
  cases x <;> first | rfl | cases this
theorem filt_empty (xs : List V) : (xs.filter fun v => !isBit v).isEmpty = xs.all isBit := by
  induction xs with
  | nil => rfl
  | cons x xs ih =>
    rw [List.filter_cons, List.all_cons]
    cases h : isBit x
    · rfl
    · simp only [Bool.not_true, Bool.false_eq_true, if_false, Bool.true_and]
      exact ih
section
variable {P : Program} {w : World} {K : PySem.W.Frag} {mg : Str → Option Value} {base : Heap} {d : Ads} {C : Addr} {S : Nat → Prop}
def pAreBits (K : PySem.W.Frag) : V → V → Hp → VK → XK → Prop := fun x y H Q _ => ∃ many : Nat, y = nt many ∧ ((∃ (p : Addr) (xs : List V), x = .ref p ∧ SqT K H p xs ∧ xs.all ofBits = true ∧ xs.length ≤ 10000 ∧ ∀ H', Kp No H H' → Q (.bl (decide (xs.length = many) && xs.all isBit)) H') ∨
  ∃ i : Int, x = .int i ∧ Q (.bl false) H)
theorem ok_are_bits (G : Txt K w mg d) (D : Df K mg "are_bits" s_are_bits ["part", "many"]) : Cal P w K mg base CX0 1 "are_bits" (sp2 (pAreBits K)) := by
  refine cal0 D sc_are_bits rfl fun f cdv A outer s H vs Q E hr h => ?_
  obtain ⟨x, _, rfl, many, rfl, h⟩ := h
  refine ⟨_, (pss_cons (ps_if (PW.pt (pw_or (pt_not (pt_val (pe_callB (isi1 K) (by rfl) G.n_isinstance (by decide +kernel) (pa_cons (pv 0) (pa_cons (pe_bltn (v := .ty "tuple") (by rfl) G.n_tuple (by decide +kernel) rfl) pa_nil))))) (pw_or1 (pt_cmpR op_ne (pe_callB (lenS K) (by rfl) G.n_len (by decide +kernel) (pa_cons (pv 0) pa_nil)) (pv 1) (nomark _)))))
      (pss_one (ps_ret pe_bl))
      pss_nil)
    (pss_one (ps_ret (pe_cmpR (eqD K hr.units) (pe_lc (own := [("bit", 2)]) (g := gName 2) rfl sc_are_bits.nd (piT K (pv 0)) (blkOk_by (own := [("bit", 2)]) (N := N_are_bits) (sc := defScope s_are_bits) (by decide +kernel)) (fun _ _ _ _ _ => (pg_name (i := 2) sc_are_bits.nd rfl (Or.inl rfl))) (fun _ _ _ _ _ => pts_one (PW.pt (pw_or (pt_val (pe_callB (isi1 K) (by rfl) G.n_isinstance (by decide +kernel) (pa_cons (pv 2) (pa_cons (pe_bltn (v := .ty "bool") (by rfl) G.n_bool (by decide +kernel) rfl) pa_nil)))) (pw_or1 (pt_cmpR (ninS K) (pv 2) (pe_tup (pa_cons pe_int (pa_cons pe_int pa_nil))) (by rfl)))))) (fun _ _ _ _ _ => (pv 2))) (pe_lst pa_nil) (nomark _))))), ?_⟩
  refine B.x_start (σ' := [some (x), some (nt many), none]) rfl ?_
  rcases h with ⟨p, xs, rfl, hp, hf, hl, q⟩ | ⟨i, rfl, q⟩
  · have hok := okF_of hf
    walk_at "go"
    by_cases hm : xs.length = many
    · subst hm
      rw [decide_eq_true rfl, Bool.true_and] at q
      try refine x_no (by simp) ?_
      walk_at "go"
      refine lc_t xs (fun D i H' => Kp No H H' ∧ H' D = some (.lst ((xs.take i).filter fun v => !isBit v))) (fun D hD => ⟨.new hD, upd_same⟩) (fun D i H' _ z => Kp.sqt z.1 .no hp) ?_ ?_
      · rintro D i y H2 hD hy ⟨k1, g1⟩
        have hy2 := List.all_eq_true.mp hf y (List.mem_of_getElem? hy)
        have hlen : ((xs.take i).filter fun v => !isBit v).length ≤ 10000 := Nat.le_trans (List.length_filter_le _ _) (by rw [List.length_take]; omega)
        have yes : ∀ {H3 : Hp}, Kp No H2 H3 → isBit y = false → ∃ acc, H3 D = some (.lst acc) ∧ acc.length < sizeLine ∧ Kp No H (upd H3 D (.lst (acc ++ [y]))) ∧ upd H3 D (.lst (acc ++ [y])) D = some (.lst ((xs.take (i + 1)).filter fun v => !isBit v)) := by
          intro H3 k2 hb
          refine ⟨_, k2.at0 g1, by rw [sizeLine_eq]; omega, (k1.trans k2).old hD, ?_⟩
          rw [upd_same, take_one hy, List.filter_append, List.filter_cons, List.filter_nil, hb]
          rfl
        have no : ∀ {H3 : Hp}, Kp No H2 H3 → isBit y = true → Kp No H H3 ∧ H3 D = some (.lst ((xs.take (i + 1)).filter fun v => !isBit v)) := by
          intro H3 k2 hb
          refine ⟨k1.trans k2, ?_⟩
          rw [take_one hy, List.filter_append, List.filter_cons, List.filter_nil, hb]
          simpa using k2.at0 g1
        cases y with
        | int j =>
          walk_at "go"
          refine ⟨rfl, ?_⟩
          walk_at "go"
          intro t ht
          have k2 : Kp No H2 (upd H2 t (.tup [.int 0, .int 1])) := .new ht
          refine ⟨t, [.int 0, .int 1], rfl, .inr (SqT.of upd_same), rfl, rfl, ?_⟩
          rw [inV_bits]
          walk_at "go"
          cases hb : isBit (.int j)
          · refine x_yes rfl ?_
            walk_at "go"
            exact yes k2 hb
          · refine x_no rfl ?_
            exact no k2 hb
        | bl b =>
          walk_at "go"
          refine ⟨rfl, ?_⟩
          walk_at "go"
          exact yes (.refl _) rfl
        | _ => cases hy2
      · rintro D H2 hD ⟨k1, g1⟩
        rw [List.take_length] at g1
        walk_at "go"
        intro e he
        have k2 : Kp No H2 (upd H2 e (.lst [])) := .new he
        refine x_eqNilL (SqL.of (k2.at0 g1)) (SqL.of upd_same) ?_ ?_
        · exact List.all_eq_true.mpr fun v hv => List.all_eq_true.mp hok v (List.mem_filter.mp hv).1
        · rw [filt_empty]
          exact q _ (k1.trans k2)
    · rw [decide_eq_false hm, Bool.false_and] at q
      refine x_yes (by simp; omega) ?_
      walk_at "go"
      exact q H (.refl H)
  · walk_at "go"
    exact q
end
end K7
namespace K7
open PySem PySem.Spec PyProof.Rows L2 B N7
/-! ### pairs as keys -/
def bitsK (bs : List Bool) : List NK := bs.map fun b => NestedKey.num ((b.toNat : Nat) : Int)
def twoK (u : Two) : NK := .tup [.tup (bitsK u.1), .tup (bitsK u.2)]
theorem bitsK_inj : ∀ {a b : List Bool}, bitsK a = bitsK b → a = b
  | [], [], _ => rfl
  | [], _ :: _, h => by simp [bitsK] at h
  | _ :: _, [], h => by simp [bitsK] at h
  | x :: a, y :: b, h => by
    simp only [bitsK, List.map_cons, List.cons.injEq] at h
    obtain ⟨h1, h2⟩ := h
    rw [bitsK_inj (a := a) (b := b) h2]
    injection h1 with h1
    cases x <;> cases y <;> first | rfl | (simp at h1)
theorem twoK_inj {u v : Two} (h : twoK u = twoK v) : u = v := by
  injection h with h
  simp only [List.cons.injEq, NestedKey.tup.injEq, and_true] at h
  exact Prod.ext (bitsK_inj h.1) (bitsK_inj h.2)
section
variable {K : PySem.W.Frag} {H H' : Hp} {M : Addr → Prop}
theorem bits_at : ∀ bs : List Bool, DpAll K H (bs.map bt) (NestedKey.datas (bitsK bs))
  | [] => by rw [bitsK, List.map_nil, List.map_nil, NestedKey.datas]; exact .nil
  | b :: bs => by rw [bitsK, List.map_cons, List.map_cons, NestedKey.datas, NestedKey.data]; exact .cons (.int _) (bits_at bs)
theorem depth_bitsK : ∀ bs : List Bool, NestedKey.depthAll (bitsK bs) = 0
  | [] => by rw [bitsK, List.map_nil, NestedKey.depthAll]
  | b :: bs => by rw [bitsK, List.map_cons, NestedKey.depthAll, NestedKey.depth]; have := depth_bitsK bs; rw [bitsK] at this; rw [this]; rfl
theorem PairAt.kd {p : Addr} {u : Two} (h : PairAt K H p u) : Kd K H (p, twoK u) := by
  obtain ⟨p1, p2, h1, h2, h3⟩ := h
  refine ⟨?_, ?_⟩
  · show Dp K H (.ref p) (NestedKey.data (.tup [.tup (bitsK u.1), .tup (bitsK u.2)]))
    rw [NestedKey.data, NestedKey.datas, NestedKey.datas, NestedKey.datas, NestedKey.data, NestedKey.data]
    exact .tup h1 (.cons (.tup h2 (bits_at _)) (.cons (.tup h3 (bits_at _)) .nil))
  · show NestedKey.depth (.tup [.tup (bitsK u.1), .tup (bitsK u.2)]) ≤ 8
    simp only [NestedKey.depth, NestedKey.depthAll, depth_bitsK]
    decide
/-- pairs at such addresses -/
structure PsAt (K : PySem.W.Frag) (H : Hp) (ads : List Addr) (us : List Two) : Prop where
  len : ads.length = us.length
  row : ∀ (i : Nat) (ad : Addr) (u : Two), ads[i]? = some ad → us[i]? = some u → PairAt K H ad u
theorem PsAt.keep {ads : List Addr} {us : List Two} (h : PsAt K H ads us) (k : Kp M H H') (n : NoTup M H) : PsAt K H' ads us := ⟨h.len, fun i ad u h1 h2 => (h.row i ad u h1 h2).keep k n⟩
theorem PsAt.keep0 {ads : List Addr} {us : List Two} (h : PsAt K H ads us) (k : Kp No H H') : PsAt K H' ads us := h.keep k .no
def pkeys (ads : List Addr) (us : List Two) : List (Addr × NK) := ads.zip (us.map twoK)
theorem pkeys_fst {ads : List Addr} {us : List Two} (h : ads.length = us.length) : (pkeys ads us).map (fun p => V.ref p.1) = ads.map V.ref := by
  rw [pkeys, show (fun p : Addr × NK => V.ref p.1) = V.ref ∘ Prod.fst from rfl, ← List.map_map, List.map_fst_zip (by rw [List.length_map, h]; exact Nat.le_refl _)]
theorem pkeys_snd {ads : List Addr} {us : List Two} (h : ads.length = us.length) : (pkeys ads us).map (·.2) = us.map twoK := by
  rw [pkeys, List.map_snd_zip (by rw [List.length_map, h]; exact Nat.le_refl _)]
theorem pkeys_len {ads : List Addr} {us : List Two} (h : ads.length = us.length) : (pkeys ads us).length = us.length := by simp [pkeys, h]
theorem pkeys_at {ads : List Addr} {us : List Two} (h : PsAt K H ads us) {p : Addr × NK} (hp : p ∈ pkeys ads us) : ∃ u ∈ us, p.2 = twoK u ∧ PairAt K H p.1 u := by
  obtain ⟨i, hi⟩ := List.getElem?_of_mem hp
  rw [pkeys, List.getElem?_zip_eq_some] at hi
  obtain ⟨h1, h2⟩ := hi
  rw [List.getElem?_map, Option.map_eq_some_iff] at h2
  obtain ⟨u, hu, e⟩ := h2
  exact ⟨u, List.mem_of_getElem? hu, e.symm, h.row i p.1 u h1 hu⟩
theorem pkeys_kd {ads : List Addr} {us : List Two} (h : PsAt K H ads us) : ∀ p ∈ pkeys ads us, Kd K H p := fun p hp => by
  obtain ⟨u, _, e, hu⟩ := pkeys_at h hp
  rw [show p = (p.1, twoK u) from by rw [← e]]
  exact hu.kd
theorem mem_keys {us : List Two} {u : Two} : twoK u ∈ us.map twoK ↔ u ∈ us := by
  constructor
  · intro h
    obtain ⟨v, hv, e⟩ := List.mem_map.mp h
    rw [← twoK_inj e]
    exact hv
  · exact fun h => List.mem_map.mpr ⟨u, h, rfl⟩
end
section
variable {P : Program} {w : World} {K : PySem.W.Frag} {mg : Str → Option Value} {base : Heap} {d : Ads} {C : Addr} {S : Nat → Prop}
def pNeedPairs (K : PySem.W.Frag) : V → V → V → Hp → VK → XK → Prop := fun x y z H Q _ => ∃ (a1 a2 : NAd) (N M : Net) (b : Addr) (ads : List Addr) (us : List Two), x = .ref a1.p ∧ y = .ref a2.p ∧ z = .ref b ∧ NetAt K H a1 N ∧ NetAt K H a2 M ∧ N.cells.length ≤ 3000 ∧ M.cells.length ≤ 3000 ∧
  H b = some (.lst (ads.map V.ref)) ∧ PsAt K H ads us ∧ (∀ u ∈ us, Sized N M u) ∧ ∀ H', Kp No H H' → Q .non H'
theorem ok_need_pairs (G : Txt K w mg d) (D : Df K mg "need_pairs" s_need_pairs ["one", "other", "pairs"]) (c_memories : Cal P w K mg base CX0 1 "memories" (sp1 (pMemories K))) (c_are_bits : Cal P w K mg base CX0 1 "are_bits" (sp2 (pAreBits K))) : Cal P w K mg base CX0 2 "need_pairs" (sp3 (pNeedPairs K)) := by
  refine cal0 D sc_need_pairs rfl fun f cdv A outer s H vs Q E hr h => ?_
  obtain ⟨_, _, _, rfl, a1, a2, N, M, b, ads, us, rfl, rfl, rfl, hN, hM, f1, f2, hb, hp, hs, q⟩ := h
  refine ⟨_, (pss_cons (ps_set (i := 3) sc_need_pairs.nd rfl (Or.inl rfl) (pe_tup (pa_cons (pe_callB (lenS K) (by rfl) G.n_len (by decide +kernel) (pa_cons (pe_c c_memories hr (by first | decide | omega) (by rfl) pass0 (pa_cons (pv 0) pa_nil)) pa_nil)) (pa_cons (pe_callB (lenS K) (by rfl) G.n_len (by decide +kernel) (pa_cons (pe_c c_memories hr (by first | decide | omega) (by rfl) pass0 (pa_cons (pv 1) pa_nil)) pa_nil)) pa_nil))))
    (pss_one (ps_for PassesOwn.never rfl (piL K (pv 2)) (pg_name (i := 4) sc_need_pairs.nd rfl (Or.inl rfl))
      (pss_cons (ps_set (i := 5) sc_need_pairs.nd rfl (Or.inl rfl) (pe_and (pe_callB (isi1 K) (by rfl) G.n_isinstance (by decide +kernel) (pa_cons (pv 4) (pa_cons (pe_bltn (v := .ty "tuple") (by rfl) G.n_tuple (by decide +kernel) rfl) pa_nil))) (pe_one (pe_cmpR op_eq (pe_callB (lenS K) (by rfl) G.n_len (by decide +kernel) (pa_cons (pv 4) pa_nil)) pe_int (nomark _)))))
      (pss_one (ps_if (PW.pt (pw_or (pt_not (pt_val (pv 5))) (pw_or (pt_not (pt_val (pe_c c_are_bits hr (by first | decide | omega) (by rfl) pass0 (pa_cons (pe_ix (ixT K) (pv 4) pe_int (fun _ _ => rfl)) (pa_cons (pe_ix (ixT K) (pv 3) pe_int (fun _ _ => rfl)) pa_nil))))) (pw_or1 (pt_not (pt_val (pe_c c_are_bits hr (by first | decide | omega) (by rfl) pass0 (pa_cons (pe_ix (ixT K) (pv 4) pe_int (fun _ _ => rfl)) (pa_cons (pe_ix (ixT K) (pv 3) pe_int (fun _ _ => rfl)) pa_nil)))))))))
        (pss_one ps_never)
        pss_nil)))))), ?_⟩
  refine B.x_start (σ' := [some (.ref a1.p), some (.ref a2.p), some (.ref b), none, none, none]) rfl ?_
  walk_at "go"
  refine ⟨a1, N, rfl, hN, f1, fun l1 _ H1 g1 k1 => ?_⟩
  have hM1 := hM.keep0 k1
  walk_at "go"
  refine ⟨a2, M, rfl, hM1, f2, fun l2 _ H2 g2 k2 => ?_⟩
  walk_at "go"
  rw [List.length_map, List.length_map]
  intro t ht
  have k3 : Kp No H (upd H2 t (.tup [nt (laters N.cells).length, nt (laters M.cells).length])) := (k1.trans k2).trans (.new ht)
  have ht3 : upd H2 t (.tup [nt (laters N.cells).length, nt (laters M.cells).length]) t = some (.tup [nt (laters N.cells).length, nt (laters M.cells).length]) := upd_same
  generalize upd H2 t (.tup [nt (laters N.cells).length, nt (laters M.cells).length]) = H3 at *
  have hb3 := k3.at0 hb
  have hp3 := hp.keep0 k3
  walk_at "go"
  refine fr_l (ads.map V.ref) (fun i σ H' => ∃ (o4 o5 : Option V), σ = [some (.ref a1.p), some (.ref a2.p), some (.ref b), some (.ref t), o4, o5] ∧ Kp No H3 H') ⟨_, _, rfl, .refl _⟩ (fun i σ H' _ z => ?_) ?_ ?_
  · obtain ⟨o4, o5, rfl, k4⟩ := z
    exact SqL.of (k4.at0 hb3)
  · rintro i y σ H4 hy ⟨o4, o5, rfl, k4⟩
    rw [List.getElem?_map, Option.map_eq_some_iff] at hy
    obtain ⟨ad, had, rfl⟩ := hy
    have hi : i < us.length := by rw [← hp.len]; exact (List.getElem?_eq_some_iff.mp had).1
    obtain ⟨u, hu⟩ : ∃ u, us[i]? = some u := ⟨us[i], List.getElem?_eq_getElem hi⟩
    have hsz := hs u (List.mem_of_getElem? hu)
    obtain ⟨p1, p2, q1, q2, q3⟩ := (hp3.row i ad u had hu).keep0 k4
    have ht4 := k4.at0 ht3
    have lN : (laters N.cells).length ≤ 3000 := Nat.le_trans (latersTo_len _ _) f1
    have lM : (laters M.cells).length ≤ 3000 := Nat.le_trans (latersTo_len _ _) f2
    have z0 : atI [nt (laters N.cells).length, nt (laters M.cells).length] 0 = some (nt (laters N.cells).length) := rfl
    have z1 : atI [nt (laters N.cells).length, nt (laters M.cells).length] 1 = some (nt (laters M.cells).length) := rfl
    walk_at "go"
    refine ⟨(laters N.cells).length, rfl, .inl ⟨p1, u.1.map bt, rfl, q2, ofBits_bt _, by rw [List.length_map, hsz.1]; omega, fun H5 k5 => ?_⟩⟩
    rw [isBit_bt, Bool.and_true, List.length_map, hsz.1, decide_eq_true rfl]
    have q15 := Kp.sqt k5 .no q1
    have q35 := Kp.sqt k5 .no q3
    have ht5 := k5.at0 ht4
    walk_at "go"
    refine ⟨(laters M.cells).length, rfl, .inl ⟨p2, u.2.map bt, rfl, q35, ofBits_bt _, by rw [List.length_map, hsz.2]; omega, fun H6 k6 => ?_⟩⟩
    rw [isBit_bt, Bool.and_true, List.length_map, hsz.2, decide_eq_true rfl]
    walk_at "go"
    exact ⟨_, _, rfl, k4.trans (k5.trans k6)⟩
  · rintro σ H4 ⟨o4, o5, rfl, k4⟩
    exact q H4 (k3.trans k4)
end
end K7
namespace K7
open PySem PySem.Spec PyProof.Rows L2 B N7
/-- a letter for two nets -/
def IsLetN (N M : Net) (bits : List Bool) : Prop := bits.length = 8 ∧ ∀ r, r < 8 → r ∉ usedN N → r ∉ usedN M → bits[r]? = some false
theorem isLet_iff {N M : Net} {L : List Nat} (h : LpOk N M L) (bits : List Bool) : IsLet L bits ↔ IsLetN N M bits := by
  constructor
  · exact fun ⟨h1, h2⟩ => ⟨h1, fun r h8 n1 n2 => h2 r h8 fun z => ((h.mem r).mp z).elim n1 n2⟩
  · exact fun ⟨h1, h2⟩ => ⟨h1, fun r h8 n => h2 r h8 (fun z => n ((h.mem r).mpr (.inl z))) fun z => n ((h.mem r).mpr (.inr z))⟩
/-- the pairs show that the nets are alike -/
def GoodU (N M : Net) (us : List Two) (u : Option Two) : Prop := ∀ bits, IsLetN N M bits → sameD N M u bits = true ∧ nextD N M u bits ∈ us
def Shown (N M : Net) (us : List Two) : Prop := ∀ u ∈ none :: us.map some, GoodU N M us u
/-- the loops of two nets: few, below 8 -/
structure FewS (S : Nat → Prop) : Prop where
  six : ∃ L6 : List Nat, L6.length ≤ 6 ∧ ∀ r, r < 8 → S r → r ∈ L6
theorem used_in {S : Nat → Prop} {N : Net} (ok : NetOk S N) {r : Nat} (h : r ∈ usedN N) : r < 8 ∧ S r := by
  rcases List.mem_append.mp h with z | z
  · obtain ⟨c, hc, e⟩ := List.mem_filterMap.mp z
    obtain ⟨i, hi⟩ := List.getElem?_of_mem hc
    have := ok.ok i c hi
    cases c with
    | bit x => simp only [Cell.bitOf, Option.some.injEq] at e; subst e; exact this
    | _ => cases e
  · obtain ⟨p, hp, rfl⟩ := List.mem_map.mp z
    exact (ok.lo.at_ p hp).1
theorem LpOk.few {S : Nat → Prop} {N M : Net} {L : List Nat} (h : LpOk N M L) (f : FewS S) (o1 : NetOk S N) (o2 : NetOk S M) : L.length ≤ 6 ∧ ∀ r ∈ L, r < 8 := by
  have hm : ∀ r ∈ L, r < 8 ∧ S r := fun r hr => ((h.mem r).mp hr).elim (used_in o1) (used_in o2)
  obtain ⟨L6, h6, hin⟩ := f.six
  exact ⟨Nat.le_trans (nat_nodup_len L L6 (up_nodup h.up) fun x hx => hin x (hm x hx).1 (hm x hx).2) h6, fun r hr => (hm r hr).1⟩
section
variable {P : Program} {w : World} {K : PySem.W.Frag} {mg : Str → Option Value} {base : Heap} {d : Ads} {C : Addr} {S : Nat → Prop}
def pShows (S : Nat → Prop) (K : PySem.W.Frag) : V → V → V → Hp → VK → XK → Prop := fun x y z H Q _ => ∃ (a1 a2 : NAd) (N M : Net) (b : Addr) (ads : List Addr) (us : List Two), x = .ref a1.p ∧ y = .ref a2.p ∧ z = .ref b ∧ NetAt K H a1 N ∧ NetAt K H a2 M ∧ FewS S ∧ NetOk S N ∧ NetOk S M ∧ N.cells.length ≤ 1900 ∧ M.cells.length ≤ 1900 ∧
  H b = some (.lst (ads.map V.ref)) ∧ PsAt K H ads us ∧ us.length ≤ 10000 ∧ (∀ u ∈ us, Sized N M u) ∧ ∀ (r : Bool) H', (r = true ↔ Shown N M us) → Kp No H H' → Q (.bl r) H'
theorem ok_shows (G : Txt K w mg d) (T : PTxt K C) (D : Df K mg "shows" s_shows ["one", "other", "pairs"]) (c_need_net : Cal P w K mg base CX0 3 "need_net" (U fun S => sp1 (pNeedNet S K))) (c_need_pairs : Cal P w K mg base CX0 2 "need_pairs" (sp3 (pNeedPairs K)))
    (c_Pairs_init : Mak P w K mg base CX0 2 "Pairs" C (sp3 (pPInit K C))) (c_Pairs_letters : Met P w K mg base CX0 1 C "letters" (sp1 (pLetters K C))) (c_Pairs_step : Met P w K mg base CX0 4 C "step" (U fun S => sp3 (pStep S K C))) : Cal P w K mg base CX0 5 "shows" (U fun S => sp3 (pShows S K)) := by
  refine cal0 D sc_shows rfl fun f cdv A outer s H vs Q E hr h => ?_
  obtain ⟨S, h⟩ := h
  replace c_need_net := c_need_net.at S
  replace c_Pairs_step := c_Pairs_step.at S
  obtain ⟨_, _, _, rfl, a1, a2, N, M, b, ads, us, rfl, rfl, rfl, hN, hM, hS, okN, okM, l1, l2, hb, hp, hf, hs, q⟩ := h
  refine ⟨_, (pss_cons (ps_expr (pe_c c_need_net hr (by first | decide | omega) (by rfl) pass0 (pa_cons (pv 0) pa_nil)))
    (pss_cons (ps_expr (pe_c c_need_net hr (by first | decide | omega) (by rfl) pass0 (pa_cons (pv 1) pa_nil)))
    (pss_cons (ps_expr (pe_c c_need_pairs hr (by first | decide | omega) (by rfl) pass0 (pa_cons (pv 0) (pa_cons (pv 1) (pa_cons (pv 2) pa_nil)))))
    (pss_cons (ps_set (i := 3) sc_shows.nd rfl (Or.inl rfl) (pe_mk c_Pairs_init hr (by first | decide | omega) (by rfl) pass0 (pa_cons (pv 0) (pa_cons (pv 1) pa_nil))))
    (pss_cons (ps_set (i := 4) sc_shows.nd rfl (Or.inl rfl) (pe_callTy (N7.dictN K w rfl hr.units) (by rfl) G.n_dict (by decide +kernel) (pa_cons (pe_lc (own := [("pair", 5)]) (g := gName 5) (tt := tYes) rfl sc_shows.nd (piL K (pv 2)) (blkOk_by (own := [("pair", 5)]) (N := N_shows) (sc := defScope s_shows) (by decide +kernel)) (fun _ _ _ _ _ => (pg_name (i := 5) sc_shows.nd rfl (Or.inl rfl))) (fun _ _ _ _ _ => pts_nil) (fun _ _ _ _ _ => (pe_tup (pa_cons (pv 5) (pa_cons pe_bl pa_nil))))) pa_nil)))
    (pss_cons (ps_set (i := 6) sc_shows.nd rfl (Or.inl rfl) (pe_mt0 c_Pairs_letters hr (by decide) pass0 (pv 3)))
    (pss_cons (ps_for PassesOwn.never rfl (piL K (pe_op op_cat (pe_lst (pa_cons pe_non pa_nil)) (pe_callTy (listOf K) (by rfl) G.n_list (by decide +kernel) (pa_cons (pv 2) pa_nil)))) (pg_name (i := 5) sc_shows.nd rfl (Or.inl rfl))
      (pss_one (ps_for PassesOwn.never rfl (piL K (pv 6)) (pg_name (i := 7) sc_shows.nd rfl (Or.inl rfl))
        (pss_cons (ps_asg (pe_mt c_Pairs_step hr (by decide) pass0 (pv 3) (pa_cons (pv 5) (pa_cons (pv 7) pa_nil))) (pgT (n := 2) K (by rfl) (pgs_cons (pg_name (i := 8) sc_shows.nd rfl (Or.inl rfl)) (pgs_cons (pg_name (i := 9) sc_shows.nd rfl (Or.inl rfl)) pgs_nil))))
        (pss_one (ps_if (PW.pt (pw_or (pt_not (pt_val (pv 8))) (pw_or1 (pt_cmpR (N7.ninN K w hr.units) (pv 9) (pv 4) (by rfl)))))
          (pss_one (ps_ret pe_bl))
          pss_nil))))))
    (pss_one (ps_ret pe_bl))))))))), ?_⟩
  refine B.x_start (σ' := [some (.ref a1.p), some (.ref a2.p), some (.ref b), none, none, none, none, none, none, none]) rfl ?_
  walk_at "go"
  refine ⟨a1, N, rfl, hN, okN, fun H1 k1 => ?_⟩
  have hM1 := hM.keep0 k1
  walk_at "go"
  refine ⟨a2, M, rfl, hM1, okM, fun H2 k2 => ?_⟩
  have k02 := k1.trans k2
  have hN2 := hN.keep0 k02
  have hM2 := hM.keep0 k02
  walk_at "go"
  refine ⟨a1, a2, N, M, b, ads, us, rfl, rfl, rfl, hN2, hM2, by omega, by omega, k02.at0 hb, hp.keep0 k02, hs, fun H3 k3 => ?_⟩
  have k03 := k02.trans k3
  have hN3 := hN.keep0 k03
  have hM3 := hM.keep0 k03
  walk_at "go"
  intro x dx hx hdx hne
  walk_at "go"
  have kx : Kp No H3 (upd (upd H3 dx (.own x)) x (.ins C dx [])) := (Kp.new hdx).trans (.new (by rw [upd_ne hne.symm]; exact hx))
  have f8 := okN.lo.few (m := 8) fun r h => h.1
  have g8 := okM.lo.few (m := 8) fun r h => h.1
  refine ⟨x, dx, a1, a2, N, M, rfl, rfl, rfl, upd_same, hN3.keep0 kx, hM3.keep0 kx, l1, l2, f8, g8, fun H4 a L ax aC ae1 ae2 hP hL k4 => ?_⟩
  subst ax aC
  have k34 : Kp No H3 H4 := Kp.fresh (M := fun z => z = a.x) (.refl H3) (kx.of0.trans k4) fun b z => by rw [z]; exact hx
  have k04 := k03.trans k34
  obtain ⟨h6, h8⟩ := hL.few hS okN okM
  have hb4 := k04.at0 hb
  have hp4 := hp.keep0 k04
  walk_at "go"
  refine lc_l (ads.map V.ref) (fun D i H' => Kp No H4 H' ∧ ∃ pads : List Addr, H' D = some (.lst (pads.map V.ref)) ∧ pads.length = i ∧ ∀ (j : Nat) (t ad : Addr), pads[j]? = some t → ads[j]? = some ad → H' t = some (.tup [.ref ad, .bl true])) (fun D hD => ⟨.new hD, [], upd_same, rfl, fun j t ad h1 => by simp at h1⟩) (fun D i H' _ z => SqL.of (z.1.at0 hb4)) ?_ ?_
  · rintro D i y H5 hD hy ⟨k5, pads, g1, g2, g3⟩
    rw [List.getElem?_map, Option.map_eq_some_iff] at hy
    obtain ⟨ad, had, rfl⟩ := hy
    have hi : i < us.length := by rw [← hp.len]; exact (List.getElem?_eq_some_iff.mp had).1
    walk_at "go"
    refine ⟨rfl, ?_⟩
    walk_at "go"
    intro t ht
    have nD : t ≠ D := (ne_of_none g1 ht).symm
    refine ⟨_, by rw [upd_ne nD.symm]; exact g1, by rw [List.length_map, sizeLine_eq]; omega, (k5.trans (.new ht)).old hD, pads ++ [t], by rw [upd_same, List.map_append]; rfl, by simp [g2], fun j t2 ad2 h1 h2 => ?_⟩
    rcases Nat.lt_trichotomy j i with z | z | z
    · rw [List.getElem?_append_left (by omega)] at h1
      have e := g3 j t2 ad2 h1 h2
      rw [upd_ne (ne_of e g1 (by intro z; cases z)), upd_ne (ne_of_none e ht)]
      exact e
    · subst z
      rw [List.getElem?_append_right (by omega), g2, Nat.sub_self] at h1
      cases h1
      rw [had] at h2
      cases h2
      rw [upd_ne nD, upd_same]
    · rw [List.getElem?_eq_none (by simp; omega)] at h1
      cases h1
  rintro D H5 hD ⟨k5, pads, g1, g2, g3⟩
  rw [List.length_map] at g2
  have hp5 := hp4.keep0 k5
  have hlen := hp.len
  walk_at "go"
  refine ⟨D, pads, pkeys ads us, rfl, ⟨SqL.of g1, by rw [pkeys_len hlen, g2, hlen], fun j t p h1 h2 => ?_, pkeys_kd hp5, by rw [pkeys_len hlen]; omega⟩, fun dk hdk => ?_⟩
  · rw [pkeys, List.getElem?_zip_eq_some] at h2
    exact SqT.of (g3 j t p.1 h1 h2.1)
  have k6 : Kp No H4 (upd H5 dk (NDO w dk (addAll [] (pkeys ads us)))) := k5.trans (.new hdk)
  have hdk6 : upd H5 dk (NDO w dk (addAll [] (pkeys ads us))) dk = some (NDO w dk (addAll [] (pkeys ads us))) := upd_same
  generalize upd H5 dk (NDO w dk (addAll [] (pkeys ads us))) = H6 at *
  have hP6 := hP.keep0 k6
  walk_at "go"
  refine ⟨a, N, M, L, rfl, rfl, hP6, h6, h8, fun F lads H7 hF hlets k7 => ?_⟩
  have hb7 := k7.at0 (k6.at0 hb4)
  walk_at "go"
  intro n0 hn0
  have k8 : Kp No H7 (upd H7 n0 (.lst [.non])) := .new hn0
  have hb8 := k8.at0 hb7
  have hn8 : upd H7 n0 (.lst [.non]) n0 = some (.lst [.non]) := upd_same
  generalize upd H7 n0 (.lst [.non]) = H8 at *
  walk_at "go"
  intro c0 hc0
  have k9 : Kp No H8 (upd H8 c0 (.lst (ads.map V.ref))) := .new hc0
  refine ⟨n0, c0, [.non], ads.map V.ref, rfl, rfl, k9.at0 hn8, upd_same, by rw [List.length_map, sizeLine_eq, hlen]; simp; omega, fun pl hpl => ?_⟩
  have k10 : Kp No H7 (upd (upd H8 c0 (.lst (ads.map V.ref))) pl (.lst ([.non] ++ ads.map V.ref))) := (k8.trans k9).trans (.new hpl)
  have hpl10 : upd (upd H8 c0 (.lst (ads.map V.ref))) pl (.lst ([.non] ++ ads.map V.ref)) pl = some (.lst ([.non] ++ ads.map V.ref)) := upd_same
  generalize upd (upd H8 c0 (.lst (ads.map V.ref))) pl (.lst ([.non] ++ ads.map V.ref)) = H10 at *
  have hP10 := hP6.keep0 (k7.trans k10)
  have hp10 := hp4.keep0 (k6.trans (k7.trans k10))
  have hF10 := k10.at0 hF
  have hl10 := hlets.keep0 k10
  have hdk10 := (k7.trans k10).at0 hdk6
  have k010 := k04.trans (k6.trans (k7.trans k10))
  have hkeys : ∀ {u : Two}, twoK u ∈ (addAll [] (pkeys ads us)).map (·.2) ↔ u ∈ us := fun {u} => by
    rw [addAll_iff, pkeys_snd hlen, mem_keys]
    simp
  have hkd : ∀ {H' : Hp}, Kp No H10 H' → ∀ p ∈ addAll [] (pkeys ads us), Kd K H' p := fun k p hp' => by
    rcases addAll_mem hp' with z | z
    · cases z
    · exact pkeys_kd (hp10.keep0 k) p z
  have item : ∀ (i : Nat) (v : V), ([.non] ++ ads.map V.ref)[i]? = some v → ∃ u : Option Two, (none :: us.map some)[i]? = some u ∧ (∀ t, u = some t → Sized N M t) ∧ ∀ {H' : Hp}, Kp No H10 H' → PairV K H' v u := by
    intro i v hv
    cases i with
    | zero => cases hv; exact ⟨none, rfl, fun t e => (by cases e), fun _ => .inl ⟨rfl, rfl⟩⟩
    | succ i =>
      replace hv : (ads.map V.ref)[i]? = some v := hv
      rw [List.getElem?_map, Option.map_eq_some_iff] at hv
      obtain ⟨ad, had, rfl⟩ := hv
      have hi : i < us.length := by rw [← hlen]; exact (List.getElem?_eq_some_iff.mp had).1
      have hu : us[i]? = some us[i] := List.getElem?_eq_getElem hi
      refine ⟨some us[i], by rw [List.getElem?_cons_succ, List.getElem?_map, hu]; rfl, fun t e => by cases e; exact hs _ (List.mem_of_getElem? hu), fun k => .inr ⟨ad, _, rfl, rfl, (hp10.row i ad _ had hu).keep0 k⟩⟩
  walk_at "go"
  refine fr_l ([.non] ++ ads.map V.ref) (fun i σ H' => ∃ (o5 o7 o8 o9 : Option V), σ = [some (.ref a1.p), some (.ref a2.p), some (.ref b), some (.ref a.x), some (.ref dk), o5, some (.ref F), o7, o8, o9] ∧ Kp No H10 H' ∧ ∀ j, j < i → ∀ u, (none :: us.map some)[j]? = some u → GoodU N M us u) ⟨_, _, _, _, rfl, .refl _, fun j hj => by omega⟩ (fun i σ H' _ z => ?_) ?_ ?_
  · obtain ⟨o5, o7, o8, o9, rfl, k11, _⟩ := z
    exact SqL.of (k11.at0 hpl10)
  · rintro i v σ H11 hv ⟨o5, o7, o8, o9, rfl, k11, done⟩
    obtain ⟨u, hu, hsz, hpv⟩ := item i v hv
    have hF11 := k11.at0 hF10
    walk_at "go"
    refine fr_l (lads.map V.ref) (fun i2 σ H' => ∃ (o7 o8 o9 : Option V), σ = [some (.ref a1.p), some (.ref a2.p), some (.ref b), some (.ref a.x), some (.ref dk), some v, some (.ref F), o7, o8, o9] ∧ Kp No H10 H' ∧ ∀ j, j < i2 → ∀ bits, (letsP L)[j]? = some bits → sameD N M u bits = true ∧ nextD N M u bits ∈ us) ⟨_, _, _, rfl, k11, fun j hj => by omega⟩ (fun i2 σ H' _ z => ?_) ?_ ?_
    · obtain ⟨o7, o8, o9, rfl, k12, _⟩ := z
      exact SqL.of (k12.at0 hF10)
    · rintro i2 y σ H12 hy ⟨o7, o8, o9, rfl, k12, done2⟩
      rw [List.getElem?_map, Option.map_eq_some_iff] at hy
      obtain ⟨lad, hlad, rfl⟩ := hy
      have hi2 : i2 < (letsP L).length := by rw [← hlets.len]; exact (List.getElem?_eq_some_iff.mp hlad).1
      obtain ⟨bits, hbits⟩ : ∃ bits, (letsP L)[i2]? = some bits := ⟨_, List.getElem?_eq_getElem hi2⟩
      have hlm := List.mem_of_getElem? hbits
      have hP12 := hP10.keep0 k12
      have ob12 := hP12.ob
      have isl : IsLetN N M bits := (isLet_iff hL bits).mp ((mem_lets h8 bits).mp hlm)
      walk_at "go"
      refine ⟨a, N, M, L, u, lad, bits, rfl, rfl, rfl, hP12, okN, okM, hpv k12, hsz, (hl10.keep0 k12).row i2 lad bits hlad hbits, isl.1, fun p qa H13 hp13 hq13 k13 => ?_⟩
      have umem : u ∈ none :: us.map some := List.mem_of_getElem? hu
      cases hsame : sameD N M u bits with
      | false =>
        rw [hsame] at hp13
        walk_at "go"
        refine q false _ ⟨fun z => (by cases z), fun z => ?_⟩ (k010.trans (k12.trans k13))
        have := (z u umem bits isl).1
        rw [hsame] at this
        cases this
      | true =>
        rw [hsame] at hp13
        have hdk13 := (k12.trans k13).at0 hdk10
        walk_at "go"
        refine ⟨(qa, twoK (nextD N M u bits)), dk, addAll [] (pkeys ads us), rfl, rfl, hq13.kd, hdk13, hkd (k12.trans k13), ?_⟩
        rw [if_pos rfl]
        walk_at "go"
        by_cases hm : nextD N M u bits ∈ us
        · refine x_no (by rw [decide_eq_true (hkeys.mpr hm)]; rfl) ?_
          walk_at "go"
          refine ⟨_, _, _, rfl, k12.trans k13, fun j hj bs hbs => ?_⟩
          rcases Nat.lt_or_ge j i2 with z | z
          · exact done2 j z bs hbs
          · obtain rfl : j = i2 := by omega
            rw [hbits] at hbs
            cases hbs
            exact ⟨hsame, hm⟩
        · refine x_yes (by rw [decide_eq_false (fun z => hm (hkeys.mp z))]; rfl) ?_
          walk_at "go"
          exact q false _ ⟨fun z => (by cases z), fun z => absurd (z u umem bits isl).2 hm⟩ (k010.trans (k12.trans k13))
    · rintro σ H12 ⟨o7, o8, o9, rfl, k12, done2⟩
      rw [List.length_map, hlets.len] at done2
      walk_at "go"
      refine ⟨_, _, _, _, rfl, k12, fun j hj u2 hu2 => ?_⟩
      rcases Nat.lt_or_ge j i with z | z
      · exact done j z u2 hu2
      · obtain rfl : j = i := by omega
        rw [hu] at hu2
        cases hu2
        intro bits hb2
        obtain ⟨j2, hj2⟩ := List.getElem?_of_mem ((mem_lets h8 bits).mpr ((isLet_iff hL bits).mpr hb2))
        exact done2 j2 (List.getElem?_eq_some_iff.mp hj2).1 bits hj2
  · rintro σ H11 ⟨o5, o7, o8, o9, rfl, k11, done⟩
    walk_at "go"
    refine q true _ ⟨fun _ u hu => ?_, fun _ => rfl⟩ (k010.trans k11)
    obtain ⟨j, hj⟩ := List.getElem?_of_mem hu
    have := (List.getElem?_eq_some_iff.mp hj).1
    exact done j (by simp at this ⊢; omega) u hj
end
end K7
namespace K7
open PySem PySem.Spec PyProof.Rows L2 B N7
/-! ### the draws: only their bounds are told -/
structure RowAt (K : PySem.W.Frag) (H : Hp) (r sc : Addr) (ns : List Int) : Prop where
  row : ∃ i seed rest : Int, H r = some (.lst [.ref sc, .int i, .int seed, .int rest]) ∧ 0 ≤ i ∧ 0 ≤ seed ∧ seed < 2147483647 ∧ 0 ≤ rest
  scr : SqL K H sc (ns.map V.int)
section
variable {P : Program} {w : World} {K : PySem.W.Frag} {mg : Str → Option Value} {base : Heap} {d : Ads} {C : Addr} {H H' : Hp} {r sc : Addr} {ns : List Int}
theorem RowAt.ne (R : RowAt K H r sc ns) : Rd H sc (.lst (ns.map V.int)) → sc ≠ r := by
  obtain ⟨i, seed, rest, h, _⟩ := R.row
  rintro (e | ⟨o, e⟩) z
  · rw [z, h] at e
    have e := Option.some.inj e
    injection e with e
    cases ns with
    | nil => cases e
    | cons n t => simp only [List.map_cons, List.cons.injEq] at e; cases e.1
  · rw [z, h] at e; cases e
theorem RowAt.scr' (R : RowAt K H r sc ns) (k : Kp (fun a => a = r) H H') : SqL K H' sc (ns.map V.int) := by
  rcases R.scr with h | h
  · exact .inl (k.rd (R.ne h) h)
  · exact .inr h
theorem RowAt.keep {M : Addr → Prop} (R : RowAt K H r sc ns) (k : Kp M H H') (n1 : ¬ M r) (n2 : ∀ o, H sc = some o → ¬ M sc) : RowAt K H' r sc ns := by
  obtain ⟨i, seed, rest, h, q⟩ := R.row
  refine ⟨⟨i, seed, rest, k.at h n1, q⟩, ?_⟩
  rcases R.scr with (h | ⟨o, h⟩) | h
  · exact .inl (.inl (k.at h (n2 _ h)))
  · exact .inl (.inr ⟨o, k.at h (n2 _ h)⟩)
  · exact .inr h
theorem RowAt.keep0 (R : RowAt K H r sc ns) (k : Kp No H H') : RowAt K H' r sc ns := R.keep k (fun z => z) fun _ _ z => z
def pTaken (K : PySem.W.Frag) : V → V → Hp → VK → XK → Prop := fun a b H Q _ => ∃ (r sc : Addr) (ns : List Int) (n : Nat), a = .ref r ∧ b = nt n ∧ 1 ≤ n ∧ n < 1073741824 ∧ RowAt K H r sc ns ∧
  ∀ (v : Nat) H', v < n → RowAt K H' r sc ns → Kp (fun a => a = r) H H' → Q (nt v) H'
theorem ok_taken (G : Txt K w mg d) (D : Df K mg "_law_taken" s_law_taken ["_law_row", "_law_many"]) : Cal P w K mg base CX0 1 "_law_taken" (sp2 (pTaken K)) := by
  refine cal0 D sc_law_taken rfl fun f cdv A outer s0 H vs Q E hr h => ?_
  obtain ⟨_, _, rfl, r, sc, ns, n, rfl, rfl, h1, h2, R, q⟩ := h
  refine ⟨_, (pss_cons (ps_if (pt_cmpR op_gt (pe_ix (ixL K) (pv 0) pe_int (fun _ _ => rfl)) pe_int (nomark _))
      (pss_cons (ps_set (i := 2) sc_law_taken.nd rfl (Or.inl rfl) (pe_op op_mod (pe_ix (ixL K) (pv 0) pe_int (fun _ _ => rfl)) (pv 1)))
      (pss_cons (ps_asg (pe_op op_fdiv (pe_ix (ixL K) (pv 0) pe_int (fun _ _ => rfl)) (pv 1)) (pg_sub (pv 0) pe_int set_list))
      (pss_one (ps_ret (pv 2)))))
      pss_nil)
    (pss_cons (ps_asg (pe_op op_add (pe_ix (ixL K) (pv 0) pe_int (fun _ _ => rfl)) pe_int) (pg_sub (pv 0) pe_int set_list))
    (pss_cons (ps_if (pt_cmpR op_gt (pe_ix (ixL K) (pv 0) pe_int (fun _ _ => rfl)) (pe_callB (lenS K) (by rfl) G.n_len (by decide +kernel) (pa_cons (pe_ix (ixL K) (pv 0) pe_int (fun _ _ => rfl)) pa_nil)) (nomark _))
      (pss_cons (ps_asg (pe_op op_mod (pe_op op_add (pe_op op_mul (pe_ix (ixL K) (pv 0) pe_int (fun _ _ => rfl)) pe_int) pe_int) pe_int) (pg_sub (pv 0) pe_int set_list))
      (pss_one (ps_ret (pe_op op_mod (pe_op op_fdiv (pe_ix (ixL K) (pv 0) pe_int (fun _ _ => rfl)) pe_int) (pv 1)))))
      pss_nil)
    (pss_cons (ps_set (i := 3) sc_law_taken.nd rfl (Or.inl rfl) (pe_ix (ixL K) (pe_ix (ixL K) (pv 0) pe_int (fun _ _ => rfl)) (pe_op op_sub (pe_ix (ixL K) (pv 0) pe_int (fun _ _ => rfl)) pe_int) (fun _ _ => rfl)))
    (pss_cons (ps_asg (pe_op op_mod (pe_op op_add (pe_op op_add (pe_op op_mul (pe_ix (ixL K) (pv 0) pe_int (fun _ _ => rfl)) pe_int) (pv 3)) pe_int) pe_int) (pg_sub (pv 0) pe_int set_list))
    (pss_cons (ps_if (pt_cmpR op_ge (pv 3) (pe_op op_pow pe_int pe_int) (nomark _))
      (pss_one (ps_asg (pe_op op_fdiv (pv 3) (pv 1)) (pg_sub (pv 0) pe_int set_list)))
      pss_nil)
    (pss_one (ps_ret (pe_op op_mod (pv 3) (pv 1)))))))))), ?_⟩
  refine B.x_start (σ' := [some (.ref r), some (nt n), none, none]) rfl ?_
  obtain ⟨i, seed, rest, h, hi, hs, hs2, hrest⟩ := R.row
  have ret : ∀ (x : Int) (i2 seed2 rest2 : Int), 0 ≤ i2 → 0 ≤ seed2 → seed2 < 2147483647 → 0 ≤ rest2 → ∀ H1, H1 r = some (.lst [.ref sc, .int i2, .int seed2, .int rest2]) → Kp (fun a => a = r) H H1 → Q (.int (x % (n : Int))) H1 := by
    intro x i2 seed2 rest2 a1 a2 a3 a4 H1 e k
    have b1 := Int.emod_nonneg x (show (n : Int) ≠ 0 by omega)
    have b2 := Int.emod_lt_of_pos x (show (0 : Int) < n by omega)
    have q := q (x % (n : Int)).toNat H1 (by omega) ⟨⟨i2, seed2, rest2, e, a1, a2, a3, a4⟩, R.scr' k⟩ k
    rw [show nt (x % (n : Int)).toNat = V.int (x % (n : Int)) by show V.int _ = _; rw [Int.toNat_of_nonneg b1]] at q
    exact q
  walk_at "go"
  refine x_ite (fun e => ?_) (fun e => ?_)
  · walk_at "go"
    refine x_setL h (j := 3) rfl ?_
    walk_at "go"
    exact ret _ i seed (rest / n) hi hs hs2 (Int.ediv_nonneg hrest (by omega)) _ upd_same (.set rfl)
  · walk_at "go"
    refine x_setL h (j := 1) rfl ?_
    have R1 : RowAt K (upd H r (.lst [.ref sc, .int (i + 1), .int seed, .int rest])) r sc ns := ⟨⟨i + 1, seed, rest, upd_same, by omega, hs, hs2, hrest⟩, R.scr' (.set rfl)⟩
    have hsc := R1.scr
    have kr : ∀ {A : Hp} {o : HO}, Kp (fun a => a = r) H A → Kp (fun a => a = r) H (upd A r o) := fun k => k.trans (.set rfl)
    walk_at "go"
    rw [List.length_map]
    have m1 := fun x : Int => Int.emod_nonneg x (show (2147483647 : Int) ≠ 0 by decide)
    have m2 := fun x : Int => Int.emod_lt_of_pos x (show (0 : Int) < 2147483647 by decide)
    refine x_ite (fun e => ?_) (fun e => ?_)
    · walk_at "go"
      refine x_setL upd_same (j := 2) rfl ?_
      walk_at "go"
      exact ret _ (i + 1) _ rest (by omega) (m1 _) (m2 _) hrest _ upd_same (kr (kr (.refl H)))
    · have hlt : i.toNat < ns.length := by simp at e; omega
      have ec : atI (ns.map V.int) (i + 1 - 1) = some (.int ns[i.toNat]) := by
        rw [show i + 1 - 1 = ((i.toNat : Nat) : Int) by omega]
        exact atI_nat (by rw [List.getElem?_map, List.getElem?_eq_getElem hlt]; rfl)
      walk_at "go"
      refine x_setL upd_same (j := 2) rfl ?_
      walk_at "go"
      refine x_ite (fun e2 => ?_) (fun e2 => ?_)
      · have hc : 0 ≤ ns[i.toNat] := by simp at e2; omega
        walk_at "go"
        refine x_setL upd_same (j := 3) rfl ?_
        walk_at "go"
        exact ret _ (i + 1) _ (ns[i.toNat] / n) (by omega) (m1 _) (m2 _) (Int.ediv_nonneg hc (by omega)) _ upd_same (kr (kr (kr (.refl H))))
      · walk_at "go"
        exact ret _ (i + 1) _ rest (by omega) (m1 _) (m2 _) hrest _ upd_same (kr (kr (.refl H)))
/-! a draw from a written list by a draw -/
def pLoop (K : PySem.W.Frag) : V → Hp → VK → XK → Prop := fun a H Q _ => ∃ (r sc : Addr) (ns : List Int), a = .ref r ∧ RowAt K H r sc ns ∧ ∀ (v : Nat) H', v < 8 → RowAt K H' r sc ns → Kp (fun a => a = r) H H' → Q (nt v) H'
theorem ok_loop (G : Txt K w mg d) (D : Df K mg "_law_loop" s_law_loop ["_law_row"]) (c_law_taken : Cal P w K mg base CX0 1 "_law_taken" (sp2 (pTaken K))) : Cal P w K mg base CX0 2 "_law_loop" (sp1 (pLoop K)) := by
  refine cal0 D sc_law_loop rfl fun f cdv A outer s0 H vs Q E hr h => ?_
  obtain ⟨_, rfl, r, sc, ns, rfl, R, q⟩ := h
  refine ⟨_, (pss_one (ps_ret (pe_c c_law_taken hr (by first | decide | omega) (by rfl) pass0 (pa_cons (pv 0) (pa_cons (pe_ix (ixL K) (pe_lst (pa_cons pe_int (pa_cons pe_int (pa_cons pe_int pa_nil)))) (pe_c c_law_taken hr (by first | decide | omega) (by rfl) pass0 (pa_cons (pv 0) (pa_cons pe_int pa_nil))) (fun _ _ => rfl)) pa_nil))))), ?_⟩
  refine B.x_start (σ' := [some (.ref r)]) rfl ?_
  walk_at "go"
  intro l hl
  have kl : Kp No H (upd H l (.lst [.int 4, .int 4, .int 8])) := .new hl
  have lr : l ≠ r := fun z => by obtain ⟨_, _, _, h, _⟩ := R.row; rw [z, h] at hl; cases hl
  walk_at "go"
  refine ⟨r, sc, ns, 3, rfl, rfl, by decide, by decide, R.keep0 kl, fun v H1 hv R1 k1 => ?_⟩
  have hl1 := k1.at (a := l) upd_same lr
  obtain ⟨m, hm, em⟩ : ∃ m : Nat, atI [V.int 4, .int 4, .int 8] (v : Int) = some (nt m) ∧ 1 ≤ m ∧ m ≤ 8 := by
    match v, hv with
    | 0, _ => exact ⟨4, rfl, by decide⟩
    | 1, _ => exact ⟨4, rfl, by decide⟩
    | 2, _ => exact ⟨8, rfl, by decide⟩
  walk_at "go"
  refine ⟨r, sc, ns, m, rfl, rfl, em.1, by omega, R1, fun v2 H2 hv2 R2 k2 => ?_⟩
  exact q v2 H2 (by omega) R2 ((kl.of0.trans k1).trans k2)
def pConstant (K : PySem.W.Frag) : V → Hp → VK → XK → Prop := fun a H Q _ => ∃ (r sc : Addr) (ns : List Int), a = .ref r ∧ RowAt K H r sc ns ∧ ∀ (v : Nat) H', v < 16777216 → RowAt K H' r sc ns → Kp (fun a => a = r) H H' → Q (nt v) H'
theorem ok_constant (G : Txt K w mg d) (D : Df K mg "_law_constant" s_law_constant ["_law_row"]) (c_law_taken : Cal P w K mg base CX0 1 "_law_taken" (sp2 (pTaken K))) : Cal P w K mg base CX0 2 "_law_constant" (sp1 (pConstant K)) := by
  refine cal0 D sc_law_constant rfl fun f cdv A outer s0 H vs Q E hr h => ?_
  obtain ⟨_, rfl, r, sc, ns, rfl, R, q⟩ := h
  refine ⟨_, (pss_cons (ps_set (i := 1) sc_law_constant.nd rfl (Or.inl rfl) (pe_lst (pa_cons (pe_c c_law_taken hr (by first | decide | omega) (by rfl) pass0 (pa_cons (pv 0) (pa_cons pe_int pa_nil))) (pa_cons (pe_c c_law_taken hr (by first | decide | omega) (by rfl) pass0 (pa_cons (pv 0) (pa_cons pe_int pa_nil))) (pa_cons (pe_c c_law_taken hr (by first | decide | omega) (by rfl) pass0 (pa_cons (pv 0) (pa_cons pe_int pa_nil))) (pa_cons pe_int (pa_cons (pe_op op_shl pe_int (pe_c c_law_taken hr (by first | decide | omega) (by rfl) pass0 (pa_cons (pv 0) (pa_cons pe_int pa_nil)))) pa_nil)))))))
    (pss_one (ps_ret (pe_ix (ixL K) (pv 1) (pe_c c_law_taken hr (by first | decide | omega) (by rfl) pass0 (pa_cons (pv 0) (pa_cons pe_int pa_nil))) (fun _ _ => rfl))))), ?_⟩
  refine B.x_start (σ' := [some (.ref r), none]) rfl ?_
  walk_at "go"
  refine ⟨r, sc, ns, 4, rfl, rfl, by decide, by decide, R, fun v1 H1 hv1 R1 k1 => ?_⟩
  walk_at "go"
  refine ⟨r, sc, ns, 300, rfl, rfl, by decide, by decide, R1, fun v2 H2 hv2 R2 k2 => ?_⟩
  walk_at "go"
  refine ⟨r, sc, ns, 16777216, rfl, rfl, by decide, by decide, R2, fun v3 H3 hv3 R3 k3 => ?_⟩
  walk_at "go"
  refine ⟨r, sc, ns, 24, rfl, rfl, by decide, by decide, R3, fun v4 H4 hv4 R4 k4 => ?_⟩
  walk_at "go"
  intro l hl
  have lr : l ≠ r := fun z => by obtain ⟨_, _, _, h, _⟩ := R4.row; rw [z, h] at hl; cases hl
  have kl : Kp No H4 (upd H4 l (.lst [nt v1, nt v2, nt v3, .int 16777215, .int (1 * 2 ^ ((v4 : Nat) : Int).toNat)])) := .new hl
  walk_at "go"
  refine ⟨r, sc, ns, 5, rfl, rfl, by decide, by decide, R4.keep0 kl, fun v5 H5 hv5 R5 k5 => ?_⟩
  have hl5 := k5.at (a := l) upd_same lr
  have hp : 2 ^ v4 < 16777216 := Nat.lt_of_lt_of_le (Nat.pow_lt_pow_right (by decide) hv4) (by decide)
  obtain ⟨m, hm, em⟩ : ∃ m : Nat, atI [nt v1, nt v2, nt v3, .int 16777215, .int (1 * 2 ^ ((v4 : Nat) : Int).toNat)] (v5 : Int) = some (nt m) ∧ m < 16777216 := by
    match v5, hv5 with
    | 0, _ => exact ⟨v1, rfl, by omega⟩
    | 1, _ => exact ⟨v2, rfl, by omega⟩
    | 2, _ => exact ⟨v3, rfl, hv3⟩
    | 3, _ => exact ⟨16777215, rfl, by decide⟩
    | 4, _ => exact ⟨2 ^ v4, (by rw [Int.toNat_natCast, Int.one_mul, show (2 : Int) ^ v4 = ((2 ^ v4 : Nat) : Int) by simp]; rfl), hp⟩
  walk_at "go"
  exact q m H5 em R5 ((((k1.trans k2).trans k3).trans k4).trans (kl.of0.trans k5))
end
section
variable {P : Program} {w : World} {K : PySem.W.Frag} {mg : Str → Option Value} {base : Heap} {d : Ads} {C : Addr} {H H' : Hp} {r sc : Addr} {ns : List Int}
theorem RowAt.new (R : RowAt K H r sc ns) {l : Addr} (h : H l = none) : l ≠ r := fun z => by obtain ⟨_, _, _, e, _⟩ := R.row; rw [z, e] at h; cases h
abbrev KR (r : Addr) : Hp → Hp → Prop := Kp (fun a => a = r)
def pPlain (K : PySem.W.Frag) : V → Hp → VK → XK → Prop := fun a H Q _ => ∃ (r sc : Addr) (ns : List Int), a = .ref r ∧ RowAt K H r sc ns ∧ ∀ (t : Addr) (i : Ins) H', i.str (fun _ => True) → H' t = some (.tup i.vals) → RowAt K H' r sc ns → KR r H H' → Q (.ref t) H'
theorem ok_plain (G : Txt K w mg d) (D : Df K mg "_law_plain" s_law_plain ["_law_row"]) (c_law_taken : Cal P w K mg base CX0 1 "_law_taken" (sp2 (pTaken K))) (c_law_loop : Cal P w K mg base CX0 2 "_law_loop" (sp1 (pLoop K)))
    (c_law_constant : Cal P w K mg base CX0 2 "_law_constant" (sp1 (pConstant K))) : Cal P w K mg base CX0 3 "_law_plain" (sp1 (pPlain K)) := by
  refine cal0 D sc_law_plain rfl fun f cdv A outer s0 H vs Q E hr h => ?_
  obtain ⟨_, rfl, r, sc, ns, rfl, R, q⟩ := h
  refine ⟨_, (pss_cons (ps_set (i := 1) sc_law_plain.nd rfl (Or.inl rfl) (pe_c c_law_taken hr (by first | decide | omega) (by rfl) pass0 (pa_cons (pv 0) (pa_cons pe_int pa_nil))))
    (pss_cons (ps_if (pt_cmpR op_lt (pv 1) pe_int (nomark _))
      (pss_one (ps_ret (pe_tup (pa_cons pe_str (pa_cons (pe_c c_law_loop hr (by first | decide | omega) (by rfl) pass0 (pa_cons (pv 0) pa_nil)) (pa_cons (pe_c c_law_constant hr (by first | decide | omega) (by rfl) pass0 (pa_cons (pv 0) pa_nil)) pa_nil))))))
      pss_nil)
    (pss_cons (ps_if (pt_cmpR op_lt (pv 1) pe_int (nomark _))
      (pss_one (ps_ret (pe_tup (pa_cons (pe_ix (ixL K) (pe_lst (pa_cons pe_str (pa_cons pe_str (pa_cons pe_str pa_nil)))) (pe_op op_sub (pv 1) pe_int) (fun _ _ => rfl)) (pa_cons (pe_c c_law_loop hr (by first | decide | omega) (by rfl) pass0 (pa_cons (pv 0) pa_nil)) (pa_cons (pe_c c_law_loop hr (by first | decide | omega) (by rfl) pass0 (pa_cons (pv 0) pa_nil)) pa_nil))))))
      pss_nil)
    (pss_cons (ps_if (pt_cmpR op_lt (pv 1) pe_int (nomark _))
      (pss_one (ps_ret (pe_tup (pa_cons (pe_ix (ixL K) (pe_lst (pa_cons pe_str (pa_cons pe_str (pa_cons pe_str (pa_cons pe_str (pa_cons pe_str pa_nil)))))) (pe_op op_sub (pv 1) pe_int) (fun _ _ => rfl)) (pa_cons (pe_c c_law_loop hr (by first | decide | omega) (by rfl) pass0 (pa_cons (pv 0) pa_nil)) (pa_cons (pe_c c_law_loop hr (by first | decide | omega) (by rfl) pass0 (pa_cons (pv 0) pa_nil)) (pa_cons (pe_c c_law_loop hr (by first | decide | omega) (by rfl) pass0 (pa_cons (pv 0) pa_nil)) pa_nil)))))))
      pss_nil)
    (pss_one (ps_ret (pe_tup (pa_cons (pe_ix (ixL K) (pe_lst (pa_cons pe_str (pa_cons pe_str pa_nil))) (pe_op op_sub (pv 1) pe_int) (fun _ _ => rfl)) (pa_cons (pe_c c_law_taken hr (by first | decide | omega) (by rfl) pass0 (pa_cons (pv 0) (pa_cons pe_int pa_nil))) (pa_cons (pe_c c_law_loop hr (by first | decide | omega) (by rfl) pass0 (pa_cons (pv 0) pa_nil)) (pa_cons (pe_c c_law_loop hr (by first | decide | omega) (by rfl) pass0 (pa_cons (pv 0) pa_nil)) pa_nil))))))))))), ?_⟩
  refine B.x_start (σ' := [some (.ref r), none]) rfl ?_
  walk_at "go"
  refine ⟨r, sc, ns, 12, rfl, rfl, by decide, by decide, R, fun way H1 hway R1 k1 => ?_⟩
  walk_at "go"
  refine x_ite (fun e => ?_) (fun e => ?_)
  · walk_at "go"
    refine ⟨r, sc, ns, rfl, R1, fun a H2 ha R2 k2 => ?_⟩
    walk_at "go"
    refine ⟨r, sc, ns, rfl, R2, fun b H3 hb R3 k3 => ?_⟩
    walk_at "go"
    intro t ht
    exact q t (.put a b) _ ⟨⟨ha, trivial⟩, hb⟩ upd_same (R3.keep0 (.new ht)) (((k1.trans k2).trans k3).trans (.new ht))
  walk_at "go"
  refine x_ite (fun e2 => ?_) (fun e2 => ?_)
  · walk_at "go"
    intro l hl
    have kl : Kp No H1 (upd H1 l (.lst [.str "move", .str "not", .str "twice"])) := .new hl
    obtain ⟨o, ho2, ho⟩ : ∃ o : O1, o ≠ .half ∧ atI [V.str "move", .str "not", .str "twice"] ((way : Int) - 2) = some (.str o.nm) := by
      have h1 : ¬ way < 2 := by simp at e; omega
      have h2 : way < 5 := by simp at e2; omega
      match way, h1, h2 with
      | 2, _, _ => exact ⟨.move, (by intro z; cases z), rfl⟩
      | 3, _, _ => exact ⟨.inv, (by intro z; cases z), rfl⟩
      | 4, _, _ => exact ⟨.twice, (by intro z; cases z), rfl⟩
    walk_at "go"
    refine ⟨r, sc, ns, rfl, R1.keep0 kl, fun a H2 ha R2 k2 => ?_⟩
    walk_at "go"
    refine ⟨r, sc, ns, rfl, R2, fun b H3 hb R3 k3 => ?_⟩
    walk_at "go"
    intro t ht
    exact q t (.one o a b) _ ⟨ho2, ⟨ha, trivial⟩, hb, trivial⟩ upd_same (R3.keep0 (.new ht)) ((((k1.trans kl.of0).trans k2).trans k3).trans (.new ht))
  walk_at "go"
  refine x_ite (fun e3 => ?_) (fun e3 => ?_)
  · walk_at "go"
    intro l hl
    have kl : Kp No H1 (upd H1 l (.lst [.str "add", .str "take", .str "and", .str "or", .str "odd"])) := .new hl
    obtain ⟨o, ho⟩ : ∃ o : O2, atI [V.str "add", .str "take", .str "and", .str "or", .str "odd"] ((way : Int) - 5) = some (.str o.nm) := by
      have h1 : ¬ way < 5 := by simp at e2; omega
      have h2 : way < 10 := by simp at e3; omega
      match way, h1, h2 with
      | 5, _, _ => exact ⟨.add, rfl⟩
      | 6, _, _ => exact ⟨.take, rfl⟩
      | 7, _, _ => exact ⟨.and, rfl⟩
      | 8, _, _ => exact ⟨.or, rfl⟩
      | 9, _, _ => exact ⟨.odd, rfl⟩
    walk_at "go"
    refine ⟨r, sc, ns, rfl, R1.keep0 kl, fun a H2 ha R2 k2 => ?_⟩
    walk_at "go"
    refine ⟨r, sc, ns, rfl, R2, fun b H3 hb R3 k3 => ?_⟩
    walk_at "go"
    refine ⟨r, sc, ns, rfl, R3, fun c H4 hc R4 k4 => ?_⟩
    walk_at "go"
    intro t ht
    exact q t (.two o a b c) _ ⟨⟨ha, trivial⟩, ⟨hb, trivial⟩, hc, trivial⟩ upd_same (R4.keep0 (.new ht)) (((((k1.trans kl.of0).trans k2).trans k3).trans k4).trans (.new ht))
  walk_at "go"
  intro l hl
  have kl : Kp No H1 (upd H1 l (.lst [.str "less", .str "same"])) := .new hl
  have hw : way = 10 ∨ way = 11 := by simp at e3; omega
  have ho : atI [V.str "less", .str "same"] ((way : Int) - 10) = some (.str (if way = 10 then "less" else "same")) := by
    rcases hw with rfl | rfl <;> rfl
  walk_at "go"
  refine ⟨r, sc, ns, 4, rfl, rfl, by decide, by decide, R1.keep0 kl, fun a H2 ha R2 k2 => ?_⟩
  walk_at "go"
  refine ⟨r, sc, ns, rfl, R2, fun b H3 hb R3 k3 => ?_⟩
  walk_at "go"
  refine ⟨r, sc, ns, rfl, R3, fun c H4 hc R4 k4 => ?_⟩
  walk_at "go"
  intro t ht
  have kk := ((((k1.trans kl.of0).trans k2).trans k3).trans k4).trans (.new (o := .tup [.str (if way = 10 then "less" else "same"), nt a, nt b, nt c]) ht)
  rcases hw with rfl | rfl
  · exact q t (.less a b c) _ ⟨ha, ⟨hb, trivial⟩, hc, trivial⟩ upd_same (R4.keep0 (.new ht)) kk
  · exact q t (.same a b c) _ ⟨ha, ⟨hb, trivial⟩, hc, trivial⟩ upd_same (R4.keep0 (.new ht)) kk
end
end K7
namespace K7
open PySem PySem.Spec PyProof.Rows L2 B N7
theorem Kp.freshM {M N : Addr → Prop} {H H1 H2 : Hp} (k1 : Kp M H H1) (k2 : Kp N H1 H2) (h : ∀ b, N b → M b ∨ H b = none) : Kp M H H2 := fun b o e n => k2 b o (k1 b o e n) fun z => (h b z).elim n fun q => by rw [q] at e; cases e
/-- rows at such addresses -/
structure RwAt (H : Hp) (ads : List Addr) (prog : List Ins) : Prop where
  len : ads.length = prog.length
  row : ∀ (i : Nat) (ad : Addr) (c : Ins), ads[i]? = some ad → prog[i]? = some c → H ad = some (.tup c.vals)
section
variable {H H' : Hp} {M : Addr → Prop}
theorem RwAt.keep {ads : List Addr} {cs : List Ins} (h : RwAt H ads cs) (k : Kp M H H') (n : NoTup M H) : RwAt H' ads cs := ⟨h.len, fun i ad p h1 h2 => Kp.tup k n (h.row i ad p h1 h2)⟩
theorem RwAt.keep0 {ads : List Addr} {cs : List Ins} (h : RwAt H ads cs) (k : Kp No H H') : RwAt H' ads cs := h.keep k .no
theorem RwAt.nil : RwAt H [] [] := ⟨rfl, fun i ad c h1 => by simp at h1⟩
theorem RwAt.append {as bs : List Addr} {ps qs : List Ins} (h1 : RwAt H as ps) (h2 : RwAt H bs qs) : RwAt H (as ++ bs) (ps ++ qs) := by
  refine ⟨by rw [List.length_append, List.length_append, h1.len, h2.len], fun i ad p e1 e2 => ?_⟩
  rcases Nat.lt_or_ge i ps.length with z | z
  · rw [List.getElem?_append_left (by rw [h1.len]; exact z)] at e1
    rw [List.getElem?_append_left z] at e2
    exact h1.row i ad p e1 e2
  · rw [List.getElem?_append_right (by rw [h1.len]; exact z), h1.len] at e1
    rw [List.getElem?_append_right z] at e2
    exact h2.row _ ad p e1 e2
theorem RwAt.one {ad : Addr} {c : Ins} (h : H ad = some (.tup c.vals)) : RwAt H [ad] [c] := by
  refine ⟨rfl, fun i a x h1 h2 => ?_⟩
  cases i with
  | zero => cases h1; cases h2; exact h
  | succ i => simp at h1
theorem RwAt.snoc {ads : List Addr} {cs : List Ins} (h : RwAt H ads cs) {t : Addr} {c : Ins} (ht : H t = some (.tup c.vals)) : RwAt H (ads ++ [t]) (cs ++ [c]) := h.append (.one ht)
end
theorem noTup_lst {H : Hp} {a : Addr} {xs : List V} (h : H a = some (.lst xs)) : NoTup (fun z => z = a) H := fun z e => by rw [e]; exact ⟨fun xs e2 => (by rw [h] at e2; cases e2), fun o xs e2 => (by rw [h] at e2; cases e2)⟩
theorem noTup_or {H : Hp} {M N : Addr → Prop} (h1 : NoTup M H) (h2 : NoTup N H) : NoTup (fun z => M z ∨ N z) H := fun z e => e.elim (h1 z) (h2 z)
theorem RowAt.noTup {K : PySem.W.Frag} {H : Hp} {r sc : Addr} {ns : List Int} (R : RowAt K H r sc ns) : NoTup (fun z => z = r) H := by
  obtain ⟨_, _, _, h, _⟩ := R.row
  exact noTup_lst h
theorem O1.nput (o : O1) : o.nm ≠ "put" := by cases o <;> decide
theorem O2.nput (o : O2) : o.nm ≠ "put" := by cases o <;> decide
theorem RowAt.setF {K : PySem.W.Frag} {H H5 : Hp} {r sc F : Addr} {ns : List Int} {o : HO} (R : RowAt K H r sc ns) (hF : H F = none) (R5 : RowAt K H5 r sc ns) (n : F ≠ r) : RowAt K (upd H5 F o) r sc ns := by
  obtain ⟨i, seed, rest, h, q⟩ := R5.row
  refine ⟨⟨i, seed, rest, by rw [upd_ne n.symm]; exact h, q⟩, ?_⟩
  rcases R.scr with h | h
  · have ns' : sc ≠ F := by
      rintro rfl
      rcases h with h | ⟨o, h⟩ <;> rw [hF] at h <;> cases h
    exact Kp.seqL (Kp.set (M := fun z => z = F) rfl) ns' R5.scr
  · exact .inr h
def few4 (k : Nat) : Nat := if 2 < k then 4 else 2
abbrev S4 : Nat → Prop := fun r => r < 4
section
variable {P : Program} {w : World} {K : PySem.W.Frag} {mg : Str → Option Value} {base : Heap} {d : Ads} {C : Addr} {H H' : Hp} {r sc : Addr} {ns : List Int}
def pFew (K : PySem.W.Frag) : V → Hp → VK → XK → Prop := fun a H Q _ => ∃ (r sc : Addr) (ns : List Int), a = .ref r ∧ RowAt K H r sc ns ∧ ∀ (F : Addr) (ads : List Addr) (prog : List Ins) H', H F = none → H' F = some (.lst (ads.map V.ref)) → RwAt H' ads prog → prog ≠ [] → prog.length ≤ 6 → (∀ i ∈ prog, i.str S4) → RowAt K H' r sc ns → KR r H H' → Q (.ref F) H'
theorem ok_few (G : Txt K w mg d) (D : Df K mg "_law_few" s_law_few ["_law_row"]) (c_law_taken : Cal P w K mg base CX0 1 "_law_taken" (sp2 (pTaken K))) (c_law_plain : Cal P w K mg base CX0 3 "_law_plain" (sp1 (pPlain K))) : Cal P w K mg base CX0 4 "_law_few" (sp1 (pFew K)) := by
  refine cal0 D sc_law_few rfl fun f cdv A outer s0 H vs Q E hr h => ?_
  obtain ⟨_, rfl, r, sc, ns, rfl, R, q⟩ := h
  refine ⟨_, (pss_cons (ps_set (i := 1) sc_law_few.nd rfl (Or.inl rfl) (pe_lst pa_nil))
    (pss_cons (ps_for PassesOwn.never rfl (pi_range1 (by rfl) G.n_range (pa_cons (pe_op op_add pe_int (pe_c c_law_taken hr (by first | decide | omega) (by rfl) pass0 (pa_cons (pv 0) (pa_cons pe_int pa_nil)))) pa_nil)) (pg_name (i := 2) sc_law_few.nd rfl (Or.inr rfl))
      (pss_cons (ps_set (i := 3) sc_law_few.nd rfl (Or.inl rfl) (pe_c c_law_plain hr (by first | decide | omega) (by rfl) pass0 (pa_cons (pv 0) pa_nil)))
      (Evl.pss_cut (ps_if (pt_cmpR (inS K) (pe_ix (ixT K) (pv 3) pe_int (fun _ _ => rfl)) (pe_tup (pa_cons pe_str (pa_cons pe_str pa_nil))) (by rfl))
        (pss_one (ps_set (i := 3) sc_law_few.nd rfl (Or.inl rfl) (pe_tup (pa_cons (pe_ix (ixT K) (pv 3) pe_int (fun _ _ => rfl)) (pa_cons (pe_op op_mod (pe_ix (ixT K) (pv 3) pe_int (fun _ _ => rfl)) pe_int) (pa_cons (pe_op op_mod (pe_ix (ixT K) (pv 3) pe_int (fun _ _ => rfl)) pe_int) (pa_cons (pe_op op_mod (pe_ix (ixT K) (pv 3) pe_int (fun _ _ => rfl)) pe_int) pa_nil)))))))
        (pss_one (ps_if (pt_cmpR op_eq (pe_ix (ixT K) (pv 3) pe_int (fun _ _ => rfl)) pe_str (nomark _))
          (pss_one (ps_set (i := 3) sc_law_few.nd rfl (Or.inl rfl) (pe_tup (pa_cons pe_str (pa_cons (pe_op op_add pe_int (pe_op op_mod (pe_ix (ixT K) (pv 3) pe_int (fun _ _ => rfl)) pe_int)) (pa_cons (pe_op op_mod (pe_ix (ixT K) (pv 3) pe_int (fun _ _ => rfl)) pe_int) pa_nil))))))
          (pss_one (ps_set (i := 3) sc_law_few.nd rfl (Or.inl rfl) (pe_op (N7.catA K) (pe_tup (pa_cons (pe_ix (ixT K) (pv 3) pe_int (fun _ _ => rfl)) (pa_cons (pe_op op_mod (pe_ix (ixT K) (pv 3) pe_int (fun _ _ => rfl)) pe_int) pa_nil))) (pe_callTy (tupOf K) (by rfl) G.n_tuple (by decide +kernel) (pa_cons (pe_lc (own := [("_law_part", 4)]) (g := gName 4) (tt := tYes) rfl sc_law_few.nd (piT K (pe_slice (N7.slA K) (pv 3) (po_some pe_int) po_none)) (blkOk_by (own := [("_law_part", 4)]) (N := N_law_few) (sc := defScope s_law_few) (by decide +kernel)) (fun _ _ _ _ _ => (pg_name (i := 4) sc_law_few.nd rfl (Or.inl rfl))) (fun _ _ _ _ _ => pts_nil) (fun _ _ _ _ _ => (pe_op op_mod (pv 4) (pe_ix (ixL K) (pe_lst (pa_cons pe_int (pa_cons pe_int pa_nil))) (pe_callTy call_int1 (by rfl) G.n_int (by decide +kernel) (pa_cons (pe_cmpR op_gt (pv 2) pe_int (nomark _)) pa_nil)) (fun _ _ => rfl))))) pa_nil))))))))
      (pss_one (ps_expr (bm K PySem.F.plainAttrs_list PySem.F.slot_list_append PySem.F.type_list_append mt_append (pv 1) (pa_cons (pv 3) pa_nil)))))))
    (pss_one (ps_ret (pv 1))))), ?_⟩
  refine B.x_start (σ' := [some (.ref r), none, none, none, none]) rfl ?_
  walk_at "go"
  intro F hF
  have k1 : Kp No H (upd H F (.lst [])) := .new hF
  have hF1 : upd H F (.lst []) F = some (.lst []) := upd_same
  have R1 := R.keep0 k1
  have nFr : F ≠ r := R.new hF
  generalize upd H F (.lst []) = H1 at *
  walk_at "go"
  refine ⟨r, sc, ns, 6, rfl, rfl, by decide, by decide, R1, fun v H2 hv R2 k2 => ?_⟩
  have hF2 := k2.at hF1 nFr
  have k02 : KR r H H2 := k1.of0.trans k2
  walk_at "go"
  rw [show (1 + (v : Int)).toNat = v + 1 by omega]
  refine fr_r (n := v + 1) (fun k σ H' => ∃ (o2 o3 o4 : Option V) (ads : List Addr) (prog : List Ins), σ = [some (.ref r), some (.ref F), o2, o3, o4] ∧ H' F = some (.lst (ads.map V.ref)) ∧ RwAt H' ads prog ∧ prog.length = k ∧ (∀ i ∈ prog, i.str S4) ∧ RowAt K H' r sc ns ∧ Kp (fun z => z = r ∨ z = F) H2 H') ⟨_, _, _, [], [], rfl, hF2, .nil, rfl, (fun i hi => by cases hi), R2, .refl _⟩ ?_ ?_
  · rintro k σ H3 hk ⟨o2, o3, o4, ads, prog, rfl, e1, e2, e3, e4, R3, k3⟩
    walk_at "go"
    refine ⟨r, sc, ns, rfl, R3, fun t i H4 hi ht R4 k4 => ?_⟩
    have e14 := k4.at e1 nFr
    have e24 := e2.keep k4 R3.noTup
    have k34 : Kp (fun z => z = r ∨ z = F) H2 H4 := k3.trans (k4.mono fun _ z => .inl z)
    walk_at "go"
    refine x_cut (fun σ H' => ∃ (o4 : Option V) (t' : Addr) (i' : Ins), σ = [some (.ref r), some (.ref F), some (nt k), some (.ref t'), o4] ∧ H' t' = some (.tup i'.vals) ∧ i'.str S4 ∧ Kp No H4 H') ?_ ?_
    · have z0 : atI i.vals 0 = some (.str i.nm) := atI_nat (j := 0) rfl
      cases i with
      | put a n =>
        obtain ⟨⟨_, _⟩, _⟩ := hi
        walk_at "go"
        intro d1 hd1
        walk_at "go"
        intro p hp
        walk_at "go"
        exact ⟨_, p, .put (2 + a % 2) (n % 16), rfl, upd_same, ⟨⟨by omega, by show _ < 4; omega⟩, by omega⟩, (Kp.new hd1).trans (.new hp)⟩
      | less f p q =>
        walk_at "go"
        intro d1 hd1
        walk_at "go"
        intro p2 hp2
        walk_at "go"
        exact ⟨_, p2, .less (f % 2) (p % 2) (q % 2), rfl, upd_same, ⟨by omega, ⟨by omega, by show _ < 4; omega⟩, by omega, by show _ < 4; omega⟩, (Kp.new hd1).trans (.new hp2)⟩
      | same f p q =>
        walk_at "go"
        intro d1 hd1
        walk_at "go"
        intro p2 hp2
        walk_at "go"
        exact ⟨_, p2, .same (f % 2) (p % 2) (q % 2), rfl, upd_same, ⟨by omega, ⟨by omega, by show _ < 4; omega⟩, by omega, by show _ < 4; omega⟩, (Kp.new hd1).trans (.new hp2)⟩
      | one o a p =>
        have hno : inV (.str (Ins.one o a p).nm) [.str "less", .str "same"] = false := by cases o <;> rfl
        have hnp : (Ins.one o a p).nm ≠ "put" := o.nput
        have z1 : atI (Ins.one o a p).vals 1 = some (nt a) := rfl
        walk_at "go"
        intro d1 hd1
        walk_at "go"
        rw [hno]
        walk_at "go"
        refine x_no (by simp [hnp]) ?_
        have k5 : Kp No H4 (upd H4 d1 (.tup [.str "less", .str "same"])) := .new hd1
        have ht5 := k5.at0 ht
        generalize upd H4 d1 (.tup [.str "less", .str "same"]) = H5 at *
        walk_at "go"
        intro t1 ht1
        have k6 : Kp No H5 (upd H5 t1 (.tup [.str (Ins.one o a p).nm, .int ((a : Int) % 4)])) := .new ht1
        have ht6 := k6.at0 ht5
        have ht16 : upd H5 t1 (.tup [.str (Ins.one o a p).nm, .int ((a : Int) % 4)]) t1 = some (.tup [.str (Ins.one o a p).nm, nt (a % 4)]) := upd_same
        generalize upd H5 t1 (.tup [.str (Ins.one o a p).nm, .int ((a : Int) % 4)]) = H6 at *
        walk_at "go"
        refine x_slA (SqT.of ht6) (fun h => absurd h.1 (show ¬ HT.sIx 3 0 (some 2) = 0 by decide)) fun sl hsl => ?_
        have k7 : Kp No H6 (upd H6 sl (.tup ([p].map nt))) := .new hsl
        have hs7 : upd H6 sl (.tup ([p].map nt)) sl = some (.tup ([p].map nt)) := upd_same
        rw [show cutV (Ins.one o a p).vals (some 2) none = [p].map nt from rfl]
        generalize upd H6 sl (.tup ([p].map nt)) = H7 at *
        walk_at "go"
        refine lc_t ([p].map nt) (fun D j H' => Kp No H7 H' ∧ H' D = some (.lst ((([p].take j).map (· % few4 k)).map nt))) (fun D hD => ⟨.new hD, upd_same⟩) (fun D j H' _ z => SqT.of (z.1.at0 hs7)) ?_ ?_
        · rintro D j y H8 hD hy ⟨k8, g1⟩
          rw [List.getElem?_map, Option.map_eq_some_iff] at hy
          obtain ⟨x, hx, rfl⟩ := hy
          walk_at "go"
          refine ⟨rfl, ?_⟩
          walk_at "go"
          intro l2 hl2
          have k9 : Kp No H8 (upd H8 l2 (.lst [.int 2, .int 4])) := .new hl2
          have ix : atI [V.int 2, .int 4] (if decide ((k : Int) > 2) = true then 1 else 0) = some (nt (few4 k)) := by
            by_cases hk2 : 2 < k
            · rw [if_pos (decide_eq_true (by omega)), few4, if_pos hk2]; rfl
            · rw [if_neg (by rw [decide_eq_false (by omega)]; decide), few4, if_neg hk2]; rfl
          have few0 : 0 < ((few4 k : Nat) : Int) := by unfold few4; split <;> decide
          walk_at "go"
          refine ⟨_, k9.at0 g1, by rw [List.length_map, List.length_map, List.length_take, sizeLine_eq]; have hlr : ([p]).length ≤ 2 := by simp
                                   omega, (k8.trans k9).old hD, ?_⟩
          rw [upd_same, take_one hx, List.map_append, List.map_append]
          rfl
        · rintro D H8 hD ⟨k8, g1⟩
          rw [List.length_map, List.take_length] at g1
          walk_at "go"
          intro t2 ht2
          have k9 : Kp No H6 (upd H8 t2 (.tup (([p].map (· % few4 k)).map nt))) := (k7.trans k8).trans (.new ht2)
          refine x_catP (k9.at0 ht16) (by simp) (SqT.of upd_same) (by simp) fun p2 H10 hp2 k10 => ?_
          walk_at "go"
          have few1 : 0 < few4 k ∧ few4 k ≤ 4 := by unfold few4; split <;> decide
          have fm : ∀ x, x % few4 k < 4 := fun x => Nat.lt_of_lt_of_le (Nat.mod_lt _ few1.1) few1.2
          obtain ⟨ho, _⟩ := hi
          refine ⟨_, p2, .one o (a % 4) (p % few4 k), rfl, hp2, ⟨ho, ⟨by omega, by show _ < 4; omega⟩, by have := fm p; omega, fm p⟩, k5.trans (k6.trans (k9.trans fun x o e _ => k10 x o e))⟩
      | two o a p q =>
        have hno : inV (.str (Ins.two o a p q).nm) [.str "less", .str "same"] = false := by cases o <;> rfl
        have hnp : (Ins.two o a p q).nm ≠ "put" := o.nput
        have z1 : atI (Ins.two o a p q).vals 1 = some (nt a) := rfl
        walk_at "go"
        intro d1 hd1
        walk_at "go"
        rw [hno]
        walk_at "go"
        refine x_no (by simp [hnp]) ?_
        have k5 : Kp No H4 (upd H4 d1 (.tup [.str "less", .str "same"])) := .new hd1
        have ht5 := k5.at0 ht
        generalize upd H4 d1 (.tup [.str "less", .str "same"]) = H5 at *
        walk_at "go"
        intro t1 ht1
        have k6 : Kp No H5 (upd H5 t1 (.tup [.str (Ins.two o a p q).nm, .int ((a : Int) % 4)])) := .new ht1
        have ht6 := k6.at0 ht5
        have ht16 : upd H5 t1 (.tup [.str (Ins.two o a p q).nm, .int ((a : Int) % 4)]) t1 = some (.tup [.str (Ins.two o a p q).nm, nt (a % 4)]) := upd_same
        generalize upd H5 t1 (.tup [.str (Ins.two o a p q).nm, .int ((a : Int) % 4)]) = H6 at *
        walk_at "go"
        refine x_slA (SqT.of ht6) (fun h => absurd h.1 (show ¬ HT.sIx 4 0 (some 2) = 0 by decide)) fun sl hsl => ?_
        have k7 : Kp No H6 (upd H6 sl (.tup ([p, q].map nt))) := .new hsl
        have hs7 : upd H6 sl (.tup ([p, q].map nt)) sl = some (.tup ([p, q].map nt)) := upd_same
        rw [show cutV (Ins.two o a p q).vals (some 2) none = [p, q].map nt from rfl]
        generalize upd H6 sl (.tup ([p, q].map nt)) = H7 at *
        walk_at "go"
        refine lc_t ([p, q].map nt) (fun D j H' => Kp No H7 H' ∧ H' D = some (.lst ((([p, q].take j).map (· % few4 k)).map nt))) (fun D hD => ⟨.new hD, upd_same⟩) (fun D j H' _ z => SqT.of (z.1.at0 hs7)) ?_ ?_
        · rintro D j y H8 hD hy ⟨k8, g1⟩
          rw [List.getElem?_map, Option.map_eq_some_iff] at hy
          obtain ⟨x, hx, rfl⟩ := hy
          walk_at "go"
          refine ⟨rfl, ?_⟩
          walk_at "go"
          intro l2 hl2
          have k9 : Kp No H8 (upd H8 l2 (.lst [.int 2, .int 4])) := .new hl2
          have ix : atI [V.int 2, .int 4] (if decide ((k : Int) > 2) = true then 1 else 0) = some (nt (few4 k)) := by
            by_cases hk2 : 2 < k
            · rw [if_pos (decide_eq_true (by omega)), few4, if_pos hk2]; rfl
            · rw [if_neg (by rw [decide_eq_false (by omega)]; decide), few4, if_neg hk2]; rfl
          have few0 : 0 < ((few4 k : Nat) : Int) := by unfold few4; split <;> decide
          walk_at "go"
          refine ⟨_, k9.at0 g1, by rw [List.length_map, List.length_map, List.length_take, sizeLine_eq]; have hlr : ([p, q]).length ≤ 2 := by simp
                                   omega, (k8.trans k9).old hD, ?_⟩
          rw [upd_same, take_one hx, List.map_append, List.map_append]
          rfl
        · rintro D H8 hD ⟨k8, g1⟩
          rw [List.length_map, List.take_length] at g1
          walk_at "go"
          intro t2 ht2
          have k9 : Kp No H6 (upd H8 t2 (.tup (([p, q].map (· % few4 k)).map nt))) := (k7.trans k8).trans (.new ht2)
          refine x_catP (k9.at0 ht16) (by simp) (SqT.of upd_same) (by simp) fun p2 H10 hp2 k10 => ?_
          walk_at "go"
          have few1 : 0 < few4 k ∧ few4 k ≤ 4 := by unfold few4; split <;> decide
          have fm : ∀ x, x % few4 k < 4 := fun x => Nat.lt_of_lt_of_le (Nat.mod_lt _ few1.1) few1.2
          obtain ⟨_, _⟩ := hi
          refine ⟨_, p2, .two o (a % 4) (p % few4 k) (q % few4 k), rfl, hp2, ⟨⟨by omega, by show _ < 4; omega⟩, ⟨by have := fm p; omega, fm p⟩, by have := fm q; omega, fm q⟩, k5.trans (k6.trans (k9.trans fun x o e _ => k10 x o e))⟩
      | _ => exact hi.elim
    · rintro σ H5 ⟨o4, t', i', rfl, ht', hi', k5⟩
      have e15 := k5.at0 e14
      have e25 := e24.keep0 k5
      have hl : (ads.map V.ref).length < 16777216 := by rw [List.length_map, e25.len]; omega
      walk_at "go"
      have nF5 := noTup_lst e15
      refine ⟨_, _, _, ads ++ [t'], prog ++ [i'], rfl, by rw [upd_same, List.map_append]; rfl, (e25.keep (Kp.set (M := fun z => z = F) rfl) nF5).snoc (Kp.tup (Kp.set (M := fun z => z = F) rfl) nF5 ht'), by simp [e3], fun i hi => ?_, RowAt.setF R hF (R4.keep0 k5) nFr, (k34.trans k5.of0).trans (.set (.inr rfl))⟩
      · rcases List.mem_append.mp hi with z | z
        · exact e4 i z
        · rw [List.mem_singleton] at z; rw [z]; exact hi'
  · rintro σ H3 ⟨o2, o3, o4, ads, prog, rfl, e1, e2, e3, e4, R3, k3⟩
    walk_at "go"
    refine q F ads prog H3 hF e1 e2 (fun z => by rw [z] at e3; simp at e3) (by omega) e4 R3 ?_
    exact Kp.freshM k02 k3 fun b z => z.elim .inl fun z => .inr (by rw [z]; exact hF)
end
end K7
namespace K7
open PySem PySem.Spec PyProof.Rows L2 B N7
abbrev S6 : Nat → Prop := fun r => r < 4 ∨ r = 6 ∨ r = 7
section
variable {H : Hp} {a b c e : Addr} {x y z u : Ins}
theorem rw1 (h1 : H a = some (.tup x.vals)) : RwAt H [a] [x] := RwAt.nil.snoc h1
theorem rw2 (h1 : H a = some (.tup x.vals)) (h2 : H b = some (.tup y.vals)) : RwAt H [a, b] [x, y] := (RwAt.nil.snoc h1).snoc h2
theorem rw3 (h1 : H a = some (.tup x.vals)) (h2 : H b = some (.tup y.vals)) (h3 : H c = some (.tup z.vals)) : RwAt H [a, b, c] [x, y, z] := ((RwAt.nil.snoc h1).snoc h2).snoc h3
theorem rw4 (h1 : H a = some (.tup x.vals)) (h2 : H b = some (.tup y.vals)) (h3 : H c = some (.tup z.vals)) (h4 : H e = some (.tup u.vals)) : RwAt H [a, b, c, e] [x, y, z, u] := (((RwAt.nil.snoc h1).snoc h2).snoc h3).snoc h4
end
def waysOf (a p : Nat) : O1 → List Ins
  | .move => [.two .and a p p, .two .or a p p] | .inv => [.put 6 0, .one .inv 6 6] | _ => []
def pickO (x y z : V) : O1 → V
  | .move => x | .inv => y | _ => z
theorem ways_dict (x y z : V) {o : O1} (ho : o ≠ .half) : valV (mergeK [] [((Sum.inr "move" : L2.Key), x), (Sum.inr "not", y), (Sum.inr "twice", z)]) (Sum.inr o.nm) = some (pickO x y z o) := by
  cases o <;> first | exact absurd rfl ho | rfl
section
variable {P : Program} {w : World} {K : PySem.W.Frag} {mg : Str → Option Value} {base : Heap} {d : Ads} {C : Addr} {H H' : Hp} {r sc : Addr} {ns : List Int}
def pSameL (K : PySem.W.Frag) : V → V → Hp → VK → XK → Prop := fun a b H Q _ => ∃ (r sc : Addr) (ns : List Int) (t : Addr) (i : Ins), a = .ref r ∧ b = .ref t ∧ RowAt K H r sc ns ∧ H t = some (.tup i.vals) ∧ i.str S4 ∧
  ∀ (F : Addr) (ads : List Addr) (prog : List Ins) H', H' F = some (.lst (ads.map V.ref)) → RwAt H' ads prog → prog ≠ [] → prog.length ≤ 4 → (∀ i ∈ prog, i.str S6) → RowAt K H' r sc ns → KR r H H' → Q (.ref F) H'
theorem up_str {i : Ins} (h : i.str S4) : i.str S6 := by
  have up4 : ∀ {x : Nat}, x < 8 ∧ S4 x → x < 8 ∧ S6 x := fun h => ⟨h.1, .inl h.2⟩
  cases i with
  | put a n => exact ⟨up4 h.1, h.2⟩
  | one o a p => exact ⟨h.1, up4 h.2.1, up4 h.2.2⟩
  | two o a p q => exact ⟨up4 h.1, up4 h.2.1, up4 h.2.2⟩
  | less f p q => exact ⟨h.1, up4 h.2.1, up4 h.2.2⟩
  | same f p q => exact ⟨h.1, up4 h.2.1, up4 h.2.2⟩
  | _ => exact h.elim
theorem all1 {x : Ins} {S : Nat → Prop} (h : x.str S) : ∀ i ∈ [x], i.str S := fun i hi => by rw [List.mem_singleton] at hi; rw [hi]; exact h
theorem allc {x : Ins} {l : List Ins} {S : Nat → Prop} (h : x.str S) (hl : ∀ i ∈ l, i.str S) : ∀ i ∈ x :: l, i.str S := fun i hi => by
  rcases List.mem_cons.mp hi with rfl | z
  · exact h
  · exact hl i z
theorem ok_same (G : Txt K w mg d) (D : Df K mg "_law_same" s_law_same ["_law_row", "_law_one"]) (c_law_taken : Cal P w K mg base CX0 1 "_law_taken" (sp2 (pTaken K))) : Cal P w K mg base CX0 2 "_law_same" (sp2 (pSameL K)) := by
  refine cal0 D sc_law_same rfl fun f cdv A outer s0 H vs Q E hr h => ?_
  obtain ⟨_, _, rfl, r, sc, ns, t, i, rfl, rfl, R, ht, hi, q⟩ := h
  refine ⟨_, (pss_cons (ps_set (i := 2) sc_law_same.nd rfl (Or.inl rfl) (pe_ix (ixT K) (pv 1) pe_int (fun _ _ => rfl)))
    (pss_cons (ps_if (pt_cmpR (inS K) (pv 2) (pe_tup (pa_cons pe_str (pa_cons pe_str (pa_cons pe_str pa_nil)))) (by rfl))
      (pss_one (ps_ret (pe_lst (pa_cons (pv 1) pa_nil))))
      pss_nil)
    (pss_cons (ps_par (i := 3) (j := 4) (by rfl) sc_law_same.nd rfl rfl (by decide) rfl rfl (pa_cons (pe_ix (ixT K) (pv 1) pe_int (fun _ _ => rfl)) (pa_cons (pe_ix (ixT K) (pv 1) pe_int (fun _ _ => rfl)) pa_nil)) (by rfl))
    (pss_cons (ps_if (pt_cmpR (inS K) (pv 2) (pe_tup (pa_cons pe_str (pa_cons pe_str (pa_cons pe_str pa_nil)))) (by rfl))
      (Evl.pss_cut (ps_set (i := 5) sc_law_same.nd rfl (Or.inl rfl) (pe_dget (hu_of hr) (pe_disp (pps_cons pe_str (pe_lst (pa_cons (pe_tup (pa_cons pe_str (pa_cons (pv 3) (pa_cons (pv 4) (pa_cons (pv 4) pa_nil))))) (pa_cons (pe_tup (pa_cons pe_str (pa_cons (pv 3) (pa_cons (pv 4) (pa_cons (pv 4) pa_nil))))) pa_nil))) (pps_cons pe_str (pe_lst (pa_cons (pe_tup (pa_cons pe_str (pa_cons pe_int (pa_cons pe_int pa_nil)))) (pa_cons (pe_tup (pa_cons pe_str (pa_cons pe_int (pa_cons pe_int pa_nil)))) pa_nil))) (pps_cons pe_str (pe_lst pa_nil) pps_nil))) (by rfl) (by rfl) (fun z => by cases z) (by decide)) (pv 2) (fun _ _ => rfl)))
      (pss_cons (ps_if (pt_cmpR op_eq (pv 2) pe_str (nomark _))
        (pss_one (ps_ret (pe_op op_cat (pv 5) (pe_lst (pa_cons (pe_tup (pa_cons pe_str (pa_cons (pv 3) (pa_cons pe_int (pa_cons (pv 4) pa_nil))))) pa_nil)))))
        pss_nil)
      (pss_one (ps_ret (pe_ifExp (pt_cmpR op_eq (pv 2) pe_str (nomark _)) (pe_lst (pa_cons (pe_tup (pa_cons pe_str (pa_cons (pv 3) (pa_cons (pv 4) (pa_cons (pv 4) pa_nil))))) pa_nil)) (pe_lst (pa_cons (pe_ix (ixL K) (pv 5) (pe_c c_law_taken hr (by first | decide | omega) (by rfl) pass0 (pa_cons (pv 0) (pa_cons pe_int pa_nil))) (fun _ _ => rfl)) pa_nil)))))))
      pss_nil)
    (pss_cons (ps_set (i := 6) sc_law_same.nd rfl (Or.inl rfl) (pe_ix (ixT K) (pv 1) pe_int (fun _ _ => rfl)))
    (pss_cons (ps_set (i := 7) sc_law_same.nd rfl (Or.inl rfl) (pe_lst (pa_cons (pe_tup (pa_cons pe_str (pa_cons pe_int (pa_cons (pv 4) (pa_cons (pv 6) pa_nil))))) (pa_cons (pe_tup (pa_cons pe_str (pa_cons pe_int (pa_cons (pv 4) (pa_cons (pv 6) pa_nil))))) pa_nil))))
    (pss_cons (ps_if (pt_cmpR op_eq (pv 2) pe_str (nomark _))
      (pss_one (ps_ret (pe_ix (ixL K) (pe_lst (pa_cons (pe_op op_cat (pv 7) (pe_lst (pa_cons (pe_tup (pa_cons pe_str (pa_cons (pv 3) (pa_cons pe_int (pa_cons pe_int pa_nil))))) pa_nil))) (pa_cons (pe_lst (pa_cons (pe_tup (pa_cons pe_str (pa_cons pe_int (pa_cons (pv 4) pa_nil)))) (pa_cons (pe_tup (pa_cons pe_str (pa_cons pe_int (pa_cons pe_int (pa_cons (pv 6) pa_nil))))) (pa_cons (pe_tup (pa_cons pe_str (pa_cons (pv 3) (pa_cons pe_int pa_nil)))) pa_nil)))) pa_nil))) (pe_c c_law_taken hr (by first | decide | omega) (by rfl) pass0 (pa_cons (pv 0) (pa_cons pe_int pa_nil))) (fun _ _ => rfl))))
      pss_nil)
    (pss_cons (ps_if (pt_cmpR op_eq (pv 2) pe_str (nomark _))
      (pss_one (ps_ret (pe_lst (pa_cons (pe_tup (pa_cons pe_str (pa_cons pe_int (pa_cons (pv 4) pa_nil)))) (pa_cons (pe_tup (pa_cons pe_str (pa_cons pe_int (pa_cons pe_int (pa_cons (pv 6) pa_nil))))) (pa_cons (pe_tup (pa_cons pe_str (pa_cons (pv 3) (pa_cons pe_int pa_nil)))) pa_nil))))))
      pss_nil)
    (pss_cons (ps_if (pt_cmpR op_eq (pv 2) pe_str (nomark _))
      (pss_one (ps_ret (pe_op op_cat (pv 7) (pe_lst (pa_cons (pe_tup (pa_cons pe_str (pa_cons (pv 3) (pa_cons pe_int (pa_cons pe_int pa_nil))))) pa_nil)))))
      pss_nil)
    (pss_cons (ps_if (pt_cmpR op_eq (pv 2) pe_str (nomark _))
      (pss_one (ps_ret (pe_lst (pa_cons (pe_tup (pa_cons pe_str (pa_cons pe_int (pa_cons (pv 4) pa_nil)))) (pa_cons (pe_tup (pa_cons pe_str (pa_cons pe_int (pa_cons (pv 6) pa_nil)))) (pa_cons (pe_tup (pa_cons pe_str (pa_cons pe_int (pa_cons pe_int (pa_cons pe_int pa_nil))))) (pa_cons (pe_tup (pa_cons pe_str (pa_cons (pv 3) (pa_cons pe_int pa_nil)))) pa_nil)))))))
      pss_nil)
    (pss_one (ps_ret (pe_lst (pa_cons (pe_tup (pa_cons pe_str (pa_cons pe_int (pa_cons (pv 4) pa_nil)))) (pa_cons (pe_tup (pa_cons pe_str (pa_cons pe_int (pa_cons (pv 6) pa_nil)))) (pa_cons (pe_tup (pa_cons pe_str (pa_cons pe_int (pa_cons pe_int (pa_cons pe_int pa_nil))))) (pa_cons (pe_tup (pa_cons pe_str (pa_cons (pv 3) (pa_cons pe_int pa_nil)))) pa_nil))))))))))))))))), ?_⟩
  refine B.x_start (σ' := [some (.ref r), some (.ref t), none, none, none, none, none, none]) rfl ?_
  have z0 : atI i.vals 0 = some (.str i.nm) := atI_nat (j := 0) rfl
  have up4 : ∀ {x : Nat}, x < 8 ∧ S4 x → x < 8 ∧ S6 x := fun h => ⟨h.1, .inl h.2⟩
  have s6 : (6 < 8 ∧ S6 6) ∧ (7 < 8 ∧ S6 7) := ⟨⟨by decide, .inr (.inl rfl)⟩, by decide, .inr (.inr rfl)⟩
  have fin : ∀ (F : Addr) (ads : List Addr) (prog : List Ins) H', H' F = some (.lst (ads.map V.ref)) → RwAt H' ads prog → prog ≠ [] → prog.length ≤ 4 → (∀ i ∈ prog, i.str S6) → Kp No H H' → Q (.ref F) H' := fun F ads prog H' h1 h2 h3 h4 h5 k => q F ads prog H' h1 h2 h3 h4 h5 (R.keep0 k) k.of0
  have plainR : ∀ {o : O1}, o ≠ .half → inV (.str o.nm) [.str "put", .str "less", .str "same"] = false := fun {o} _ => by cases o <;> rfl
  have plainT : ∀ {o : O2}, inV (.str o.nm) [.str "put", .str "less", .str "same"] = false := fun {o} => by cases o <;> rfl
  have moreT : ∀ {o : O2}, inV (.str o.nm) [.str "move", .str "not", .str "twice"] = false := fun {o} => by cases o <;> rfl
  cases i with
  | put a n =>
    walk_at "go"
    intro d1 hd1
    walk_at "go"
    intro l hl
    exact fin l [t] _ _ upd_same (rw1 (by walk_at "hp")) (by simp) (by simp) (all1 (up_str hi)) (by walk_at "kp")
  | less f p q =>
    walk_at "go"
    intro d1 hd1
    walk_at "go"
    intro l hl
    exact fin l [t] _ _ upd_same (rw1 (by walk_at "hp")) (by simp) (by simp) (all1 (up_str hi)) (by walk_at "kp")
  | same f p q =>
    walk_at "go"
    intro d1 hd1
    walk_at "go"
    intro l hl
    exact fin l [t] _ _ upd_same (rw1 (by walk_at "hp")) (by simp) (by simp) (all1 (up_str hi)) (by walk_at "kp")
  | one o a p =>
    obtain ⟨ho, ha, hp⟩ := hi
    have moreO : inV (.str o.nm) [.str "move", .str "not", .str "twice"] = true := by cases o <;> first | rfl | exact absurd rfl ho
    have z1 : atI (Ins.one o a p).vals 1 = some (nt a) := rfl
    have z2 : atI (Ins.one o a p).vals 2 = some (nt p) := rfl
    walk_at "go"
    intro d1 hd1
    walk_at "go"
    rw [show inV (.str (Ins.one o a p).nm) _ = false from plainR ho]
    walk_at "go"
    intro d2 hd2
    walk_at "go"
    rw [show inV (.str (Ins.one o a p).nm) _ = true from moreO]
    walk_at "go"
    have k2 : Kp No H (upd (upd H d1 (.tup [.str "put", .str "less", .str "same"])) d2 (.tup [.str "move", .str "not", .str "twice"])) := by walk_at "kp"
    generalize upd (upd H d1 (.tup [.str "put", .str "less", .str "same"])) d2 (.tup [.str "move", .str "not", .str "twice"]) = H2 at *
    refine x_cut (fun σ H' => ∃ (L : Addr) (ads : List Addr), σ = [some (.ref r), some (.ref t), some (.str o.nm), some (nt a), some (nt p), some (.ref L), none, none] ∧ H' L = some (.lst (ads.map V.ref)) ∧ RwAt H' ads (waysOf a p o) ∧ Kp No H H') ?_ ?_
    · walk_at "go"
      intro dk hdk
      walk_at "go"
      intro m1 hm1
      walk_at "go"
      intro m2 hm2
      walk_at "go"
      intro l1 hl1
      walk_at "go"
      intro n1 hn1
      walk_at "go"
      intro n2 hn2
      walk_at "go"
      intro l2 hl2
      walk_at "go"
      intro l3 hl3
      walk_at "go"
      refine ⟨by walk_at "hp", [((Sum.inr "move" : L2.Key), .ref l1), (Sum.inr "not", .ref l2), (Sum.inr "twice", .ref l3)], rfl, by simp, ?_⟩
      walk_at "go"
      refine ⟨dk, pickO (.ref l1) (.ref l2) (.ref l3) o, rfl, by rw [← ways_dict (.ref l1) (.ref l2) (.ref l3) ho]; exact DGet.k (k := Sum.inr o.nm) upd_same, ?_⟩
      walk_at "go"
      have kk : Kp No H2 (upd (upd (upd (upd (upd (upd (upd (upd H2 dk (.dK [])) m1 (.tup [.str "and", nt a, nt p, nt p])) m2 (.tup [.str "or", nt a, nt p, nt p])) l1 (.lst [.ref m1, .ref m2])) n1 (.tup [.str "put", .int 6, .int 0])) n2 (.tup [.str "not", .int 6, .int 6])) l2 (.lst [.ref n1, .ref n2])) l3 (.lst [])) := by walk_at "kp"
      cases o with
      | half => exact absurd rfl ho
      | move => exact ⟨l1, [m1, m2], rfl, by walk_at "hp", rw2 (x := .two .and a p p) (y := .two .or a p p) (by walk_at "hp") (by walk_at "hp"), k2.trans (kk.old hdk)⟩
      | inv => exact ⟨l2, [n1, n2], rfl, by walk_at "hp", rw2 (x := .put 6 0) (y := .one .inv 6 6) (by walk_at "hp") (by walk_at "hp"), k2.trans (kk.old hdk)⟩
      | twice => exact ⟨l3, [], rfl, by walk_at "hp", .nil, k2.trans (kk.old hdk)⟩
    · rintro σ H3 ⟨L, ads, rfl, e1, e2, k3⟩
      cases o with
      | half => exact absurd rfl ho
      | move =>
        walk_at "go"
        refine ⟨r, sc, ns, 2, rfl, rfl, by decide, by decide, R.keep0 k3, fun v H4 hv R4 k4 => ?_⟩
        have nL : L ≠ r := fun z => by obtain ⟨_, _, _, h, _⟩ := (R.keep0 k3).row; rw [z, h] at e1; have h5 := congrArg List.length (HO.lst.inj (Option.some.inj e1)); rw [List.length_map, e2.len] at h5; simp [waysOf] at h5
        have e14 := k4.at e1 nL
        have e24 := e2.keep k4 (R.keep0 k3).noTup
        obtain ⟨m1, m2, rfl⟩ : ∃ m1 m2, ads = [m1, m2] := by
          match ads, e24.len with
          | [m1, m2], _ => exact ⟨m1, m2, rfl⟩
        obtain ⟨m, x, hm, hx, hxs⟩ : ∃ (m : Addr) (x : Ins), atI ([m1, m2].map V.ref) (v : Int) = some (.ref m) ∧ H4 m = some (.tup x.vals) ∧ x.str S6 := by
          match v, hv with
          | 0, _ => exact ⟨m1, _, rfl, e24.row 0 m1 (.two .and a p p) rfl rfl, up4 ha, up4 hp, up4 hp⟩
          | 1, _ => exact ⟨m2, _, rfl, e24.row 1 m2 (.two .or a p p) rfl rfl, up4 ha, up4 hp, up4 hp⟩
        walk_at "go"
        intro l hl
        exact q l [m] [x] _ upd_same (rw1 (by walk_at "hp")) (by simp) (by simp) (all1 hxs) (R4.keep0 (.new hl)) ((k3.of0.trans k4).trans (.new hl))
      | inv =>
        walk_at "go"
        intro t1 ht1
        walk_at "go"
        intro l1 hl1
        obtain ⟨m1, m2, rfl⟩ : ∃ m1 m2, ads = [m1, m2] := by
          match ads, e2.len with
          | [m1, m2], _ => exact ⟨m1, m2, rfl⟩
        have g1 := e2.row 0 m1 (.put 6 0) rfl rfl
        have g2 := e2.row 1 m2 (.one .inv 6 6) rfl rfl
        refine ⟨L, l1, _, _, rfl, rfl, by walk_at "hp", upd_same, by simp; decide, fun pl hpl => ?_⟩
        have kk : Kp No H3 (upd (upd (upd H3 t1 (.tup [.str "take", nt a, .int 6, nt p])) l1 (.lst [.ref t1])) pl (.lst ([m1, m2].map V.ref ++ [.ref t1]))) := by walk_at "kp"
        exact fin pl [m1, m2, t1] [.put 6 0, .one .inv 6 6, .two .take a 6 p] _ upd_same (rw3 (kk.at0 g1) (kk.at0 g2) (by walk_at "hp")) (by simp) (by simp) (allc ⟨s6.1, by decide⟩ (allc ⟨(by intro z; cases z), s6.1, s6.1⟩ (all1 ⟨up4 ha, s6.1, up4 hp⟩))) (k3.trans kk)
      | twice =>
        walk_at "go"
        intro t1 ht1
        walk_at "go"
        intro l1 hl1
        exact fin l1 [t1] [.two .add a p p] _ upd_same (rw1 (by walk_at "hp")) (by simp) (by simp) (all1 ⟨up4 ha, up4 hp, up4 hp⟩) (k3.trans (by walk_at "kp"))
  | two o a p c =>
    obtain ⟨ha, hp, hc⟩ := hi
    have z1 : atI (Ins.two o a p c).vals 1 = some (nt a) := rfl
    have z2 : atI (Ins.two o a p c).vals 2 = some (nt p) := rfl
    have z3 : atI (Ins.two o a p c).vals 3 = some (nt c) := rfl
    walk_at "go"
    intro d1 hd1
    walk_at "go"
    rw [show inV (.str (Ins.two o a p c).nm) _ = false from plainT]
    walk_at "go"
    intro d2 hd2
    walk_at "go"
    rw [show inV (.str (Ins.two o a p c).nm) _ = false from moreT]
    walk_at "go"
    have k2 : Kp No H (upd (upd H d1 (.tup [.str "put", .str "less", .str "same"])) d2 (.tup [.str "move", .str "not", .str "twice"])) := by walk_at "kp"
    have ht2 := k2.at0 ht
    generalize upd (upd H d1 (.tup [.str "put", .str "less", .str "same"])) d2 (.tup [.str "move", .str "not", .str "twice"]) = H2 at *
    walk_at "go"
    intro b1 hb1
    walk_at "go"
    intro b2 hb2
    walk_at "go"
    intro bl hbl
    walk_at "go"
    have k3 : Kp No H (upd (upd (upd H2 b1 (.tup [.str "and", .int 6, nt p, nt c])) b2 (.tup [.str "or", .int 7, nt p, nt c])) bl (.lst [.ref b1, .ref b2])) := k2.trans (by walk_at "kp")
    have g1 : (upd (upd (upd H2 b1 (.tup [.str "and", .int 6, nt p, nt c])) b2 (.tup [.str "or", .int 7, nt p, nt c])) bl (.lst [.ref b1, .ref b2])) b1 = some (.tup (Ins.two .and 6 p c).vals) := by walk_at "hp"
    have g2 : (upd (upd (upd H2 b1 (.tup [.str "and", .int 6, nt p, nt c])) b2 (.tup [.str "or", .int 7, nt p, nt c])) bl (.lst [.ref b1, .ref b2])) b2 = some (.tup (Ins.two .or 7 p c).vals) := by walk_at "hp"
    have g3 : (upd (upd (upd H2 b1 (.tup [.str "and", .int 6, nt p, nt c])) b2 (.tup [.str "or", .int 7, nt p, nt c])) bl (.lst [.ref b1, .ref b2])) bl = some (.lst [.ref b1, .ref b2]) := upd_same
    generalize upd (upd (upd H2 b1 (.tup [.str "and", .int 6, nt p, nt c])) b2 (.tup [.str "or", .int 7, nt p, nt c])) bl (.lst [.ref b1, .ref b2]) = H3 at *
    have sB1 : (Ins.two .and 6 p c).str S6 := ⟨s6.1, up4 hp, up4 hc⟩
    have sB2 : (Ins.two .or 7 p c).str S6 := ⟨s6.2, up4 hp, up4 hc⟩
    have sN6 : ∀ {x : Nat}, x < 8 ∧ S4 x → (Ins.one .inv 6 x).str S6 := fun h => ⟨(by intro z; cases z), s6.1, up4 h⟩
    have sN7 : ∀ {x : Nat}, x < 8 ∧ S4 x → (Ins.one .inv 7 x).str S6 := fun h => ⟨(by intro z; cases z), s6.2, up4 h⟩
    have sNr : (Ins.one .inv a 6).str S6 := ⟨(by intro z; cases z), up4 ha, s6.1⟩
    cases o with
    | add =>
      walk_at "go"
      intro t1 ht1
      walk_at "go"
      intro l1 hl1
      refine ⟨bl, l1, _, _, rfl, rfl, by walk_at "hp", upd_same, by simp; decide, fun pl hpl => ?_⟩
      walk_at "go"
      intro u1 hu1
      walk_at "go"
      intro u2 hu2
      walk_at "go"
      intro u3 hu3
      walk_at "go"
      intro ul hul
      walk_at "go"
      intro ll hll
      have kp1 : Kp No H (upd (upd H3 t1 (.tup [.str "add", nt a, .int 6, .int 7])) l1 (.lst [.ref t1])) := k3.trans (by walk_at "kp")
      have nP : pl ≠ r := (R.keep0 kp1).new hpl
      have kp2 : Kp No H (upd (upd (upd (upd (upd (upd H3 t1 (.tup [.str "add", nt a, .int 6, .int 7])) l1 (.lst [.ref t1])) pl (.lst ([.ref b1, .ref b2] ++ [.ref t1]))) u1 (.tup [.str "not", .int 6, nt p])) u2 (.tup [.str "take", .int 6, .int 6, nt c])) u3 (.tup [.str "not", nt a, .int 6])) := k3.trans (by walk_at "kp")
      have nU : ul ≠ r := (R.keep0 kp2).new hul
      have kU : Kp No H (upd (upd (upd (upd (upd (upd H3 t1 (.tup [.str "add", nt a, .int 6, .int 7])) l1 (.lst [.ref t1])) pl (.lst ([.ref b1, .ref b2] ++ [.ref t1]))) u1 (.tup [.str "not", .int 6, nt p])) u2 (.tup [.str "take", .int 6, .int 6, nt c])) u3 (.tup [.str "not", nt a, .int 6]) |> fun Hx => upd Hx ul (.lst [.ref u1, .ref u2, .ref u3])) := kp2.trans (.new hul)
      have nL : ll ≠ r := (R.keep0 kU).new hll
      have kL := kU.trans (.new (o := .lst [.ref pl, .ref ul]) hll)
      have RL := R.keep0 kL
      have w1 := rw3 (H := _) (x := .two .and 6 p c) (y := .two .or 7 p c) (z := .two .add a 6 7) (show _ = _ from (by walk_at "hp" : (upd (upd (upd (upd (upd (upd (upd (upd H3 t1 (.tup [.str "add", nt a, .int 6, .int 7])) l1 (.lst [.ref t1])) pl (.lst ([.ref b1, .ref b2] ++ [.ref t1]))) u1 (.tup [.str "not", .int 6, nt p])) u2 (.tup [.str "take", .int 6, .int 6, nt c])) u3 (.tup [.str "not", nt a, .int 6])) ul (.lst [.ref u1, .ref u2, .ref u3])) ll (.lst [.ref pl, .ref ul])) b1 = some (.tup (Ins.two .and 6 p c).vals))) (b := b2) (c := t1) (by walk_at "hp") (by walk_at "hp")
      have w2 := rw3 (H := _) (x := .one .inv 6 p) (y := .two .take 6 6 c) (z := .one .inv a 6) (show _ = _ from (by walk_at "hp" : (upd (upd (upd (upd (upd (upd (upd (upd H3 t1 (.tup [.str "add", nt a, .int 6, .int 7])) l1 (.lst [.ref t1])) pl (.lst ([.ref b1, .ref b2] ++ [.ref t1]))) u1 (.tup [.str "not", .int 6, nt p])) u2 (.tup [.str "take", .int 6, .int 6, nt c])) u3 (.tup [.str "not", nt a, .int 6])) ul (.lst [.ref u1, .ref u2, .ref u3])) ll (.lst [.ref pl, .ref ul])) u1 = some (.tup (Ins.one .inv 6 p).vals))) (b := u2) (c := u3) (by walk_at "hp") (by walk_at "hp")
      have g5 : (upd (upd (upd (upd (upd (upd (upd (upd H3 t1 (.tup [.str "add", nt a, .int 6, .int 7])) l1 (.lst [.ref t1])) pl (.lst ([.ref b1, .ref b2] ++ [.ref t1]))) u1 (.tup [.str "not", .int 6, nt p])) u2 (.tup [.str "take", .int 6, .int 6, nt c])) u3 (.tup [.str "not", nt a, .int 6])) ul (.lst [.ref u1, .ref u2, .ref u3])) ll (.lst [.ref pl, .ref ul])) pl = some (.lst ([b1, b2, t1].map V.ref)) := by walk_at "hp"
      have g6 : (upd (upd (upd (upd (upd (upd (upd (upd H3 t1 (.tup [.str "add", nt a, .int 6, .int 7])) l1 (.lst [.ref t1])) pl (.lst ([.ref b1, .ref b2] ++ [.ref t1]))) u1 (.tup [.str "not", .int 6, nt p])) u2 (.tup [.str "take", .int 6, .int 6, nt c])) u3 (.tup [.str "not", nt a, .int 6])) ul (.lst [.ref u1, .ref u2, .ref u3])) ll (.lst [.ref pl, .ref ul])) ul = some (.lst ([u1, u2, u3].map V.ref)) := by walk_at "hp"
      have g7 : (upd (upd (upd (upd (upd (upd (upd (upd H3 t1 (.tup [.str "add", nt a, .int 6, .int 7])) l1 (.lst [.ref t1])) pl (.lst ([.ref b1, .ref b2] ++ [.ref t1]))) u1 (.tup [.str "not", .int 6, nt p])) u2 (.tup [.str "take", .int 6, .int 6, nt c])) u3 (.tup [.str "not", nt a, .int 6])) ul (.lst [.ref u1, .ref u2, .ref u3])) ll (.lst [.ref pl, .ref ul])) ll = some (.lst [.ref pl, .ref ul]) := upd_same
      generalize (upd (upd (upd (upd (upd (upd (upd (upd H3 t1 (.tup [.str "add", nt a, .int 6, .int 7])) l1 (.lst [.ref t1])) pl (.lst ([.ref b1, .ref b2] ++ [.ref t1]))) u1 (.tup [.str "not", .int 6, nt p])) u2 (.tup [.str "take", .int 6, .int 6, nt c])) u3 (.tup [.str "not", nt a, .int 6])) ul (.lst [.ref u1, .ref u2, .ref u3])) ll (.lst [.ref pl, .ref ul])) = H4 at *
      walk_at "go"
      refine ⟨r, sc, ns, 2, rfl, rfl, by decide, by decide, RL, fun v H5 hv R5 k5 => ?_⟩
      have g75 := k5.at g7 nL
      have kf := kL.of0.trans k5
      match v, hv with
      | 0, _ =>
        have e0 : atI [V.ref pl, V.ref ul] ((0 : Nat) : Int) = some (.ref pl) := rfl
        walk_at "go"
        exact q pl _ _ _ (k5.at g5 nP) (w1.keep k5 RL.noTup) (by simp) (by simp) (allc sB1 (allc sB2 (all1 ⟨up4 ha, s6.1, s6.2⟩))) R5 kf
      | 1, _ =>
        have e0 : atI [V.ref pl, V.ref ul] ((1 : Nat) : Int) = some (.ref ul) := rfl
        walk_at "go"
        exact q ul _ _ _ (k5.at g6 nU) (w2.keep k5 RL.noTup) (by simp) (by simp) (allc (sN6 hp) (allc ⟨s6.1, s6.1, up4 hc⟩ (all1 sNr))) R5 kf
    | take =>
      walk_at "go"
      intro u1 hu1
      walk_at "go"
      intro u2 hu2
      walk_at "go"
      intro u3 hu3
      walk_at "go"
      intro ul hul
      exact fin ul [u1, u2, u3] [.one .inv 6 p, .two .add 6 6 c, .one .inv a 6] _ upd_same (rw3 (by walk_at "hp") (by walk_at "hp") (by walk_at "hp")) (by simp) (by simp) (allc (sN6 hp) (allc ⟨s6.1, s6.1, up4 hc⟩ (all1 sNr))) (k3.trans (by walk_at "kp"))
    | odd =>
      walk_at "go"
      intro t1 ht1
      walk_at "go"
      intro l1 hl1
      refine ⟨bl, l1, _, _, rfl, rfl, by walk_at "hp", upd_same, by simp; decide, fun pl hpl => ?_⟩
      exact fin pl [b1, b2, t1] [.two .and 6 p c, .two .or 7 p c, .two .take a 7 6] _ upd_same (rw3 (by walk_at "hp") (by walk_at "hp") (by walk_at "hp")) (by simp) (by simp) (allc sB1 (allc sB2 (all1 ⟨up4 ha, s6.2, s6.1⟩))) (k3.trans (by walk_at "kp"))
    | and =>
      walk_at "go"
      intro u1 hu1
      walk_at "go"
      intro u2 hu2
      walk_at "go"
      intro u3 hu3
      walk_at "go"
      intro u4 hu4
      walk_at "go"
      intro ul hul
      exact fin ul [u1, u2, u3, u4] [.one .inv 6 p, .one .inv 7 c, .two .or 6 6 7, .one .inv a 6] _ upd_same (rw4 (by walk_at "hp") (by walk_at "hp") (by walk_at "hp") (by walk_at "hp")) (by simp) (by simp) (allc (sN6 hp) (allc (sN7 hc) (allc ⟨s6.1, s6.1, s6.2⟩ (all1 sNr)))) (k3.trans (by walk_at "kp"))
    | or =>
      walk_at "go"
      intro u1 hu1
      walk_at "go"
      intro u2 hu2
      walk_at "go"
      intro u3 hu3
      walk_at "go"
      intro u4 hu4
      walk_at "go"
      intro ul hul
      exact fin ul [u1, u2, u3, u4] [.one .inv 6 p, .one .inv 7 c, .two .and 6 6 7, .one .inv a 6] _ upd_same (rw4 (by walk_at "hp") (by walk_at "hp") (by walk_at "hp") (by walk_at "hp")) (by simp) (by simp) (allc (sN6 hp) (allc (sN7 hc) (allc ⟨s6.1, s6.1, s6.2⟩ (all1 sNr)))) (k3.trans (by walk_at "kp"))
  | _ => exact hi.elim
end
end K7
namespace K7
open PySem PySem.Spec PyProof.Rows L2 B N7
/-! ### rows moved to other loops -/
def mvR (far r : Nat) : Nat := (r + far) % 8
def Ins.mv (far : Nat) : Ins → Ins
  | .put a n => .put (mvR far a) n | .one o a p => .one o (mvR far a) (mvR far p) | .two o a p q => .two o (mvR far a) (mvR far p) (mvR far q) | .less f p q => .less f (mvR far p) (mvR far q) | .same f p q => .same f (mvR far p) (mvR far q) | i => i
def SF (far : Nat) : Nat → Prop := fun r => ∃ r0, S6 r0 ∧ r = mvR far r0
theorem mv_ok {far a : Nat} (h : a < 8 ∧ S6 a) : mvR far a < 8 ∧ SF far (mvR far a) := ⟨Nat.mod_lt _ (by decide), a, h.2, rfl⟩
theorem mv_str {far : Nat} {i : Ins} (h : i.str S6) : (i.mv far).str (SF far) := by
  cases i with
  | put a n => exact ⟨mv_ok h.1, h.2⟩
  | one o a p => exact ⟨h.1, mv_ok h.2.1, mv_ok h.2.2⟩
  | two o a p q => exact ⟨mv_ok h.1, mv_ok h.2.1, mv_ok h.2.2⟩
  | less f p q => exact ⟨h.1, mv_ok h.2.1, mv_ok h.2.2⟩
  | same f p q => exact ⟨h.1, mv_ok h.2.1, mv_ok h.2.2⟩
  | _ => exact h.elim
theorem few_SF (far : Nat) : FewS (SF far) := ⟨[0, 1, 2, 3, 6, 7].map (mvR far), by simp, fun r _ ⟨r0, h, e⟩ => by
  rw [e]
  refine List.mem_map.mpr ⟨r0, ?_, rfl⟩
  rcases h with h | h | h
  · have : r0 = 0 ∨ r0 = 1 ∨ r0 = 2 ∨ r0 = 3 := by omega
    rcases this with rfl | rfl | rfl | rfl <;> simp
  · subst h; simp
  · subst h; simp⟩
section
variable {P : Program} {w : World} {K : PySem.W.Frag} {mg : Str → Option Value} {base : Heap} {d : Ads} {C : Addr} {H H' : Hp} {r sc : Addr} {ns : List Int}
def pMoved : V → V → Hp → VK → XK → Prop := fun a b H Q _ => ∃ (t : Addr) (i : Ins) (far : Nat), a = .ref t ∧ b = nt far ∧ H t = some (.tup i.vals) ∧ i.str S6 ∧ far < 8 ∧ ∀ (p : Addr) H', H' p = some (.tup (i.mv far).vals) → Kp No H H' → Q (.ref p) H'
theorem ok_moved (G : Txt K w mg d) (D : Df K mg "_law_moved" s_law_moved ["_law_one", "_law_far"]) : Cal P w K mg base CX0 1 "_law_moved" (sp2 pMoved) := by
  refine cal0 D sc_law_moved rfl fun f cdv A outer s0 H vs Q E hr h => ?_
  obtain ⟨_, _, rfl, t, i, far, rfl, rfl, ht, hi, hfar, q⟩ := h
  refine ⟨_, (pss_cons (ps_set (i := 2) sc_law_moved.nd rfl (Or.inl rfl) (pe_op op_add pe_int (pe_callTy call_int1 (by rfl) G.n_int (by decide +kernel) (pa_cons (pe_cmpR (inS K) (pe_ix (ixT K) (pv 0) pe_int (fun _ _ => rfl)) (pe_tup (pa_cons pe_str (pa_cons pe_str pa_nil))) (by rfl)) pa_nil))))
    (pss_cons (ps_set (i := 3) sc_law_moved.nd rfl (Or.inl rfl) (pe_ifExp (pt_cmpR op_eq (pe_ix (ixT K) (pv 0) pe_int (fun _ _ => rfl)) pe_str (nomark _)) pe_int (pe_callB (lenS K) (by rfl) G.n_len (by decide +kernel) (pa_cons (pv 0) pa_nil))))
    (pss_one (ps_ret (pe_op (N7.catA K) (pe_op (N7.catA K) (pe_slice (N7.slA K) (pv 0) po_none (po_some (pv 2))) (pe_callTy (tupOf K) (by rfl) G.n_tuple (by decide +kernel) (pa_cons (pe_lc (own := [("_law_part", 4)]) (g := gName 4) (tt := tYes) rfl sc_law_moved.nd (piT K (pe_slice (N7.slA K) (pv 0) (po_some (pv 2)) (po_some (pv 3)))) (blkOk_by (own := [("_law_part", 4)]) (N := N_law_moved) (sc := defScope s_law_moved) (by decide +kernel)) (fun _ _ _ _ _ => (pg_name (i := 4) sc_law_moved.nd rfl (Or.inl rfl))) (fun _ _ _ _ _ => pts_nil) (fun _ _ _ _ _ => (pe_op op_mod (pe_op op_add (pv 4) (pv 1)) pe_int))) pa_nil))) (pe_slice (N7.slA K) (pv 0) (po_some (pv 3)) po_none)))))), ?_⟩
  refine B.x_start (σ' := [some (.ref t), some (nt far), none, none, none]) rfl ?_
  cases i with
  | put a n =>
    have hin : inV (.str (Ins.put a n).nm) [.str "less", .str "same"] = false := by rfl
    have z0 : atI (Ins.put a n).vals 0 = some (.str (Ins.put a n).nm) := rfl
    walk_at "go"
    intro d1 hd1
    have ht1 : upd H d1 (.tup [.str "less", .str "same"]) t = some (.tup (Ins.put a n).vals) := by walk_at "hp"
    have k1 : Kp No H (upd H d1 (.tup [.str "less", .str "same"])) := .new hd1
    have hd11 : upd H d1 (.tup [.str "less", .str "same"]) d1 = some (.tup [.str "less", .str "same"]) := upd_same
    generalize upd H d1 (.tup [.str "less", .str "same"]) = H1 at *
    walk_at "go"
    try rw [hin]
    walk_at "go"
    rw [show ((1 : Int) + if false = true then 1 else 0) = 1 + 0 from rfl]
    skip
    walk_at "go"
    refine x_slA (SqT.of ht1) (fun h => absurd h.2 (show ¬ HT.sIx 3 3 (some (1 + 0)) = 3 by decide)) fun p1 hp1 => ?_
    rw [show cutV (Ins.put a n).vals none (some (1 + 0)) = [.str (Ins.put a n).nm] from rfl]
    have k2 : Kp No H1 (upd H1 p1 (.tup [.str (Ins.put a n).nm])) := .new hp1
    have ht2 := k2.at0 ht1
    have hp12 : upd H1 p1 (.tup [.str (Ins.put a n).nm]) p1 = some (.tup [.str (Ins.put a n).nm]) := upd_same
    generalize upd H1 p1 (.tup [.str (Ins.put a n).nm]) = H2 at *
    walk_at "go"
    refine x_slA (SqT.of ht2) (fun h => absurd h.1 (show ¬ HT.sIx 3 0 (some (1 + 0)) = 0 by decide)) fun p2 hp2 => ?_
    rw [show cutV (Ins.put a n).vals (some (1 + 0)) (some 2) = [a].map nt from rfl]
    have k3 : Kp No H2 (upd H2 p2 (.tup ([a].map nt))) := .new hp2
    have ht3 := k3.at0 ht2
    have hp13 := k3.at0 hp12
    have hp23 : upd H2 p2 (.tup ([a].map nt)) p2 = some (.tup ([a].map nt)) := upd_same
    generalize upd H2 p2 (.tup ([a].map nt)) = H3 at *
    walk_at "go"
    refine lc_t ([a].map nt) (fun D j H' => Kp No H3 H' ∧ H' D = some (.lst ((([a].take j).map (mvR far)).map nt))) (fun D hD => ⟨.new hD, upd_same⟩) (fun D j H' _ z => SqT.of (z.1.at0 hp23)) ?_ ?_
    · rintro D j y H4 hD hy ⟨k4, g1⟩
      rw [List.getElem?_map, Option.map_eq_some_iff] at hy
      obtain ⟨x, hx, rfl⟩ := hy
      walk_at "go"
      refine ⟨rfl, ?_⟩
      walk_at "go"
      have hlr : ([a]).length ≤ 3 := by simp
      refine ⟨_, g1, by rw [List.length_map, List.length_map, List.length_take, sizeLine_eq]; omega, k4.old hD, ?_⟩
      rw [upd_same, take_one hx, List.map_append, List.map_append]
      rfl
    · rintro D H4 hD ⟨k4, g1⟩
      rw [List.length_map, List.take_length] at g1
      walk_at "go"
      intro t2 ht2'
      have k5 : Kp No H3 (upd H4 t2 (.tup (([a].map (mvR far)).map nt))) := k4.trans (.new ht2')
      refine x_catP (k5.at0 hp13) (by simp) (SqT.of upd_same) (by simp) fun p3 H6 hp3 k6 => ?_
      have k36 : Kp No H3 H6 := k5.trans fun x o e _ => k6 x o e
      have ht6 := k36.at0 ht3
      walk_at "go"
      refine x_slA (SqT.of ht6) (fun h => absurd h.1 (show ¬ HT.sIx 3 0 (some 2) = 0 by decide)) fun p4 hp4 => ?_
      rw [show cutV (Ins.put a n).vals (some 2) none = [nt n] from rfl]
      have k7 : Kp No H6 (upd H6 p4 (.tup [nt n])) := .new hp4
      refine x_catP (k7.at0 hp3) (by simp) (SqT.of upd_same) (by simp) fun p5 H8 hp5 k8 => ?_
      exact q p5 H8 hp5 ((k1.trans (k2.trans k3)).trans ((k36.trans k7).trans fun x o e _ => k8 x o e))
  | one o a p =>
    have hin : inV (.str (Ins.one o a p).nm) [.str "less", .str "same"] = false := by cases o <;> rfl
    have z0 : atI (Ins.one o a p).vals 0 = some (.str (Ins.one o a p).nm) := rfl
    walk_at "go"
    intro d1 hd1
    have ht1 : upd H d1 (.tup [.str "less", .str "same"]) t = some (.tup (Ins.one o a p).vals) := by walk_at "hp"
    have k1 : Kp No H (upd H d1 (.tup [.str "less", .str "same"])) := .new hd1
    have hd11 : upd H d1 (.tup [.str "less", .str "same"]) d1 = some (.tup [.str "less", .str "same"]) := upd_same
    generalize upd H d1 (.tup [.str "less", .str "same"]) = H1 at *
    walk_at "go"
    try rw [hin]
    walk_at "go"
    rw [show ((1 : Int) + if false = true then 1 else 0) = 1 + 0 from rfl]
    refine x_no (decide_eq_false fun z => o.nput (V.str.inj z)) ?_
    walk_at "go"
    refine x_slA (SqT.of ht1) (fun h => absurd h.2 (show ¬ HT.sIx 3 3 (some (1 + 0)) = 3 by decide)) fun p1 hp1 => ?_
    rw [show cutV (Ins.one o a p).vals none (some (1 + 0)) = [.str (Ins.one o a p).nm] from rfl]
    have k2 : Kp No H1 (upd H1 p1 (.tup [.str (Ins.one o a p).nm])) := .new hp1
    have ht2 := k2.at0 ht1
    have hp12 : upd H1 p1 (.tup [.str (Ins.one o a p).nm]) p1 = some (.tup [.str (Ins.one o a p).nm]) := upd_same
    generalize upd H1 p1 (.tup [.str (Ins.one o a p).nm]) = H2 at *
    walk_at "go"
    refine x_slA (SqT.of ht2) (fun h => absurd h.1 (show ¬ HT.sIx 3 0 (some (1 + 0)) = 0 by decide)) fun p2 hp2 => ?_
    rw [show cutV (Ins.one o a p).vals (some (1 + 0)) (some (((Ins.one o a p).vals.length : Nat) : Int)) = [a, p].map nt from rfl]
    have k3 : Kp No H2 (upd H2 p2 (.tup ([a, p].map nt))) := .new hp2
    have ht3 := k3.at0 ht2
    have hp13 := k3.at0 hp12
    have hp23 : upd H2 p2 (.tup ([a, p].map nt)) p2 = some (.tup ([a, p].map nt)) := upd_same
    generalize upd H2 p2 (.tup ([a, p].map nt)) = H3 at *
    walk_at "go"
    refine lc_t ([a, p].map nt) (fun D j H' => Kp No H3 H' ∧ H' D = some (.lst ((([a, p].take j).map (mvR far)).map nt))) (fun D hD => ⟨.new hD, upd_same⟩) (fun D j H' _ z => SqT.of (z.1.at0 hp23)) ?_ ?_
    · rintro D j y H4 hD hy ⟨k4, g1⟩
      rw [List.getElem?_map, Option.map_eq_some_iff] at hy
      obtain ⟨x, hx, rfl⟩ := hy
      walk_at "go"
      refine ⟨rfl, ?_⟩
      walk_at "go"
      have hlr : ([a, p]).length ≤ 3 := by simp
      refine ⟨_, g1, by rw [List.length_map, List.length_map, List.length_take, sizeLine_eq]; omega, k4.old hD, ?_⟩
      rw [upd_same, take_one hx, List.map_append, List.map_append]
      rfl
    · rintro D H4 hD ⟨k4, g1⟩
      rw [List.length_map, List.take_length] at g1
      walk_at "go"
      intro t2 ht2'
      have k5 : Kp No H3 (upd H4 t2 (.tup (([a, p].map (mvR far)).map nt))) := k4.trans (.new ht2')
      refine x_catP (k5.at0 hp13) (by simp) (SqT.of upd_same) (by simp) fun p3 H6 hp3 k6 => ?_
      have k36 : Kp No H3 H6 := k5.trans fun x o e _ => k6 x o e
      have ht6 := k36.at0 ht3
      walk_at "go"
      refine x_slA (SqT.of ht6) (fun h => absurd h.1 (show ¬ HT.sIx 3 0 (some 3) = 0 by decide)) fun p4 hp4 => ?_
      rw [show cutV (Ins.one o a p).vals (some (((Ins.one o a p).vals.length : Nat) : Int)) none = [] from rfl]
      have k7 : Kp No H6 (upd H6 p4 (.tup [])) := .new hp4
      refine x_catP (k7.at0 hp3) (by simp) (SqT.of upd_same) (by simp) fun p5 H8 hp5 k8 => ?_
      exact q p5 H8 hp5 ((k1.trans (k2.trans k3)).trans ((k36.trans k7).trans fun x o e _ => k8 x o e))
  | two o a p c =>
    have hin : inV (.str (Ins.two o a p c).nm) [.str "less", .str "same"] = false := by cases o <;> rfl
    have z0 : atI (Ins.two o a p c).vals 0 = some (.str (Ins.two o a p c).nm) := rfl
    walk_at "go"
    intro d1 hd1
    have ht1 : upd H d1 (.tup [.str "less", .str "same"]) t = some (.tup (Ins.two o a p c).vals) := by walk_at "hp"
    have k1 : Kp No H (upd H d1 (.tup [.str "less", .str "same"])) := .new hd1
    have hd11 : upd H d1 (.tup [.str "less", .str "same"]) d1 = some (.tup [.str "less", .str "same"]) := upd_same
    generalize upd H d1 (.tup [.str "less", .str "same"]) = H1 at *
    walk_at "go"
    try rw [hin]
    walk_at "go"
    rw [show ((1 : Int) + if false = true then 1 else 0) = 1 + 0 from rfl]
    refine x_no (decide_eq_false fun z => o.nput (V.str.inj z)) ?_
    walk_at "go"
    refine x_slA (SqT.of ht1) (fun h => absurd h.2 (show ¬ HT.sIx 4 4 (some (1 + 0)) = 4 by decide)) fun p1 hp1 => ?_
    rw [show cutV (Ins.two o a p c).vals none (some (1 + 0)) = [.str (Ins.two o a p c).nm] from rfl]
    have k2 : Kp No H1 (upd H1 p1 (.tup [.str (Ins.two o a p c).nm])) := .new hp1
    have ht2 := k2.at0 ht1
    have hp12 : upd H1 p1 (.tup [.str (Ins.two o a p c).nm]) p1 = some (.tup [.str (Ins.two o a p c).nm]) := upd_same
    generalize upd H1 p1 (.tup [.str (Ins.two o a p c).nm]) = H2 at *
    walk_at "go"
    refine x_slA (SqT.of ht2) (fun h => absurd h.1 (show ¬ HT.sIx 4 0 (some (1 + 0)) = 0 by decide)) fun p2 hp2 => ?_
    rw [show cutV (Ins.two o a p c).vals (some (1 + 0)) (some (((Ins.two o a p c).vals.length : Nat) : Int)) = [a, p, c].map nt from rfl]
    have k3 : Kp No H2 (upd H2 p2 (.tup ([a, p, c].map nt))) := .new hp2
    have ht3 := k3.at0 ht2
    have hp13 := k3.at0 hp12
    have hp23 : upd H2 p2 (.tup ([a, p, c].map nt)) p2 = some (.tup ([a, p, c].map nt)) := upd_same
    generalize upd H2 p2 (.tup ([a, p, c].map nt)) = H3 at *
    walk_at "go"
    refine lc_t ([a, p, c].map nt) (fun D j H' => Kp No H3 H' ∧ H' D = some (.lst ((([a, p, c].take j).map (mvR far)).map nt))) (fun D hD => ⟨.new hD, upd_same⟩) (fun D j H' _ z => SqT.of (z.1.at0 hp23)) ?_ ?_
    · rintro D j y H4 hD hy ⟨k4, g1⟩
      rw [List.getElem?_map, Option.map_eq_some_iff] at hy
      obtain ⟨x, hx, rfl⟩ := hy
      walk_at "go"
      refine ⟨rfl, ?_⟩
      walk_at "go"
      have hlr : ([a, p, c]).length ≤ 3 := by simp
      refine ⟨_, g1, by rw [List.length_map, List.length_map, List.length_take, sizeLine_eq]; omega, k4.old hD, ?_⟩
      rw [upd_same, take_one hx, List.map_append, List.map_append]
      rfl
    · rintro D H4 hD ⟨k4, g1⟩
      rw [List.length_map, List.take_length] at g1
      walk_at "go"
      intro t2 ht2'
      have k5 : Kp No H3 (upd H4 t2 (.tup (([a, p, c].map (mvR far)).map nt))) := k4.trans (.new ht2')
      refine x_catP (k5.at0 hp13) (by simp) (SqT.of upd_same) (by simp) fun p3 H6 hp3 k6 => ?_
      have k36 : Kp No H3 H6 := k5.trans fun x o e _ => k6 x o e
      have ht6 := k36.at0 ht3
      walk_at "go"
      refine x_slA (SqT.of ht6) (fun h => absurd h.1 (show ¬ HT.sIx 4 0 (some 4) = 0 by decide)) fun p4 hp4 => ?_
      rw [show cutV (Ins.two o a p c).vals (some (((Ins.two o a p c).vals.length : Nat) : Int)) none = [] from rfl]
      have k7 : Kp No H6 (upd H6 p4 (.tup [])) := .new hp4
      refine x_catP (k7.at0 hp3) (by simp) (SqT.of upd_same) (by simp) fun p5 H8 hp5 k8 => ?_
      exact q p5 H8 hp5 ((k1.trans (k2.trans k3)).trans ((k36.trans k7).trans fun x o e _ => k8 x o e))
  | less f p c =>
    have hin : inV (.str (Ins.less f p c).nm) [.str "less", .str "same"] = true := by rfl
    have z0 : atI (Ins.less f p c).vals 0 = some (.str (Ins.less f p c).nm) := rfl
    walk_at "go"
    intro d1 hd1
    have ht1 : upd H d1 (.tup [.str "less", .str "same"]) t = some (.tup (Ins.less f p c).vals) := by walk_at "hp"
    have k1 : Kp No H (upd H d1 (.tup [.str "less", .str "same"])) := .new hd1
    have hd11 : upd H d1 (.tup [.str "less", .str "same"]) d1 = some (.tup [.str "less", .str "same"]) := upd_same
    generalize upd H d1 (.tup [.str "less", .str "same"]) = H1 at *
    walk_at "go"
    try rw [hin]
    walk_at "go"
    rw [show ((1 : Int) + if true = true then 1 else 0) = 1 + 1 from rfl]
    skip
    walk_at "go"
    refine x_slA (SqT.of ht1) (fun h => absurd h.2 (show ¬ HT.sIx 4 4 (some (1 + 1)) = 4 by decide)) fun p1 hp1 => ?_
    rw [show cutV (Ins.less f p c).vals none (some (1 + 1)) = [.str (Ins.less f p c).nm, nt f] from rfl]
    have k2 : Kp No H1 (upd H1 p1 (.tup [.str (Ins.less f p c).nm, nt f])) := .new hp1
    have ht2 := k2.at0 ht1
    have hp12 : upd H1 p1 (.tup [.str (Ins.less f p c).nm, nt f]) p1 = some (.tup [.str (Ins.less f p c).nm, nt f]) := upd_same
    generalize upd H1 p1 (.tup [.str (Ins.less f p c).nm, nt f]) = H2 at *
    walk_at "go"
    refine x_slA (SqT.of ht2) (fun h => absurd h.1 (show ¬ HT.sIx 4 0 (some (1 + 1)) = 0 by decide)) fun p2 hp2 => ?_
    rw [show cutV (Ins.less f p c).vals (some (1 + 1)) (some (((Ins.less f p c).vals.length : Nat) : Int)) = [p, c].map nt from rfl]
    have k3 : Kp No H2 (upd H2 p2 (.tup ([p, c].map nt))) := .new hp2
    have ht3 := k3.at0 ht2
    have hp13 := k3.at0 hp12
    have hp23 : upd H2 p2 (.tup ([p, c].map nt)) p2 = some (.tup ([p, c].map nt)) := upd_same
    generalize upd H2 p2 (.tup ([p, c].map nt)) = H3 at *
    walk_at "go"
    refine lc_t ([p, c].map nt) (fun D j H' => Kp No H3 H' ∧ H' D = some (.lst ((([p, c].take j).map (mvR far)).map nt))) (fun D hD => ⟨.new hD, upd_same⟩) (fun D j H' _ z => SqT.of (z.1.at0 hp23)) ?_ ?_
    · rintro D j y H4 hD hy ⟨k4, g1⟩
      rw [List.getElem?_map, Option.map_eq_some_iff] at hy
      obtain ⟨x, hx, rfl⟩ := hy
      walk_at "go"
      refine ⟨rfl, ?_⟩
      walk_at "go"
      have hlr : ([p, c]).length ≤ 3 := by simp
      refine ⟨_, g1, by rw [List.length_map, List.length_map, List.length_take, sizeLine_eq]; omega, k4.old hD, ?_⟩
      rw [upd_same, take_one hx, List.map_append, List.map_append]
      rfl
    · rintro D H4 hD ⟨k4, g1⟩
      rw [List.length_map, List.take_length] at g1
      walk_at "go"
      intro t2 ht2'
      have k5 : Kp No H3 (upd H4 t2 (.tup (([p, c].map (mvR far)).map nt))) := k4.trans (.new ht2')
      refine x_catP (k5.at0 hp13) (by simp) (SqT.of upd_same) (by simp) fun p3 H6 hp3 k6 => ?_
      have k36 : Kp No H3 H6 := k5.trans fun x o e _ => k6 x o e
      have ht6 := k36.at0 ht3
      walk_at "go"
      refine x_slA (SqT.of ht6) (fun h => absurd h.1 (show ¬ HT.sIx 4 0 (some 4) = 0 by decide)) fun p4 hp4 => ?_
      rw [show cutV (Ins.less f p c).vals (some (((Ins.less f p c).vals.length : Nat) : Int)) none = [] from rfl]
      have k7 : Kp No H6 (upd H6 p4 (.tup [])) := .new hp4
      refine x_catP (k7.at0 hp3) (by simp) (SqT.of upd_same) (by simp) fun p5 H8 hp5 k8 => ?_
      exact q p5 H8 hp5 ((k1.trans (k2.trans k3)).trans ((k36.trans k7).trans fun x o e _ => k8 x o e))
  | same f p c =>
    have hin : inV (.str (Ins.same f p c).nm) [.str "less", .str "same"] = true := by rfl
    have z0 : atI (Ins.same f p c).vals 0 = some (.str (Ins.same f p c).nm) := rfl
    walk_at "go"
    intro d1 hd1
    have ht1 : upd H d1 (.tup [.str "less", .str "same"]) t = some (.tup (Ins.same f p c).vals) := by walk_at "hp"
    have k1 : Kp No H (upd H d1 (.tup [.str "less", .str "same"])) := .new hd1
    have hd11 : upd H d1 (.tup [.str "less", .str "same"]) d1 = some (.tup [.str "less", .str "same"]) := upd_same
    generalize upd H d1 (.tup [.str "less", .str "same"]) = H1 at *
    walk_at "go"
    try rw [hin]
    walk_at "go"
    rw [show ((1 : Int) + if true = true then 1 else 0) = 1 + 1 from rfl]
    skip
    walk_at "go"
    refine x_slA (SqT.of ht1) (fun h => absurd h.2 (show ¬ HT.sIx 4 4 (some (1 + 1)) = 4 by decide)) fun p1 hp1 => ?_
    rw [show cutV (Ins.same f p c).vals none (some (1 + 1)) = [.str (Ins.same f p c).nm, nt f] from rfl]
    have k2 : Kp No H1 (upd H1 p1 (.tup [.str (Ins.same f p c).nm, nt f])) := .new hp1
    have ht2 := k2.at0 ht1
    have hp12 : upd H1 p1 (.tup [.str (Ins.same f p c).nm, nt f]) p1 = some (.tup [.str (Ins.same f p c).nm, nt f]) := upd_same
    generalize upd H1 p1 (.tup [.str (Ins.same f p c).nm, nt f]) = H2 at *
    walk_at "go"
    refine x_slA (SqT.of ht2) (fun h => absurd h.1 (show ¬ HT.sIx 4 0 (some (1 + 1)) = 0 by decide)) fun p2 hp2 => ?_
    rw [show cutV (Ins.same f p c).vals (some (1 + 1)) (some (((Ins.same f p c).vals.length : Nat) : Int)) = [p, c].map nt from rfl]
    have k3 : Kp No H2 (upd H2 p2 (.tup ([p, c].map nt))) := .new hp2
    have ht3 := k3.at0 ht2
    have hp13 := k3.at0 hp12
    have hp23 : upd H2 p2 (.tup ([p, c].map nt)) p2 = some (.tup ([p, c].map nt)) := upd_same
    generalize upd H2 p2 (.tup ([p, c].map nt)) = H3 at *
    walk_at "go"
    refine lc_t ([p, c].map nt) (fun D j H' => Kp No H3 H' ∧ H' D = some (.lst ((([p, c].take j).map (mvR far)).map nt))) (fun D hD => ⟨.new hD, upd_same⟩) (fun D j H' _ z => SqT.of (z.1.at0 hp23)) ?_ ?_
    · rintro D j y H4 hD hy ⟨k4, g1⟩
      rw [List.getElem?_map, Option.map_eq_some_iff] at hy
      obtain ⟨x, hx, rfl⟩ := hy
      walk_at "go"
      refine ⟨rfl, ?_⟩
      walk_at "go"
      have hlr : ([p, c]).length ≤ 3 := by simp
      refine ⟨_, g1, by rw [List.length_map, List.length_map, List.length_take, sizeLine_eq]; omega, k4.old hD, ?_⟩
      rw [upd_same, take_one hx, List.map_append, List.map_append]
      rfl
    · rintro D H4 hD ⟨k4, g1⟩
      rw [List.length_map, List.take_length] at g1
      walk_at "go"
      intro t2 ht2'
      have k5 : Kp No H3 (upd H4 t2 (.tup (([p, c].map (mvR far)).map nt))) := k4.trans (.new ht2')
      refine x_catP (k5.at0 hp13) (by simp) (SqT.of upd_same) (by simp) fun p3 H6 hp3 k6 => ?_
      have k36 : Kp No H3 H6 := k5.trans fun x o e _ => k6 x o e
      have ht6 := k36.at0 ht3
      walk_at "go"
      refine x_slA (SqT.of ht6) (fun h => absurd h.1 (show ¬ HT.sIx 4 0 (some 4) = 0 by decide)) fun p4 hp4 => ?_
      rw [show cutV (Ins.same f p c).vals (some (((Ins.same f p c).vals.length : Nat) : Int)) none = [] from rfl]
      have k7 : Kp No H6 (upd H6 p4 (.tup [])) := .new hp4
      refine x_catP (k7.at0 hp3) (by simp) (SqT.of upd_same) (by simp) fun p5 H8 hp5 k8 => ?_
      exact q p5 H8 hp5 ((k1.trans (k2.trans k3)).trans ((k36.trans k7).trans fun x o e _ => k8 x o e))
  | _ => exact hi.elim
end
end K7
namespace K7
open PySem PySem.Spec PyProof.Rows L2 B N7
theorem str_ok {S : Nat → Prop} {i : Ins} (h : i.str S) (rows : Nat) : i.ok rows := by
  intro k c n e1 e2
  cases i with
  | put a x =>
    match k with
    | 0 => cases e1; cases e2; exact h.1.1
    | 1 => cases e1; cases e2; exact h.2
    | k + 2 => cases e1
  | one o a p =>
    match k with
    | 0 => cases e1; cases e2; exact h.2.1.1
    | 1 => cases e1; cases e2; exact h.2.2.1
    | k + 2 => cases e1
  | two o a p q =>
    match k with
    | 0 => cases e1; cases e2; exact h.1.1
    | 1 => cases e1; cases e2; exact h.2.1.1
    | 2 => cases e1; cases e2; exact h.2.2.1
    | k + 3 => cases e1
  | less f p q =>
    match k with
    | 0 => cases e1; cases e2; exact h.1
    | 1 => cases e1; cases e2; exact h.2.1.1
    | 2 => cases e1; cases e2; exact h.2.2.1
    | k + 3 => cases e1
  | same f p q =>
    match k with
    | 0 => cases e1; cases e2; exact h.1
    | 1 => cases e1; cases e2; exact h.2.1.1
    | 2 => cases e1; cases e2; exact h.2.2.1
    | k + 3 => cases e1
  | _ => exact h.elim
/-- rows in a list -/
structure RwL (H : Hp) (F : Addr) (ads : List Addr) (prog : List Ins) : Prop where
  at_ : H F = some (.lst (ads.map V.ref))
  rows : RwAt H ads prog
theorem RwL.keep {M : Addr → Prop} {H H' : Hp} {F : Addr} {ads : List Addr} {prog : List Ins} (h : RwL H F ads prog) (k : Kp M H H') (n : NoTup M H) (nF : ¬ M F) : RwL H' F ads prog := ⟨k.at h.at_ nF, h.rows.keep k n⟩
theorem RwL.keep0 {H H' : Hp} {F : Addr} {ads : List Addr} {prog : List Ins} (h : RwL H F ads prog) (k : Kp No H H') : RwL H' F ads prog := h.keep k .no fun z => z
section
variable {P : Program} {w : World} {K : PySem.W.Frag} {mg : Str → Option Value} {base : Heap} {d : Ads} {C : Addr} {H H' : Hp} {r sc : Addr} {ns : List Int}
def pTwoL (K : PySem.W.Frag) : V → Hp → VK → XK → Prop := fun a H Q _ => ∃ (r sc : Addr) (ns : List Int), a = .ref r ∧ RowAt K H r sc ns ∧ ∀ (t : Addr) (S : Nat → Prop) (b1 b2 : NAd) (N1 N2 : Net) H', FewS S → NetOk S N1 → NetOk S N2 → N1.cells.length ≤ 1900 → N2.cells.length ≤ 1900 → NetAt K H' b1 N1 → NetAt K H' b2 N2 →
  H' t = some (.lst [.ref b1.p, .ref b2.p]) → RowAt K H' r sc ns → KR r H H' → Q (.ref t) H'
theorem ok_two (G : Txt K w mg d) (D : Df K mg "_law_two" s_law_two ["_law_row"]) (c_law_taken : Cal P w K mg base CX0 1 "_law_taken" (sp2 (pTaken K))) (c_law_few : Cal P w K mg base CX0 4 "_law_few" (sp1 (pFew K))) (c_law_same : Cal P w K mg base CX0 2 "_law_same" (sp2 (pSameL K)))
    (c_law_moved : Cal P w K mg base CX0 1 "_law_moved" (sp2 pMoved)) (c_made : Cal P w K mg base CX0 5 "made" (U fun S => sp1 (pMade K S))) (c_trimmed : Cal P w K mg base CX0 4 "trimmed" (U fun S => sp1 (pMerged S K))) : Cal P w K mg base CX0 6 "_law_two" (sp1 (pTwoL K)) := by
  refine cal0 D sc_law_two rfl fun f cdv A outer s0 H vs Q E hr h => ?_
  obtain ⟨_, rfl, r, sc, ns, rfl, R, q⟩ := h
  refine ⟨_, (pss_cons (ps_set (i := 1) sc_law_two.nd rfl (Or.inl rfl) (pe_c c_law_few hr (by first | decide | omega) (by rfl) pass0 (pa_cons (pv 0) pa_nil)))
    (pss_cons (ps_set (i := 2) sc_law_two.nd rfl (Or.inl rfl) (pe_lst pa_nil))
    (pss_cons (ps_for PassesOwn.never rfl (piL K (pv 1)) (pg_name (i := 3) sc_law_two.nd rfl (Or.inl rfl))
      (pss_one (ps_expr (bm K PySem.F.plainAttrs_list PySem.F.slot_list_extend PySem.F.type_list_extend (N7.extT K) (pv 2) (pa_cons (pe_c c_law_same hr (by first | decide | omega) (by rfl) pass0 (pa_cons (pv 0) (pa_cons (pv 3) pa_nil))) pa_nil)))))
    (Evl.pss_cut (ps_if (pt_cmpR op_eq (pe_c c_law_taken hr (by first | decide | omega) (by rfl) pass0 (pa_cons (pv 0) (pa_cons pe_int pa_nil))) pe_int (nomark _))
      (pss_one (ps_asg (pe_ix (ixL K) (pe_c c_law_few hr (by first | decide | omega) (by rfl) pass0 (pa_cons (pv 0) pa_nil)) pe_int (fun _ _ => rfl)) (pg_sub (pv 2) (pe_c c_law_taken hr (by first | decide | omega) (by rfl) pass0 (pa_cons (pv 0) (pa_cons (pe_callB (lenS K) (by rfl) G.n_len (by decide +kernel) (pa_cons (pv 2) pa_nil)) pa_nil))) set_list)))
      pss_nil)
    (Evl.pss_cut (ps_if (pt_cmpR op_eq (pe_c c_law_taken hr (by first | decide | omega) (by rfl) pass0 (pa_cons (pv 0) (pa_cons pe_int pa_nil))) pe_int (nomark _))
      (pss_one (ps_set (i := 2) sc_law_two.nd rfl (Or.inl rfl) (pe_c c_law_few hr (by first | decide | omega) (by rfl) pass0 (pa_cons (pv 0) pa_nil))))
      pss_nil)
    (pss_cons (ps_set (i := 4) sc_law_two.nd rfl (Or.inr rfl) (pe_lst (pa_cons (pe_tup (pa_cons pe_str (pa_cons pe_int (pa_cons pe_int pa_nil)))) (pa_cons (pe_tup (pa_cons pe_str (pa_cons pe_int (pa_cons pe_int pa_nil)))) pa_nil))))
    (pss_cons (ps_set (i := 5) sc_law_two.nd rfl (Or.inr rfl) (pe_c c_law_taken hr (by first | decide | omega) (by rfl) pass0 (pa_cons (pv 0) (pa_cons pe_int pa_nil))))
    (pss_cons (ps_setLc (i := 6) (own := [("_law_rows", 7)]) (g := gName 7) (tt := tYes) rfl sc_law_two.nd rfl rfl (sw_true rfl rfl rfl (by decide +kernel)) (piT K (pe_tup (pa_cons (pv 1) (pa_cons (pv 2) pa_nil)))) (blkOk_by (own := [("_law_rows", 7)]) (N := N_law_two) (sc := defScope s_law_two) (by decide +kernel)) (fun _ _ _ _ _ => (pg_name (i := 7) sc_law_two.nd rfl (Or.inl rfl))) (fun _ _ _ _ _ => pts_nil) (fun _ _ _ _ _ => (pe_c c_made hr (by first | decide | omega) (by rfl) pass0 (pa_cons (pe_callTy (tupOf K) (by rfl) G.n_tuple (by decide +kernel) (pa_cons (pe_lc (own := [("_law_one", 3)]) (g := gName 3) (tt := tYes) rfl sc_law_two.nd (piL K (pe_op op_cat (pv 7) (pv 4))) (N7.blkIn (own := [("_law_one", 3)]) (N := N_law_two) (by decide +kernel)) (fun _ _ _ _ _ => (pg_name (i := 3) sc_law_two.nd rfl (Or.inl rfl))) (fun _ _ _ _ _ => pts_nil) (fun _ _ _ _ _ => (pe_c c_law_moved hr (by first | decide | omega) (by rfl) pass0 (pa_cons (pv 3) (pa_cons (pv 5) pa_nil))))) pa_nil)) pa_nil))))
    (pss_one (ps_ret (pe_lst (pa_cons (pe_ix (ixL K) (pe_lst (pa_cons (pe_ix (ixL K) (pv 6) pe_int (fun _ _ => rfl)) (pa_cons (pe_c c_trimmed hr (by first | decide | omega) (by rfl) pass0 (pa_cons (pe_ix (ixL K) (pv 6) pe_int (fun _ _ => rfl)) pa_nil)) pa_nil))) (pe_c c_law_taken hr (by first | decide | omega) (by rfl) pass0 (pa_cons (pv 0) (pa_cons pe_int pa_nil))) (fun _ _ => rfl)) (pa_cons (pe_ix (ixL K) (pe_lst (pa_cons (pe_ix (ixL K) (pv 6) pe_int (fun _ _ => rfl)) (pa_cons (pe_c c_trimmed hr (by first | decide | omega) (by rfl) pass0 (pa_cons (pe_ix (ixL K) (pv 6) pe_int (fun _ _ => rfl)) pa_nil)) pa_nil))) (pe_c c_law_taken hr (by first | decide | omega) (by rfl) pass0 (pa_cons (pv 0) (pa_cons pe_int pa_nil))) (fun _ _ => rfl)) pa_nil))))))))))))), ?_⟩
  refine B.x_start (σ' := [some (.ref r), none, none, none, none, none, none, none]) rfl ?_
  walk_at "go"
  refine ⟨r, sc, ns, rfl, R, fun F1 ads1 prog1 H1 hF1n hF1 hr1 ne1 le1 st1 R1 k1 => ?_⟩
  have L1 : RwL H1 F1 ads1 prog1 := ⟨hF1, hr1⟩
  have nF1 : F1 ≠ r := R.new hF1n
  walk_at "go"
  intro O hO
  have k2 : Kp No H1 (upd H1 O (.lst [])) := .new hO
  have hO2 : upd H1 O (.lst []) O = some (.lst []) := upd_same
  have L12 := L1.keep0 k2
  have R2 := R1.keep0 k2
  have nOr : O ≠ r := R1.new hO
  have nFO : F1 ≠ O := ne_of_none hF1 hO
  have hOn : H O = none := by
    cases e : H O with
    | none => rfl
    | some o => rw [k1.at e nOr] at hO; cases hO
  have k02 : KR r H (upd H1 O (.lst [])) := k1.trans k2.of0
  generalize upd H1 O (.lst []) = H2 at *
  have hF12 := L12.at_
  walk_at "go"
  refine fr_l (ads1.map V.ref) (fun i σ H' => ∃ (o3 : Option V) (ads : List Addr) (prog : List Ins), σ = [some (.ref r), some (.ref F1), some (.ref O), o3, none, none, none, none] ∧ RwL H' O ads prog ∧ RwL H' F1 ads1 prog1 ∧ i ≤ prog.length ∧ prog.length ≤ 4 * i ∧ (∀ i ∈ prog, i.str S6) ∧ RowAt K H' r sc ns ∧ KR r H H') ⟨_, [], [], rfl, ⟨hO2, .nil⟩, L12, Nat.le_refl _, Nat.le_refl _, (fun i hi => by cases hi), R2, k02⟩ (fun i σ H' _ z => ?_) ?_ ?_
  · obtain ⟨o3, ads, prog, rfl, l1, l2, _⟩ := z
    exact SqL.of l2.at_
  · rintro i y σ H3 hy ⟨o3, ads, prog, rfl, l1, l2, b1, b2, st, R3, k3⟩
    rw [List.getElem?_map, Option.map_eq_some_iff] at hy
    obtain ⟨ad, had, rfl⟩ := hy
    have hi : i < prog1.length := by rw [← l2.rows.len]; exact (List.getElem?_eq_some_iff.mp had).1
    have hins : prog1[i]? = some prog1[i] := List.getElem?_eq_getElem hi
    have hrow := l2.rows.row i ad _ had hins
    have l1a := l1.at_
    walk_at "go"
    refine ⟨r, sc, ns, ad, prog1[i], rfl, rfl, R3, hrow, st1 _ (List.mem_of_getElem? hins), fun F ads' prog' H4 g1 g2 g3 g4 g5 R4 k4 => ?_⟩
    have l14 := l1.keep k4 R3.noTup nOr
    have l24 := l2.keep k4 R3.noTup nF1
    refine ⟨O, F, _, _, rfl, rfl, l14.at_, .inr g1, by rw [List.length_map, List.length_map, l14.rows.len, g2.len, sizeLine_eq]; omega, ?_⟩
    have nO := noTup_lst l14.at_
    have kO : Kp (fun z => z = O) H4 (upd H4 O (.lst (ads.map V.ref ++ ads'.map V.ref))) := .set rfl
    refine ⟨_, ads ++ ads', prog ++ prog', rfl, ⟨by rw [upd_same, List.map_append], (l14.rows.keep kO nO).append (g2.keep kO nO)⟩, l24.keep kO nO nFO, ?_, ?_, fun i hi => (List.mem_append.mp hi).elim (st i) (g5 i), RowAt.setF R hOn R4 nOr, ?_⟩
    · have : 0 < prog'.length := List.length_pos_iff.mpr g3
      rw [List.length_append]; omega
    · rw [List.length_append]; omega
    · exact (k3.trans k4).old hOn
  · rintro σ H3 ⟨o3, ads, prog, rfl, l1, l2, b1, b2, st, R3, k3⟩
    rw [List.length_map, l2.rows.len] at b1 b2
    have ne1' : 0 < prog1.length := List.length_pos_iff.mpr ne1
    have b3 : 1 ≤ prog.length := by omega
    have b4 : prog.length ≤ 24 := by omega
    clear b1 b2
    walk_at "go"
    refine x_cut (fun σ H' => ∃ (o3 : Option V) (ads : List Addr) (prog : List Ins), σ = [some (.ref r), some (.ref F1), some (.ref O), o3, none, none, none, none] ∧ RwL H' O ads prog ∧ RwL H' F1 ads1 prog1 ∧ 1 ≤ prog.length ∧ prog.length ≤ 24 ∧ (∀ i ∈ prog, i.str S6) ∧ RowAt K H' r sc ns ∧ KR r H H') ?_ ?_
    · walk_at "go"
      refine ⟨r, sc, ns, 3, rfl, rfl, by decide, by decide, R3, fun v H4 hv R4 k4 => ?_⟩
      have l14 := l1.keep k4 R3.noTup nOr
      have l24 := l2.keep k4 R3.noTup nF1
      have k04 := k3.trans k4
      walk_at "go"
      refine x_ite (fun e => ?_) (fun e => ?_)
      · walk_at "go"
        refine ⟨r, sc, ns, rfl, R4, fun F5 ads5 prog5 H5 hF5n hF5 hr5 ne5 le5 st5 R5 k5 => ?_⟩
        have l15 := l14.keep k5 R4.noTup nOr
        have l25 := l24.keep k5 R4.noTup nF1
        obtain ⟨a0, as0, rfl⟩ : ∃ a0 as0, ads5 = a0 :: as0 := by
          cases ads5 with
          | nil => exact absurd (List.length_eq_zero_iff.mp (by rw [← hr5.len]; rfl)) ne5
          | cons a0 as0 => exact ⟨a0, as0, rfl⟩
        obtain ⟨i0, is0, rfl⟩ : ∃ i0 is0, prog5 = i0 :: is0 := by
          cases prog5 with
          | nil => exact absurd rfl ne5
          | cons a0 as0 => exact ⟨a0, as0, rfl⟩
        have e5 : atI ((a0 :: as0).map V.ref) 0 = some (.ref a0) := atI_nat (j := 0) rfl
        have l15a := l15.at_
        walk_at "go"
        refine ⟨r, sc, ns, prog.length, rfl, by rw [List.length_map, l15.rows.len], b3, by omega, R5, fun v2 H6 hv2 R6 k6 => ?_⟩
        have l16 := l15.keep k6 R5.noTup nOr
        have l26 := l25.keep k6 R5.noTup nF1
        have ha0 : H6 a0 = some (.tup i0.vals) := Kp.tup k6 R5.noTup (hr5.row 0 a0 i0 rfl rfl)
        refine x_setL l16.at_ (j := v2) (Evl.ixN_nat (by rw [List.length_map, l16.rows.len]; exact hv2)) ?_
        have nO := noTup_lst l16.at_
        have kO : Kp (fun z => z = O) H6 (upd H6 O (.lst ((ads.map V.ref).set v2 (.ref a0)))) := .set rfl
        walk_at "go"
        refine ⟨_, ads.set v2 a0, prog.set v2 i0, rfl, ⟨by rw [upd_same, List.map_set], ?_⟩, l26.keep kO nO nFO, by rw [List.length_set]; exact b3, by rw [List.length_set]; exact b4, fun i hi => ?_, RowAt.setF R hOn R6 nOr, ((k04.trans k5).trans k6).old hOn⟩
        · refine ⟨by rw [List.length_set, List.length_set, l16.rows.len], fun j ad c h1 h2 => ?_⟩
          by_cases z : v2 = j
          · subst z
            rw [List.getElem?_set_self (by rw [l16.rows.len]; exact hv2)] at h1
            rw [List.getElem?_set_self hv2] at h2
            cases h1
            cases h2
            exact Kp.tup kO nO ha0
          · rw [List.getElem?_set_ne z] at h1 h2
            exact Kp.tup kO nO (l16.rows.row j ad c h1 h2)
        · rcases List.mem_or_eq_of_mem_set hi with z | z
          · exact st i z
          · rw [z]; exact up_str (st5 i0 List.mem_cons_self)
      · walk_at "go"
        exact ⟨_, ads, prog, rfl, l14, l24, b3, b4, st, R4, k04⟩
    · rintro σ H4 ⟨o3, ads, prog, rfl, l1, l2, b3, b4, st, R4, k4⟩
      walk_at "go"
      refine x_cut (fun σ H' => ∃ (o3 : Option V) (O : Addr) (ads : List Addr) (prog : List Ins), σ = [some (.ref r), some (.ref F1), some (.ref O), o3, none, none, none, none] ∧ O ≠ r ∧ RwL H' O ads prog ∧ RwL H' F1 ads1 prog1 ∧ 1 ≤ prog.length ∧ prog.length ≤ 24 ∧ (∀ i ∈ prog, i.str S6) ∧ RowAt K H' r sc ns ∧ KR r H H') ?_ ?_
      · walk_at "go"
        refine ⟨r, sc, ns, 8, rfl, rfl, by decide, by decide, R4, fun v H5 hv R5 k5 => ?_⟩
        have l15 := l1.keep k5 R4.noTup nOr
        have l25 := l2.keep k5 R4.noTup nF1
        walk_at "go"
        refine x_ite (fun e => ?_) (fun e => ?_)
        · walk_at "go"
          refine ⟨r, sc, ns, rfl, R5, fun F6 ads6 prog6 H6 hF6n hF6 hr6 ne6 le6 st6 R6 k6 => ?_⟩
          walk_at "go"
          exact ⟨_, F6, ads6, prog6, rfl, R5.new hF6n, ⟨hF6, hr6⟩, l25.keep k6 R5.noTup nF1, List.length_pos_iff.mpr ne6, by omega, fun i hi => up_str (st6 i hi), R6, (k4.trans k5).trans k6⟩
        · walk_at "go"
          exact ⟨_, O, ads, prog, rfl, nOr, l15, l25, b3, b4, st, R5, k4.trans k5⟩
      · clear l1 l2 st b3 b4 R4 k4 
        rintro σ H5 ⟨o3, O2, ads2, prog2, rfl, nO2, l1, l2, b3, b4, st, R5, k5⟩
        walk_at "go"
        intro t1 ht1
        walk_at "go"
        intro t2 ht2
        walk_at "go"
        intro ll hll
        have k6 : Kp No H5 (upd (upd (upd H5 t1 (.tup [.str "put", .int 6, .int 0])) t2 (.tup [.str "put", .int 7, .int 0])) ll (.lst [.ref t1, .ref t2])) := by walk_at "kp"
        have kx : Kp No H5 (upd (upd H5 t1 (.tup [.str "put", .int 6, .int 0])) t2 (.tup [.str "put", .int 7, .int 0])) := by walk_at "kp"
        have nll : ll ≠ r := (R5.keep0 kx).new hll
        have R6 := R5.keep0 k6
        have l16 := l1.keep0 k6
        have l26 := l2.keep0 k6
        have ll6 : RwL (upd (upd (upd H5 t1 (.tup [.str "put", .int 6, .int 0])) t2 (.tup [.str "put", .int 7, .int 0])) ll (.lst [.ref t1, .ref t2])) ll [t1, t2] [.put 6 0, .put 7 0] := ⟨upd_same, rw2 (x := .put 6 0) (y := .put 7 0) (by walk_at "hp") (by walk_at "hp")⟩
        have k06 := k5.trans k6.of0
        generalize upd (upd (upd H5 t1 (.tup [.str "put", .int 6, .int 0])) t2 (.tup [.str "put", .int 7, .int 0])) ll (.lst [.ref t1, .ref t2]) = H6 at *
        walk_at "go"
        refine ⟨r, sc, ns, 8, rfl, rfl, by decide, by decide, R6, fun far H7 hfar R7 k7 => ?_⟩
        have l17 := l16.keep k7 R6.noTup nO2
        have l27 := l26.keep k7 R6.noTup nF1
        have ll7 := ll6.keep k7 R6.noTup nll
        have k07 := k06.trans k7
        walk_at "go"
        intro dt hdt
        have k8 : Kp No H7 (upd H7 dt (.tup [.ref F1, .ref O2])) := .new hdt
        have hdt8 : upd H7 dt (.tup [.ref F1, .ref O2]) dt = some (.tup [.ref F1, .ref O2]) := upd_same
        have l18 := l17.keep0 k8
        have l28 := l27.keep0 k8
        have ll8 := ll7.keep0 k8
        have R8 := R7.keep0 k8
        have k08 := k07.trans k8.of0
        generalize upd H7 dt (.tup [.ref F1, .ref O2]) = H8 at *
        walk_at "go"
        refine lc_t [.ref F1, .ref O2] (fun D j H' => Kp No H8 H' ∧ ∃ xs : List (NAd × Net), H' D = some (.lst (xs.map fun x => V.ref x.1.p)) ∧ xs.length = j ∧ ∀ x ∈ xs, NetAt K H' x.1 x.2 ∧ NetOk (SF far) x.2 ∧ x.2.cells.length ≤ 1900) (fun D hD => ⟨.new hD, [], upd_same, rfl, fun x hx => by cases hx⟩) (fun D j H' _ z => SqT.of (z.1.at0 hdt8)) ?_ ?_
        · rintro D j y H9 hD hy ⟨k9, xs, g1, g2, g3⟩
          have hj2 : j < 2 := (List.getElem?_eq_some_iff.mp hy).1
          obtain ⟨Fx, adx, prx, rfl, lx8, c1, c2⟩ : ∃ (Fx : Addr) (adx : List Addr) (prx : List Ins), y = .ref Fx ∧ RwL H8 Fx adx prx ∧ prx.length ≤ 24 ∧ ∀ i ∈ prx, i.str S6 := by
            match j, hy with
            | 0, hy => cases hy; exact ⟨F1, ads1, prog1, rfl, l28, by omega, fun i hi => up_str (st1 i hi)⟩
            | 1, hy => cases hy; exact ⟨O2, ads2, prog2, rfl, l18, b4, st⟩
          have lx9 := lx8.keep0 k9
          have ll9 := ll8.keep0 k9
          walk_at "go"
          refine ⟨rfl, ?_⟩
          walk_at "go"
          refine ⟨Fx, ll, _, _, rfl, rfl, lx9.at_, ll9.at_, by rw [List.length_map, List.length_map, lx9.rows.len, sizeLine_eq]; show _ + 2 ≤ _; omega, fun pl hpl => ?_⟩
          have k10 : Kp No H9 (upd H9 pl (.lst (adx.map V.ref ++ [t1, t2].map V.ref))) := .new hpl
          have hpl10 : upd H9 pl (.lst (adx.map V.ref ++ [t1, t2].map V.ref)) pl = some (.lst ((adx ++ [t1, t2]).map V.ref)) := by rw [upd_same, List.map_append]
          have rw10 := (lx9.rows.keep0 k10).append (ll9.rows.keep0 k10)
          have sp6 : (Ins.put 6 0).str S6 := ⟨⟨by decide, .inr (.inl rfl)⟩, by decide⟩
          have sp7 : (Ins.put 7 0).str S6 := ⟨⟨by decide, .inr (.inr rfl)⟩, by decide⟩
          have allS : ∀ i ∈ prx ++ [Ins.put 6 0, .put 7 0], i.str S6 := fun i hi => (List.mem_append.mp hi).elim (c2 i) (allc sp6 (all1 sp7) i)
          have hlen10 : (prx ++ [Ins.put 6 0, .put 7 0]).length ≤ 26 := by rw [List.length_append]; show _ + 2 ≤ 26; omega
          have hne10 : prx ++ [Ins.put 6 0, .put 7 0] ≠ [] := by simp
          generalize prx ++ [Ins.put 6 0, .put 7 0] = pr at *
          generalize adx ++ [t1, t2] = ad at *
          generalize upd H9 pl (.lst (adx.map V.ref ++ [t1, t2].map V.ref)) = H10 at *
          walk_at "go"
          refine lc_l (ad.map V.ref) (fun D2 i H' => Kp No H10 H' ∧ ∃ mads : List Addr, H' D2 = some (.lst (mads.map V.ref)) ∧ RwAt H' mads ((pr.take i).map (Ins.mv far))) (fun D2 hD2 => ⟨.new hD2, [], upd_same, .nil⟩) (fun D2 i H' _ z => SqL.of (z.1.at0 hpl10)) ?_ ?_
          · rintro D2 i y H11 hD2 hy2 ⟨k11, mads, m1, m2⟩
            rw [List.getElem?_map, Option.map_eq_some_iff] at hy2
            obtain ⟨a0, ha0, rfl⟩ := hy2
            have hi : i < pr.length := by rw [← rw10.len]; exact (List.getElem?_eq_some_iff.mp ha0).1
            have hins : pr[i]? = some pr[i] := List.getElem?_eq_getElem hi
            walk_at "go"
            refine ⟨rfl, ?_⟩
            walk_at "go"
            refine ⟨a0, pr[i], far, rfl, rfl, k11.at0 (rw10.row i a0 _ ha0 hins), allS _ (List.mem_of_getElem? hins), hfar, fun p H12 hp12 k12 => ?_⟩
            have m12 := k12.at0 m1
            have m22 := m2.keep0 k12
            have hml := m22.len
            rw [List.length_map, List.length_take] at hml
            refine ⟨_, m12, by rw [List.length_map, sizeLine_eq]; omega, (k11.trans k12).old hD2, mads ++ [p], by rw [upd_same, List.map_append]; rfl, ?_⟩
            rw [take_one hins, List.map_append]
            exact (m22.keep (Kp.set (M := fun z => z = D2) rfl) (noTup_lst m12)).snoc (Kp.tup (Kp.set (M := fun z => z = D2) rfl) (noTup_lst m12) hp12)
          · rintro D2 H11 hD2 ⟨k11, mads, m1, m2⟩
            rw [List.length_map, rw10.len, List.take_length] at m2
            walk_at "go"
            intro tp htp
            have k12 : Kp No H9 (upd H11 tp (.tup (mads.map V.ref))) := (k10.trans k11).trans (.new htp)
            walk_at "go"
            refine ⟨SF far, _, rfl, tp, pr.map (Ins.mv far), mads, rfl, ⟨upd_same, m2.len, fun i a c h1 h2 => (m2.keep0 (.new htp)).row i a c h1 h2⟩, ⟨by simpa using hne10, by rw [List.length_map]; omega, fun i hi => ?_⟩, by rw [List.length_map]; exact hlen10, fun i hi => ?_, fun bn N H13 okN leN hN k13 => ?_⟩
            · obtain ⟨i0, h0, rfl⟩ := List.mem_map.mp hi
              exact str_ok (mv_str (allS i0 h0)) _
            · obtain ⟨i0, h0, rfl⟩ := List.mem_map.mp hi
              exact mv_str (allS i0 h0)
            have k93 := k12.trans k13
            have g13 := k93.at0 g1
            refine ⟨_, g13, by rw [List.length_map, g2, sizeLine_eq]; omega, (k9.trans k93).old hD, xs ++ [(bn, N)], by rw [upd_same, List.map_append]; rfl, by rw [List.length_append, g2]; rfl, fun x hx => ?_⟩
            have kD : Kp (fun z => z = D) H13 (upd H13 D (.lst ((xs.map fun x => V.ref x.1.p) ++ [.ref bn.p]))) := .set rfl
            rcases List.mem_append.mp hx with z | z
            · obtain ⟨q1, q2, q3⟩ := g3 x z
              exact ⟨(q1.keep0 k93).keep kD (noTup_lst g13), q2, q3⟩
            · rw [List.mem_singleton] at z
              rw [z]
              exact ⟨hN.keep kD (noTup_lst g13), okN, leN⟩
        · rintro D H9 hD ⟨k9, xs, g1, g2, g3⟩
          obtain ⟨x1, x2, rfl⟩ : ∃ x1 x2, xs = [x1, x2] := by
            match xs, g2 with
            | [x1, x2], _ => exact ⟨x1, x2, rfl⟩
          obtain ⟨n1, o1, e1⟩ := g3 x1 List.mem_cons_self
          obtain ⟨n2, o2, e2⟩ := g3 x2 (List.mem_cons_of_mem _ List.mem_cons_self)
          have R9 := R8.keep0 k9
          have k09 := k08.trans k9.of0
          have nDr : D ≠ r := R8.new hD
          have z0 : atI ([x1, x2].map fun x => V.ref x.1.p) 0 = some (.ref x1.1.p) := rfl
          have z1 : atI ([x1, x2].map fun x => V.ref x.1.p) 1 = some (.ref x2.1.p) := rfl
          walk_at "go"
          refine ⟨SF far, _, rfl, x1.1, x1.2, rfl, n1, o1, fun a10 N10 H10 hN10 ok10 le10 k10 => ?_⟩
          have R10 := R9.keep0 k10
          have k010 := k09.trans k10.of0
          have n110 := n1.keep0 k10
          have n210 := n2.keep0 k10
          have g10 := k10.at0 g1
          walk_at "go"
          intro l1' hl1
          have k11 : Kp No H10 (upd H10 l1' (.lst [.ref x1.1.p, .ref a10.p])) := .new hl1
          have nl1 : l1' ≠ r := R10.new hl1
          have hl11 : upd H10 l1' (.lst [.ref x1.1.p, .ref a10.p]) l1' = some (.lst [.ref x1.1.p, .ref a10.p]) := upd_same
          have R11 := R10.keep0 k11
          generalize upd H10 l1' (.lst [.ref x1.1.p, .ref a10.p]) = H11 at *
          walk_at "go"
          refine ⟨r, sc, ns, 2, rfl, rfl, by decide, by decide, R11, fun v H12 hv R12 k12 => ?_⟩
          have nt12 := R11.noTup
          obtain ⟨b1, N1, hb1, on1, ok1, le1'⟩ : ∃ (b1 : NAd) (N1 : Net), atI [V.ref x1.1.p, .ref a10.p] (v : Int) = some (.ref b1.p) ∧ NetAt K H12 b1 N1 ∧ NetOk (SF far) N1 ∧ N1.cells.length ≤ 1900 := by
            match v, hv with
            | 0, _ => exact ⟨x1.1, x1.2, rfl, (n110.keep0 k11).keep k12 nt12, o1, e1⟩
            | 1, _ => exact ⟨a10, N10, rfl, (hN10.keep0 k11).keep k12 nt12, ok10, by omega⟩
          have hl112 := k12.at hl11 nl1
          have g12 := k12.at (k11.at0 g10) nDr
          have n212 := (n210.keep0 k11).keep k12 nt12
          have k012 := (k010.trans k11.of0).trans k12
          walk_at "go"
          refine ⟨SF far, _, rfl, x2.1, x2.2, rfl, n212, o2, fun a13 N13 H13 hN13 ok13 le13 k13 => ?_⟩
          have R13 := R12.keep0 k13
          have on13 := on1.keep0 k13
          have n213 := n212.keep0 k13
          walk_at "go"
          intro l2' hl2
          have k14 : Kp No H13 (upd H13 l2' (.lst [.ref x2.1.p, .ref a13.p])) := .new hl2
          have nl2 : l2' ≠ r := R13.new hl2
          have hl21 : upd H13 l2' (.lst [.ref x2.1.p, .ref a13.p]) l2' = some (.lst [.ref x2.1.p, .ref a13.p]) := upd_same
          have R14 := R13.keep0 k14
          generalize upd H13 l2' (.lst [.ref x2.1.p, .ref a13.p]) = H14 at *
          walk_at "go"
          refine ⟨r, sc, ns, 2, rfl, rfl, by decide, by decide, R14, fun v2 H15 hv2 R15 k15 => ?_⟩
          have nt15 := R14.noTup
          obtain ⟨b2, N2, hb2, on2, ok2, le2'⟩ : ∃ (b2 : NAd) (N2 : Net), atI [V.ref x2.1.p, .ref a13.p] (v2 : Int) = some (.ref b2.p) ∧ NetAt K H15 b2 N2 ∧ NetOk (SF far) N2 ∧ N2.cells.length ≤ 1900 := by
            match v2, hv2 with
            | 0, _ => exact ⟨x2.1, x2.2, rfl, (n213.keep0 k14).keep k15 nt15, o2, e2⟩
            | 1, _ => exact ⟨a13, N13, rfl, (hN13.keep0 k14).keep k15 nt15, ok13, by omega⟩
          have hl215 := k15.at hl21 nl2
          have on15 := (on13.keep0 k14).keep k15 nt15
          walk_at "go"
          intro lr hlr
          have k16 : Kp No H15 (upd H15 lr (.lst [.ref b1.p, .ref b2.p])) := .new hlr
          exact q lr (SF far) b1 b2 N1 N2 _ (few_SF far) ok1 ok2 le1' le2' (on15.keep0 k16) (on2.keep0 k16) upd_same (R15.keep0 k16) ((((k012.trans k13.of0).trans k14.of0).trans k15).trans k16.of0)
end
end K7
namespace K7
open PySem PySem.Spec PyProof.Rows L2 B N7
theorem Cell.ok.imp {S T : Nat → Prop} {i m : Nat} (h : ∀ r, S r → T r) : ∀ {c : Cell}, c.ok S i m → c.ok T i m
  | .none, _ => trivial
  | .first, _ => trivial
  | .bit _, q => ⟨q.1, h _ q.2⟩
  | .inv _, q => q
  | .gate _ _ _, q => q
  | .later _, q => q
theorem NetOk.imp {S T : Nat → Prop} {N : Net} (o : NetOk S N) (h : ∀ r, S r → T r) : NetOk T N :=
  ⟨o.few, fun i c hc => (o.ok i c hc).imp h, ⟨o.lo.up, fun p hp => ⟨⟨(o.lo.at_ p hp).1.1, h _ (o.lo.at_ p hp).1.2⟩, (o.lo.at_ p hp).2⟩⟩, o.fl⟩
def SN (low : Nat) : Nat → Prop := fun r => r = low ∨ r = low + 1
theorem few_SN (a b : Nat) : FewS fun r => SN a r ∨ SN b r := ⟨[a, a + 1, b, b + 1], by simp, fun r _ h => by
  rcases h with (rfl | rfl) | (rfl | rfl) <;> simp⟩
theorem PrOk.snoc {P : Nat → Prop} {n : Nat} {ps : List (Nat × Nat)} (h : PrOk P n ps) {r c : Nat} (hr : P r) (hc : c < n) (hl : ∀ p ∈ ps, p.1 < r) : PrOk P n (ps ++ [(r, c)]) := by
  refine ⟨?_, fun p hp => ?_⟩
  · rw [List.map_append, List.pairwise_append]
    refine ⟨h.up, by simp, fun a ha b hb => ?_⟩
    simp only [List.map_cons, List.map_nil, List.mem_singleton] at hb
    obtain ⟨p, hp, rfl⟩ := List.mem_map.mp ha
    rw [hb]
    exact hl p hp
  · rcases List.mem_append.mp hp with z | z
    · exact h.at_ p z
    · rw [List.mem_singleton] at z; rw [z]; exact ⟨hr, hc⟩
theorem PrOk.nil {P : Nat → Prop} {n : Nat} : PrOk P n [] := ⟨List.Pairwise.nil, fun p hp => by cases hp⟩
section
variable {P : Program} {w : World} {K : PySem.W.Frag} {mg : Str → Option Value} {base : Heap} {d : Ads} {C : Addr} {H H' : Hp} {r sc : Addr} {ns : List Int}
def pNetL (K : PySem.W.Frag) : V → V → V → Hp → VK → XK → Prop := fun a b c H Q _ => ∃ (r sc : Addr) (ns : List Int), a = .ref r ∧ b = nt 6 ∧ c = nt 2 ∧ RowAt K H r sc ns ∧ ∀ (low : Nat) (b : NAd) (N : Net) H', NetOk (SN low) N → N.cells.length ≤ 6 → NetAt K H' b N → RowAt K H' r sc ns → KR r H H' → Q (.ref b.p) H'
theorem ok_netL (G : Txt K w mg d) (D : Df K mg "_law_net" s_law_net ["_law_row", "_law_most", "_law_loops"]) (c_law_taken : Cal P w K mg base CX0 1 "_law_taken" (sp2 (pTaken K))) : Cal P w K mg base CX0 2 "_law_net" (sp3 (pNetL K)) := by
  refine cal0 D sc_law_net rfl fun f cdv A outer s0 H vs Q E hr h => ?_
  obtain ⟨_, _, _, rfl, r, sc, ns, rfl, rfl, rfl, R, q⟩ := h
  refine ⟨_, (pss_cons (ps_set (i := 3) sc_law_net.nd rfl (Or.inr rfl) (pe_op op_add pe_int (pe_c c_law_taken hr (by first | decide | omega) (by rfl) pass0 (pa_cons (pv 0) (pa_cons (pv 1) pa_nil)))))
    (pss_cons (ps_set (i := 4) sc_law_net.nd rfl (Or.inr rfl) (pe_c c_law_taken hr (by first | decide | omega) (by rfl) pass0 (pa_cons (pv 0) (pa_cons (pe_op op_sub pe_int (pv 2)) pa_nil))))
    (pss_cons (ps_set (i := 5) sc_law_net.nd rfl (Or.inl rfl) (pe_lst pa_nil))
    (pss_cons (ps_for PassesOwn.never rfl (pi_range1 (by rfl) G.n_range (pa_cons (pv 3) pa_nil)) (pg_name (i := 6) sc_law_net.nd rfl (Or.inl rfl))
      (Evl.pss_cut (ps_set (i := 7) sc_law_net.nd rfl (Or.inl rfl) (pe_ifExp (pt_cmpR op_gt (pv 6) pe_int (nomark _)) (pe_c c_law_taken hr (by first | decide | omega) (by rfl) pass0 (pa_cons (pv 0) (pa_cons pe_int pa_nil))) (pe_c c_law_taken hr (by first | decide | omega) (by rfl) pass0 (pa_cons (pv 0) (pa_cons pe_int pa_nil)))))
      (pss_one (ps_if (pt_cmpR op_lt (pv 7) pe_int (nomark _))
        (pss_cons (ps_set (i := 8) sc_law_net.nd rfl (Or.inl rfl) (pe_lst (pa_cons (pe_tup (pa_cons pe_str (pa_cons (pe_op op_add (pv 4) (pe_c c_law_taken hr (by first | decide | omega) (by rfl) pass0 (pa_cons (pv 0) (pa_cons (pv 2) pa_nil)))) pa_nil))) (pa_cons (pe_tup (pa_cons pe_str pa_nil)) (pa_cons (pe_tup (pa_cons pe_str pa_nil)) pa_nil)))))
        (pss_one (ps_expr (bm K PySem.F.plainAttrs_list PySem.F.slot_list_append PySem.F.type_list_append mt_append (pv 5) (pa_cons (pe_ix (ixL K) (pv 8) (pe_ix (ixL K) (pe_lst (pa_cons pe_int (pa_cons pe_int (pa_cons pe_int (pa_cons pe_int (pa_cons pe_int (pa_cons pe_int pa_nil))))))) (pe_c c_law_taken hr (by first | decide | omega) (by rfl) pass0 (pa_cons (pv 0) (pa_cons pe_int pa_nil))) (fun _ _ => rfl)) (fun _ _ => rfl)) pa_nil)))))
        (pss_one (ps_if (pt_cmpR op_lt (pv 7) pe_int (nomark _))
          (pss_one (ps_expr (bm K PySem.F.plainAttrs_list PySem.F.slot_list_append PySem.F.type_list_append mt_append (pv 5) (pa_cons (pe_tup (pa_cons pe_str (pa_cons (pe_c c_law_taken hr (by first | decide | omega) (by rfl) pass0 (pa_cons (pv 0) (pa_cons (pv 3) pa_nil))) pa_nil))) pa_nil))))
          (pss_one (ps_if (pt_cmpR op_eq (pv 7) pe_int (nomark _))
            (pss_one (ps_expr (bm K PySem.F.plainAttrs_list PySem.F.slot_list_append PySem.F.type_list_append mt_append (pv 5) (pa_cons (pe_tup (pa_cons pe_str (pa_cons (pe_c c_law_taken hr (by first | decide | omega) (by rfl) pass0 (pa_cons (pv 0) (pa_cons (pv 6) pa_nil))) pa_nil))) pa_nil))))
            (pss_cons (ps_set (i := 9) sc_law_net.nd rfl (Or.inl rfl) (pe_ix (ixL K) (pe_lst (pa_cons pe_str (pa_cons pe_str (pa_cons pe_str (pa_cons pe_str (pa_cons pe_str pa_nil)))))) (pe_op op_sub (pv 7) pe_int) (fun _ _ => rfl)))
            (pss_one (ps_expr (bm K PySem.F.plainAttrs_list PySem.F.slot_list_append PySem.F.type_list_append mt_append (pv 5) (pa_cons (pe_tup (pa_cons (pv 9) (pa_cons (pe_c c_law_taken hr (by first | decide | omega) (by rfl) pass0 (pa_cons (pv 0) (pa_cons (pv 6) pa_nil))) (pa_cons (pe_c c_law_taken hr (by first | decide | omega) (by rfl) pass0 (pa_cons (pv 0) (pa_cons (pv 6) pa_nil))) pa_nil)))) pa_nil)))))))))))))
    (pss_cons (ps_setLc (i := 10) (own := [("_law_k", 11)]) (g := gName 11) rfl sc_law_net.nd rfl rfl (sw_true rfl rfl rfl (by decide +kernel)) (pi_range1 (by rfl) G.n_range (pa_cons (pv 2) pa_nil)) (blkOk_by (own := [("_law_k", 11)]) (N := N_law_net) (sc := defScope s_law_net) (by decide +kernel)) (fun _ _ _ _ _ => (pg_name (i := 11) sc_law_net.nd rfl (Or.inl rfl))) (fun _ _ _ _ _ => pts_one (pt_cmpR op_gt (pe_c c_law_taken hr (by first | decide | omega) (by rfl) pass0 (pa_cons (pv 0) (pa_cons pe_int pa_nil))) pe_int (nomark _))) (fun _ _ _ _ _ => (pe_tup (pa_cons (pe_op op_add (pv 4) (pv 11)) (pa_cons (pe_c c_law_taken hr (by first | decide | omega) (by rfl) pass0 (pa_cons (pv 0) (pa_cons (pv 3) pa_nil))) pa_nil)))))
    (pss_cons (ps_setLc (i := 12) (own := [("_law_flag", 13)]) (g := gName 13) rfl sc_law_net.nd rfl rfl (sw_true rfl rfl rfl (by decide +kernel)) (pi_range1 (by rfl) G.n_range (pa_cons pe_int pa_nil)) (blkOk_by (own := [("_law_flag", 13)]) (N := N_law_net) (sc := defScope s_law_net) (by decide +kernel)) (fun _ _ _ _ _ => (pg_name (i := 13) sc_law_net.nd rfl (Or.inl rfl))) (fun _ _ _ _ _ => pts_one (pt_cmpR op_eq (pe_c c_law_taken hr (by first | decide | omega) (by rfl) pass0 (pa_cons (pv 0) (pa_cons pe_int pa_nil))) pe_int (nomark _))) (fun _ _ _ _ _ => (pe_tup (pa_cons (pv 13) (pa_cons (pe_c c_law_taken hr (by first | decide | omega) (by rfl) pass0 (pa_cons (pv 0) (pa_cons (pv 3) pa_nil))) pa_nil)))))
    (pss_one (ps_ret (pe_tup (pa_cons (pe_callTy (N7.tupF K) (by rfl) G.n_tuple (by decide +kernel) (pa_cons (pv 5) pa_nil)) (pa_cons (pe_callTy (N7.tupF K) (by rfl) G.n_tuple (by decide +kernel) (pa_cons (pv 10) pa_nil)) (pa_cons (pe_callTy (N7.tupF K) (by rfl) G.n_tuple (by decide +kernel) (pa_cons (pv 12) pa_nil)) pa_nil)))))))))))), ?_⟩
  refine B.x_start (σ' := [some (.ref r), some (nt 6), some (nt 2), none, none, none, none, none, none, none, none, none, none, none]) rfl ?_
  walk_at "go"
  refine ⟨r, sc, ns, 6, rfl, rfl, by decide, by decide, R, fun many0 H1 hmany R1 k1 => ?_⟩
  walk_at "go"
  refine ⟨r, sc, ns, 7, rfl, rfl, by decide, by decide, R1, fun low H2 hlow R2 k2 => ?_⟩
  rw [show (1 : Int) + (many0 : Int) = ((many0 + 1 : Nat) : Int) by omega]
  obtain ⟨many, hm⟩ : ∃ many, many = many0 + 1 := ⟨_, rfl⟩
  rw [← hm]
  have hm6 : 1 ≤ many ∧ many ≤ 6 := by omega
  have k02 := k1.trans k2
  walk_at "go"
  intro F hF
  have k3 : Kp No H2 (upd H2 F (.lst [])) := .new hF
  have hF3 : upd H2 F (.lst []) F = some (.lst []) := upd_same
  have R3 := R2.keep0 k3
  have nF : F ≠ r := R2.new hF
  have hFn : H F = none := by
    cases e : H F with
    | none => rfl
    | some o => rw [k02.at e nF] at hF; cases hF
  have k03 := k02.trans k3.of0
  generalize upd H2 F (.lst []) = H3 at *
  walk_at "go"
  refine fr_r (n := many) (fun i σ H' => ∃ (o6 o7 o8 o9 o10 o11 o12 o13 o14 : Option V) (ads : List Addr) (cs : List Cell), σ = [some (.ref r), some (nt 6), some (nt 2), some (nt many), some (nt low), some (.ref F), o6, o7, o8, o9, o10, o11, o12, o13] ∧ H' F = some (.lst (ads.map V.ref)) ∧ ClAt H' ads cs ∧ cs.length = i ∧ (∀ (j : Nat) (c : Cell), cs[j]? = some c → c.ok (SN low) j many) ∧ RowAt K H' r sc ns ∧ KR r H H') ⟨_, _, _, _, _, _, _, _, none, [], [], rfl, hF3, .nil, rfl, (fun j c h => by simp at h), R3, k03⟩ ?_ ?_
  · rintro i σ H4 hi ⟨o6, o7, o8, o9, o10, o11, o12, o13, _, ads, cs, rfl, e1, e2, e3, e4, R4, k4⟩
    walk_at "go"
    refine x_cut (fun σ H' => ∃ way : Nat, σ = [some (.ref r), some (nt 6), some (nt 2), some (nt many), some (nt low), some (.ref F), some (nt i), some (nt way), o8, o9, o10, o11, o12, o13] ∧ way < 12 ∧ (i = 0 → way < 3) ∧ RowAt K H' r sc ns ∧ KR r H4 H') ?_ ?_
    · walk_at "go"
      refine x_ite (fun e => ?_) (fun e => ?_)
      · walk_at "go"
        refine ⟨r, sc, ns, 12, rfl, rfl, by decide, by decide, R4, fun way H5 hw R5 k5 => ?_⟩
        walk_at "go"
        exact ⟨way, rfl, hw, fun z => by subst z; simp at e, R5, k5⟩
      · walk_at "go"
        refine ⟨r, sc, ns, 3, rfl, rfl, by decide, by decide, R4, fun way H5 hw R5 k5 => ?_⟩
        walk_at "go"
        exact ⟨way, rfl, by omega, fun _ => hw, R5, k5⟩
    rintro σ H5 ⟨way, rfl, hw, hw0, R5, k5⟩
    have e15 := k5.at e1 nF
    have e25 := e2.keep k5 R4.noTup
    have k05 := k4.trans k5
    have hlen : ads.length = i := by rw [e25.len, e3]
    -- a cell put at the end
    have fin : ∀ (H6 : Hp) (t : Addr) (c : Cell) (o8 o9 : Option V), KR r H5 H6 → H6 F = some (.lst (ads.map V.ref)) → ClAt H6 ads cs → RowAt K H6 r sc ns → H6 t = some (.tup c.vals) → c.ok (SN low) i many →
        ∃ (o6 o7 o8' o9' o10' o11' o12' o13' o14 : Option V) (ads' : List Addr) (cs' : List Cell), [some (V.ref r), some (nt 6), some (nt 2), some (nt many), some (nt low), some (.ref F), some (nt i), some (nt way), o8, o9, o10, o11, o12, o13] = [some (V.ref r), some (nt 6), some (nt 2), some (nt many), some (nt low), some (.ref F), o6, o7, o8', o9', o10', o11', o12', o13'] ∧ upd H6 F (.lst (ads.map V.ref ++ [.ref t])) F = some (.lst (ads'.map V.ref)) ∧ ClAt (upd H6 F (.lst (ads.map V.ref ++ [.ref t]))) ads' cs' ∧ cs'.length = i + 1 ∧ (∀ (j : Nat) (c : Cell), cs'[j]? = some c → c.ok (SN low) j many) ∧ RowAt K (upd H6 F (.lst (ads.map V.ref ++ [.ref t]))) r sc ns ∧ KR r H (upd H6 F (.lst (ads.map V.ref ++ [.ref t]))) := by
      intro H6 t c o8 o9 k6 f1 f2 R6 ht hc
      have kF : Kp (fun z => z = F) H6 (upd H6 F (.lst (ads.map V.ref ++ [.ref t]))) := .set rfl
      refine ⟨_, _, _, _, _, _, _, _, none, ads ++ [t], cs ++ [c], rfl, by rw [upd_same, List.map_append]; rfl, (f2.keep kF (noTup_lst f1)).snoc (Kp.tup kF (noTup_lst f1) ht), by rw [List.length_append, e3]; rfl, fun j c2 h2 => ?_, RowAt.setF R hFn R6 nF, (k05.trans k6).old hFn⟩
      rcases Nat.lt_trichotomy j cs.length with z | z | z
      · rw [List.getElem?_append_left z] at h2
        exact e4 j c2 h2
      · subst z
        rw [List.getElem?_append_right (Nat.le_refl _), Nat.sub_self] at h2
        cases h2
        rw [e3]
        exact hc
      · rw [List.getElem?_eq_none (by simp; omega)] at h2
        cases h2
    have hfl : (ads.map V.ref).length < 16777216 := by rw [List.length_map]; omega
    walk_at "go"
    refine x_ite (fun e => ?_) (fun e => ?_)
    · walk_at "go"
      refine ⟨r, sc, ns, 2, rfl, rfl, by decide, by decide, R5, fun b H6 hb R6 k6 => ?_⟩
      have e16 := k6.at e15 nF
      have e26 := e25.keep k6 R5.noTup
      walk_at "go"
      intro t1 ht1
      walk_at "go"
      intro t2 ht2
      walk_at "go"
      intro t3 ht3
      walk_at "go"
      intro kl hkl
      have k7 : Kp No H6 (upd (upd (upd (upd H6 t1 (.tup [.str "bit", .int ((low : Int) + (b : Int))])) t2 (.tup [.str "first"])) t3 (.tup [.str "none"])) kl (.lst [.ref t1, .ref t2, .ref t3])) := by walk_at "kp"
      have nkl : kl ≠ r := by
        have kx : Kp No H6 (upd (upd (upd H6 t1 (.tup [.str "bit", .int ((low : Int) + (b : Int))])) t2 (.tup [.str "first"])) t3 (.tup [.str "none"])) := by walk_at "kp"
        exact (R6.keep0 kx).new hkl
      have g1 : upd (upd (upd (upd H6 t1 (.tup [.str "bit", .int ((low : Int) + (b : Int))])) t2 (.tup [.str "first"])) t3 (.tup [.str "none"])) kl (.lst [.ref t1, .ref t2, .ref t3]) t1 = some (.tup (Cell.bit (low + b)).vals) := by
        have : upd (upd (upd (upd H6 t1 (.tup [.str "bit", .int ((low : Int) + (b : Int))])) t2 (.tup [.str "first"])) t3 (.tup [.str "none"])) kl (.lst [.ref t1, .ref t2, .ref t3]) t1 = some (.tup [.str "bit", .int ((low : Int) + (b : Int))]) := by walk_at "hp"
        exact this
      have g2 : upd (upd (upd (upd H6 t1 (.tup [.str "bit", .int ((low : Int) + (b : Int))])) t2 (.tup [.str "first"])) t3 (.tup [.str "none"])) kl (.lst [.ref t1, .ref t2, .ref t3]) t2 = some (.tup Cell.first.vals) := by
        have : upd (upd (upd (upd H6 t1 (.tup [.str "bit", .int ((low : Int) + (b : Int))])) t2 (.tup [.str "first"])) t3 (.tup [.str "none"])) kl (.lst [.ref t1, .ref t2, .ref t3]) t2 = some (.tup [.str "first"]) := by walk_at "hp"
        exact this
      have g3 : upd (upd (upd (upd H6 t1 (.tup [.str "bit", .int ((low : Int) + (b : Int))])) t2 (.tup [.str "first"])) t3 (.tup [.str "none"])) kl (.lst [.ref t1, .ref t2, .ref t3]) t3 = some (.tup Cell.none.vals) := by
        have : upd (upd (upd (upd H6 t1 (.tup [.str "bit", .int ((low : Int) + (b : Int))])) t2 (.tup [.str "first"])) t3 (.tup [.str "none"])) kl (.lst [.ref t1, .ref t2, .ref t3]) t3 = some (.tup [.str "none"]) := by walk_at "hp"
        exact this
      have g4 : upd (upd (upd (upd H6 t1 (.tup [.str "bit", .int ((low : Int) + (b : Int))])) t2 (.tup [.str "first"])) t3 (.tup [.str "none"])) kl (.lst [.ref t1, .ref t2, .ref t3]) kl = some (.lst [.ref t1, .ref t2, .ref t3]) := upd_same
      generalize upd (upd (upd (upd H6 t1 (.tup [.str "bit", .int ((low : Int) + (b : Int))])) t2 (.tup [.str "first"])) t3 (.tup [.str "none"])) kl (.lst [.ref t1, .ref t2, .ref t3]) = H7 at *
      have e17 := k7.at0 e16
      walk_at "go"
      intro l6 hl6
      have k8 : Kp No H7 (upd H7 l6 (.lst [.int 0, .int 0, .int 0, .int 0, .int 1, .int 2])) := .new hl6
      have R7 := R6.keep0 k7
      have nl6 : l6 ≠ r := R7.new hl6
      have hl66 : upd H7 l6 (.lst [.int 0, .int 0, .int 0, .int 0, .int 1, .int 2]) l6 = some (.lst [.int 0, .int 0, .int 0, .int 0, .int 1, .int 2]) := upd_same
      have R8 := R7.keep0 k8
      have e18 := k8.at0 e17
      have g48 := k8.at0 g4
      have g18 := k8.at0 g1
      have g28 := k8.at0 g2
      have g38 := k8.at0 g3
      generalize upd H7 l6 (.lst [.int 0, .int 0, .int 0, .int 0, .int 1, .int 2]) = H8 at *
      walk_at "go"
      refine ⟨r, sc, ns, 6, rfl, rfl, by decide, by decide, R8, fun v H9 hv R9 k9 => ?_⟩
      have e19 := k9.at e18 nF
      have g49 := k9.at g48 nkl
      have hl69 := k9.at hl66 nl6
      have nt8 := R8.noTup
      obtain ⟨m, hm1, hm2⟩ : ∃ m : Nat, atI [V.int 0, .int 0, .int 0, .int 0, .int 1, .int 2] (v : Int) = some (nt m) ∧ m < 3 := by
        match v, hv with
        | 0, _ => exact ⟨0, rfl, by decide⟩
        | 1, _ => exact ⟨0, rfl, by decide⟩
        | 2, _ => exact ⟨0, rfl, by decide⟩
        | 3, _ => exact ⟨0, rfl, by decide⟩
        | 4, _ => exact ⟨1, rfl, by decide⟩
        | 5, _ => exact ⟨2, rfl, by decide⟩
      obtain ⟨t, c, ht, hct, hcok⟩ : ∃ (t : Addr) (c : Cell), atI [V.ref t1, .ref t2, .ref t3] (m : Int) = some (.ref t) ∧ H9 t = some (.tup c.vals) ∧ c.ok (SN low) i many := by
        match m, hm2 with
        | 0, _ => exact ⟨t1, .bit (low + b), rfl, Kp.tup k9 nt8 g18, by omega, by unfold SN; omega⟩
        | 1, _ => exact ⟨t2, .first, rfl, Kp.tup k9 nt8 g28, trivial⟩
        | 2, _ => exact ⟨t3, .none, rfl, Kp.tup k9 nt8 g38, trivial⟩
      walk_at "go"
      exact fin H9 t c _ _ (k6.trans ((k7.trans k8).of0.trans k9)) e19 (((e26.keep0 k7).keep0 k8).keep k9 nt8) R9 hct hcok
    · walk_at "go"
      have hi0 : 0 < i := by
        rcases Nat.eq_zero_or_pos i with z | z
        · have := hw0 z; simp at e; omega
        · exact z
      refine x_ite (fun e2' => ?_) (fun e2' => ?_)
      · walk_at "go"
        refine ⟨r, sc, ns, many, rfl, rfl, by omega, by omega, R5, fun l H6 hl R6 k6 => ?_⟩
        have e16 := k6.at e15 nF
        have e26 := e25.keep k6 R5.noTup
        walk_at "go"
        intro t ht
        have k7 : Kp No H6 (upd H6 t (.tup [.str "later", nt l])) := .new ht
        have e17 := k7.at0 e16
        walk_at "go"
        exact fin _ t (.later l) _ _ (k6.trans k7.of0) e17 (e26.keep0 k7) (R6.keep0 k7) upd_same hl
      · walk_at "go"
        refine x_ite (fun e3' => ?_) (fun e3' => ?_)
        · walk_at "go"
          refine ⟨r, sc, ns, i, rfl, rfl, by omega, by omega, R5, fun l H6 hl R6 k6 => ?_⟩
          have e16 := k6.at e15 nF
          have e26 := e25.keep k6 R5.noTup
          walk_at "go"
          intro t ht
          have k7 : Kp No H6 (upd H6 t (.tup [.str "not", nt l])) := .new ht
          have e17 := k7.at0 e16
          walk_at "go"
          exact fin _ t (.inv l) _ _ (k6.trans k7.of0) e17 (e26.keep0 k7) (R6.keep0 k7) upd_same hl
        · walk_at "go"
          intro wl hwl
          have k6 : Kp No H5 (upd H5 wl (.lst [.str "and", .str "or", .str "odd", .str "odd", .str "and"])) := .new hwl
          obtain ⟨g, hg⟩ : ∃ g : G2, atI [V.str "and", .str "or", .str "odd", .str "odd", .str "and"] ((way : Int) - 7) = some (.str g.nm) := by
            have h1 : ¬ way < 7 := by simp at e e2' e3'; omega
            match way, h1, hw with
            | 7, _, _ => exact ⟨.and, rfl⟩
            | 8, _, _ => exact ⟨.or, rfl⟩
            | 9, _, _ => exact ⟨.odd, rfl⟩
            | 10, _, _ => exact ⟨.odd, rfl⟩
            | 11, _, _ => exact ⟨.and, rfl⟩
          have R6 := R5.keep0 k6
          have e16 := k6.at0 e15
          have e26 := e25.keep0 k6
          walk_at "go"
          refine ⟨r, sc, ns, i, rfl, rfl, by omega, by omega, R6, fun l1 H7 hl1 R7 k7 => ?_⟩
          have e17 := k7.at e16 nF
          have e27 := e26.keep k7 R6.noTup
          walk_at "go"
          refine ⟨r, sc, ns, i, rfl, rfl, by omega, by omega, R7, fun l2 H8 hl2 R8 k8 => ?_⟩
          have e18 := k8.at e17 nF
          have e28 := e27.keep k8 R7.noTup
          walk_at "go"
          intro t ht
          have k9 : Kp No H8 (upd H8 t (.tup [.str g.nm, nt l1, nt l2])) := .new ht
          have e19 := k9.at0 e18
          walk_at "go"
          exact fin _ t (.gate g l1 l2) _ _ ((k6.of0.trans (k7.trans k8)).trans k9.of0) e19 (e28.keep0 k9) (R8.keep0 k9) upd_same ⟨hl1, hl2⟩
  · rintro σ H4 ⟨o6, o7, o8, o9, o10, o11, o12, o13, _, ads, cs, rfl, e1, e2, e3, e4, R4, k4⟩
    walk_at "go"
    refine lc_r (n := 2) (fun D k H' => ∃ (la : List Addr) (lo : List (Nat × Nat)), H' D = some (.lst (la.map V.ref)) ∧ PrAt H' la lo ∧ PrOk (fun r => r < 8 ∧ SN low r) many lo ∧ lo.length ≤ k ∧ (∀ p ∈ lo, p.1 < low + k) ∧ RowAt K H' r sc ns ∧ Kp (fun z => z = r) H4 H') (fun D hD => ⟨[], [], upd_same, .nil, .nil, Nat.le_refl _, (fun p hp => by cases hp), R4.keep0 (.new hD), .new hD⟩) ?_ ?_
    · rintro D k H5 hD hk ⟨la, lo, g1, g2, g3, g4, g5, R5, k5⟩
      have nD : D ≠ r := R4.new hD
      walk_at "go"
      refine ⟨rfl, ?_⟩
      walk_at "go"
      refine ⟨r, sc, ns, 3, rfl, rfl, by decide, by decide, R5, fun v H6 hv R6 k6 => ?_⟩
      have g16 := k6.at g1 nD
      have g26 := g2.keep k6 R5.noTup
      walk_at "go"
      refine x_ite (fun e => ?_) (fun e => ?_)
      · walk_at "go"
        refine ⟨r, sc, ns, many, rfl, rfl, by omega, by omega, R6, fun c H7 hc R7 k7 => ?_⟩
        have g17 := k7.at g16 nD
        have g27 := g26.keep k7 R6.noTup
        walk_at "go"
        intro t ht
        have k8 : Kp No H7 (upd H7 t (.tup [.int ((low : Int) + (k : Int)), nt c])) := .new ht
        have g18 := k8.at0 g17
        have kD : Kp (fun z => z = D) (upd H7 t (.tup [.int ((low : Int) + (k : Int)), nt c])) (upd (upd H7 t (.tup [.int ((low : Int) + (k : Int)), nt c])) D (.lst (la.map V.ref ++ [.ref t]))) := .set rfl
        refine ⟨_, g18, by rw [List.length_map, g2.len, sizeLine_eq]; omega, la ++ [t], lo ++ [(low + k, c)], by rw [upd_same, List.map_append]; rfl, ((g27.keep0 k8).keep kD (noTup_lst g18)).snoc (Kp.tup kD (noTup_lst g18) upd_same), g3.snoc ⟨by omega, by unfold SN; omega⟩ hc g5, by rw [List.length_append]; show _ + 1 ≤ _; omega, fun p hp => ?_, RowAt.setF R4 hD (R7.keep0 k8) nD, (((k5.trans k6).trans k7).trans k8.of0).old hD⟩
        rcases List.mem_append.mp hp with z | z
        · have := g5 p z; omega
        · rw [List.mem_singleton] at z; rw [z]; show low + k < _; omega
      · exact ⟨la, lo, g16, g26, g3, by omega, fun p hp => by have := g5 p hp; omega, R6, k5.trans k6⟩
    · rintro D H5 hD ⟨la, lo, g1, g2, g3, g4, g5, R5, k5⟩
      have nD : D ≠ r := R4.new hD
      have e15 := k5.at e1 nF
      have e25 := e2.keep k5 R4.noTup
      walk_at "go"
      refine lc_r (n := 4) (fun D2 k H' => ∃ (fa : List Addr) (fo : List (Nat × Nat)), H' D2 = some (.lst (fa.map V.ref)) ∧ PrAt H' fa fo ∧ PrOk (· < 4) many fo ∧ fo.length ≤ k ∧ (∀ p ∈ fo, p.1 < k) ∧ RowAt K H' r sc ns ∧ Kp (fun z => z = r) H5 H') (fun D2 hD2 => ⟨[], [], upd_same, .nil, .nil, Nat.le_refl _, (fun p hp => by cases hp), R5.keep0 (.new hD2), .new hD2⟩) ?_ ?_
      · rintro D2 k H6 hD2 hk ⟨fa, fo, f1, f2, f3, f4, f5, R6, k6⟩
        have nD2 : D2 ≠ r := R5.new hD2
        walk_at "go"
        refine ⟨rfl, ?_⟩
        walk_at "go"
        refine ⟨r, sc, ns, 4, rfl, rfl, by decide, by decide, R6, fun v H7 hv R7 k7 => ?_⟩
        have f17 := k7.at f1 nD2
        have f27 := f2.keep k7 R6.noTup
        walk_at "go"
        refine x_ite (fun e => ?_) (fun e => ?_)
        · walk_at "go"
          refine ⟨r, sc, ns, many, rfl, rfl, by omega, by omega, R7, fun c H8 hc R8 k8 => ?_⟩
          have f18 := k8.at f17 nD2
          have f28 := f27.keep k8 R7.noTup
          walk_at "go"
          intro t ht
          have k9 : Kp No H8 (upd H8 t (.tup [nt k, nt c])) := .new ht
          have f19 := k9.at0 f18
          have kD : Kp (fun z => z = D2) (upd H8 t (.tup [nt k, nt c])) (upd (upd H8 t (.tup [nt k, nt c])) D2 (.lst (fa.map V.ref ++ [.ref t]))) := .set rfl
          refine ⟨_, f19, by rw [List.length_map, f2.len, sizeLine_eq]; omega, fa ++ [t], fo ++ [(k, c)], by rw [upd_same, List.map_append]; rfl, ((f28.keep0 k9).keep kD (noTup_lst f19)).snoc (Kp.tup kD (noTup_lst f19) upd_same), f3.snoc hk hc f5, by rw [List.length_append]; show _ + 1 ≤ _; omega, fun p hp => ?_, RowAt.setF R5 hD2 (R8.keep0 k9) nD2, (((k6.trans k7).trans k8).trans k9.of0).old hD2⟩
          rcases List.mem_append.mp hp with z | z
          · have := f5 p z; omega
          · rw [List.mem_singleton] at z; rw [z]; show k < _; omega
        · exact ⟨fa, fo, f17, f27, f3, by omega, fun p hp => by have := f5 p hp; omega, R7, k6.trans k7⟩
      · rintro D2 H6 hD2 ⟨fa, fo, f1, f2, f3, f4, f5, R6, k6⟩
        have g16 := k6.at g1 nD
        have g26 := g2.keep k6 R5.noTup
        have e16 := k6.at e15 nF
        have e26 := e25.keep k6 R5.noTup
        have k06 := (k4.trans k5).trans k6
        walk_at "go"
        intro pc o1 hpc ho1
        have k7 : Kp No H6 (upd H6 pc (.frz o1 (.tup (ads.map V.ref)))) := .new hpc
        have c7 : FT (upd H6 pc (.frz o1 (.tup (ads.map V.ref)))) pc (ads.map V.ref) := ⟨o1, ho1, upd_same⟩
        have g17 := k7.at0 g16
        have f17 := k7.at0 f1
        have g27 := g26.keep0 k7
        have f27 := f2.keep0 k7
        have e27 := e26.keep0 k7
        have R7 := R6.keep0 k7
        generalize upd H6 pc (.frz o1 (.tup (ads.map V.ref))) = H7 at *
        walk_at "go"
        intro pl o2 hpl ho2
        have k8 : Kp No H7 (upd H7 pl (.frz o2 (.tup (la.map V.ref)))) := .new hpl
        have l8 : FT (upd H7 pl (.frz o2 (.tup (la.map V.ref)))) pl (la.map V.ref) := ⟨o2, ho2, upd_same⟩
        have f18 := k8.at0 f17
        have c8 := FT.keep c7 k8 fun z => z
        have g28 := g27.keep0 k8
        have f28 := f27.keep0 k8
        have e28 := e27.keep0 k8
        have R8 := R7.keep0 k8
        generalize upd H7 pl (.frz o2 (.tup (la.map V.ref))) = H8 at *
        walk_at "go"
        intro pf o3 hpf ho3
        have k9 : Kp No H8 (upd H8 pf (.frz o3 (.tup (fa.map V.ref)))) := .new hpf
        have f9 : FT (upd H8 pf (.frz o3 (.tup (fa.map V.ref)))) pf (fa.map V.ref) := ⟨o3, ho3, upd_same⟩
        have c9 := FT.keep c8 k9 fun z => z
        have l9 := FT.keep l8 k9 fun z => z
        have R9 := R8.keep0 k9
        have g29 := g28.keep0 k9
        have f29 := f28.keep0 k9
        have e29 := e28.keep0 k9
        generalize upd H8 pf (.frz o3 (.tup (fa.map V.ref))) = H9 at *
        walk_at "go"
        intro pp hpp
        have k10 : Kp No H9 (upd H9 pp (.tup [.ref pc, .ref pl, .ref pf])) := .new hpp
        refine q low ⟨pp, pc, pl, pf, ads, la, fa⟩ ⟨cs, lo, fo⟩ _ ⟨by show cs.length ≤ 3000; omega, fun j c hc => by show c.ok _ j cs.length; rw [e3]; exact e4 j c hc, by show PrOk _ cs.length _; rw [e3]; exact g3, by show PrOk _ cs.length _; rw [e3]; exact f3⟩ (by show cs.length ≤ 6; omega) ⟨upd_same, (FT.keep c9 k10 fun z => z).sq, FT.keep l9 k10 (fun z => z), FT.keep f9 k10 (fun z => z), e29.keep0 k10, g29.keep0 k10, f29.keep0 k10⟩ (R9.keep0 k10) (k06.trans ((k7.trans k8).trans (k9.trans k10)).of0)
end
end K7
namespace K7
open PySem PySem.Spec PyProof.Rows L2 B N7
/-! ### the law's own look: a case -/
structure CAd where
  t : Addr
  tn : Addr
  tl : Addr
  tp : Addr
  m1 : Addr
  m2 : Addr
  a1 : NAd
  a2 : NAd
structure CaseAt (K : PySem.W.Frag) (H : Hp) (c : CAd) (N M : Net) (L : List Nat) : Prop where
  top : H c.t = some (.tup [.ref c.tn, .ref c.tl, .ref c.tp])
  nn : H c.tn = some (.tup [.ref c.a1.p, .ref c.a2.p])
  lp : H c.tl = some (.lst (L.map K7.nt))
  pl : H c.tp = some (.lst [.ref c.m1, .ref c.m2])
  p1 : H c.m1 = some (.lst ((laters N.cells).map K7.nt))
  p2 : H c.m2 = some (.lst ((laters M.cells).map K7.nt))
  n1 : NetAt K H c.a1 N
  n2 : NetAt K H c.a2 M
theorem CaseAt.keep0 {K : PySem.W.Frag} {H H' : Hp} {c : CAd} {N M : Net} {L : List Nat} (h : CaseAt K H c N M L) (k : Kp No H H') : CaseAt K H' c N M L :=
  ⟨k.at0 h.top, k.at0 h.nn, k.at0 h.lp, k.at0 h.pl, k.at0 h.p1, k.at0 h.p2, h.n1.keep0 k, h.n2.keep0 k⟩
section
variable {P : Program} {w : World} {K : PySem.W.Frag} {mg : Str → Option Value} {base : Heap} {d : Ads} {C : Addr} {S : Nat → Prop}
theorem used_len (N : Net) (l : N.cells.length ≤ 1900) (f : N.loops.length ≤ 8) : (usedN N).length ≤ 1908 := by
  have : (N.cells.filterMap Cell.bitOf).length ≤ N.cells.length := List.length_filterMap_le _ _
  rw [usedN, List.length_append, List.length_map]; omega
def pStart (K : PySem.W.Frag) : V → V → Hp → VK → XK → Prop := fun x y H Q _ => ∃ (a1 a2 : NAd) (N M : Net), x = .ref a1.p ∧ y = .ref a2.p ∧ NetAt K H a1 N ∧ NetAt K H a2 M ∧ N.cells.length ≤ 1900 ∧ M.cells.length ≤ 1900 ∧ N.loops.length ≤ 8 ∧ M.loops.length ≤ 8 ∧
  ∀ (c : CAd) (L : List Nat) H', CaseAt K H' c N M L → LpOk N M L → Kp No H H' → Q (.ref c.t) H'
theorem ok_start (G : Txt K w mg d) (D : Df K mg "_law_start" s_law_start ["_law_one", "_law_other"]) : Cal P w K mg base CX0 1 "_law_start" (sp2 (pStart K)) := by
  refine cal0 D sc_law_start rfl fun f cdv A outer s0 H vs Q E hr h => ?_
  obtain ⟨_, _, rfl, a1, a2, N, M, rfl, rfl, hN, hM, l1, l2, l3, l4, q⟩ := h
  refine ⟨_, (pss_cons (ps_set (i := 2) sc_law_start.nd rfl (Or.inl rfl) (pe_lst pa_nil))
    (pss_cons (ps_for PassesOwn.never rfl (piT K (pe_tup (pa_cons (pv 0) (pa_cons (pv 1) pa_nil)))) (pg_name (i := 3) sc_law_start.nd rfl (Or.inl rfl))
      (pss_cons (ps_expr (bm K PySem.F.plainAttrs_list PySem.F.slot_list_extend PySem.F.type_list_extend (N7.extT K) (pv 2) (pa_cons (pe_lc (own := [("_law_cell", 4)]) (g := gName 4) rfl sc_law_start.nd (piT K (pe_ix (ixT K) (pv 3) pe_int (fun _ _ => rfl))) (blkOk_by (own := [("_law_cell", 4)]) (N := N_law_start) (sc := defScope s_law_start) (by decide +kernel)) (fun _ _ _ _ _ => (pg_name (i := 4) sc_law_start.nd rfl (Or.inl rfl))) (fun _ _ _ _ _ => pts_one (pt_cmpR op_eq (pe_ix (ixT K) (pv 4) pe_int (fun _ _ => rfl)) pe_str (nomark _))) (fun _ _ _ _ _ => (pe_ix (ixT K) (pv 4) pe_int (fun _ _ => rfl)))) pa_nil)))
      (pss_one (ps_expr (bm K PySem.F.plainAttrs_list PySem.F.slot_list_extend PySem.F.type_list_extend (N7.extT K) (pv 2) (pa_cons (pe_lc (own := [("_law_loop_here", 5), ("_law_cell", 4)]) (tt := tYes) rfl sc_law_start.nd (piT K (pe_ix (ixT K) (pv 3) pe_int (fun _ _ => rfl))) (blkOk_by (own := [("_law_loop_here", 5), ("_law_cell", 4)]) (N := N_law_start) (sc := defScope s_law_start) (by decide +kernel)) (fun _ _ _ _ _ => (pgT (n := 2) K (by rfl) (pgs_cons (pg_name (i := 5) sc_law_start.nd rfl (Or.inl rfl)) (pgs_cons (pg_name (i := 4) sc_law_start.nd rfl (Or.inl rfl)) pgs_nil)))) (fun _ _ _ _ _ => pts_nil) (fun _ _ _ _ _ => (pv 5))) pa_nil))))))
    (pss_cons (ps_setLc (i := 6) (own := [("_law_net_here", 3)]) (g := gName 3) (tt := tYes) rfl sc_law_start.nd rfl rfl (sw_true rfl rfl rfl (by decide +kernel)) (piT K (pe_tup (pa_cons (pv 0) (pa_cons (pv 1) pa_nil)))) (blkOk_by (own := [("_law_net_here", 3)]) (N := N_law_start) (sc := defScope s_law_start) (by decide +kernel)) (fun _ _ _ _ _ => (pg_name (i := 3) sc_law_start.nd rfl (Or.inr rfl))) (fun _ _ _ _ _ => pts_nil) (fun _ _ _ _ _ => (pe_lc (own := [("_law_k", 7)]) (g := gName 7) rfl sc_law_start.nd (pi_range1 (by rfl) G.n_range (pa_cons (pe_callB (lenS K) (by rfl) G.n_len (by decide +kernel) (pa_cons (pe_ix (ixT K) (pv 3) pe_int (fun _ _ => rfl)) pa_nil)) pa_nil)) (N7.blkIn (own := [("_law_k", 7)]) (N := N_law_start) (by decide +kernel)) (fun _ _ _ _ _ => (pg_name (i := 7) sc_law_start.nd rfl (Or.inl rfl))) (fun _ _ _ _ _ => pts_one (pt_cmpR op_eq (pe_ix (ixT K) (pe_ix (ixT K) (pe_ix (ixT K) (pv 3) pe_int (fun _ _ => rfl)) (pv 7) (fun _ _ => rfl)) pe_int (fun _ _ => rfl)) pe_str (nomark _))) (fun _ _ _ _ _ => (pv 7)))))
    (pss_one (ps_ret (pe_tup (pa_cons (pe_tup (pa_cons (pv 0) (pa_cons (pv 1) pa_nil))) (pa_cons (pe_callB (N7.sortI w rfl hr.units) (by rfl) G.n_sorted (by decide +kernel) (pa_cons (pe_callTy (N7.setI K w rfl) (by rfl) G.n_set (by decide +kernel) (pa_cons (pv 2) pa_nil)) pa_nil)) (pa_cons (pv 6) pa_nil))))))))), ?_⟩
  refine B.x_start (σ' := [some (.ref a1.p), some (.ref a2.p), none, none, none, none, none, none]) rfl ?_
  walk_at "go"
  intro F hF
  have k1 : Kp No H (upd H F (.lst [])) := .new hF
  have hF1 : upd H F (.lst []) F = some (.lst []) := upd_same
  generalize upd H F (.lst []) = H1 at *
  walk_at "go"
  intro T hT
  have k2 : Kp No H1 (upd H1 T (.tup [.ref a1.p, .ref a2.p])) := .new hT
  have hT2 : upd H1 T (.tup [.ref a1.p, .ref a2.p]) T = some (.tup [.ref a1.p, .ref a2.p]) := upd_same
  have hF2 := k2.at0 hF1
  have k02 := k1.trans k2
  generalize upd H1 T (.tup [.ref a1.p, .ref a2.p]) = H2 at *
  have u1l := used_len N l1 l3
  have u2l := used_len M l2 l4
  have hFT : T ≠ F := fun z => by rw [z, hF2] at hT2; cases hT2
  have hFn : H F = none := hF
  have pick : ∀ (i : Nat) (y : V), [V.ref a1.p, .ref a2.p][i]? = some y → ∃ (na : NAd) (Nx : Net), y = .ref na.p ∧ [N, M][i]? = some Nx ∧ Nx.cells.length ≤ 1900 ∧ Nx.loops.length ≤ 8 ∧ i < 2 ∧ ∀ H', Kp No H H' → NetAt K H' na Nx := by
    intro i y hy
    match i, hy with
    | 0, hy => cases hy; exact ⟨a1, N, rfl, rfl, l1, l3, by decide, fun H' k => hN.keep0 k⟩
    | 1, hy => cases hy; exact ⟨a2, M, rfl, rfl, l2, l4, by decide, fun H' k => hM.keep0 k⟩
  walk_at "go"
  refine fr_t [.ref a1.p, .ref a2.p] (fun i σ H' => ∃ (o3 : Option V), σ = [some (.ref a1.p), some (.ref a2.p), some (.ref F), o3, none, none, none, none] ∧ H' F = some (.lst ((([N, M].take i).flatMap usedN).map nt)) ∧ Kp (fun z => z = F) H2 H') ⟨_, rfl, hF2, .refl _⟩ (fun i σ H' _ z => ?_) ?_ ?_
  · obtain ⟨o3, rfl, e1, k3⟩ := z
    exact SqT.of (k3.at hT2 hFT)
  · rintro i y σ H3 hy ⟨o3, rfl, e1, k3⟩
    obtain ⟨na, Nx, rfl, hNx, c1, c2, hi2, keep⟩ := pick i y hy
    have k03 : Kp No H H3 := Kp.fresh k02 k3 (by rintro z rfl; exact hFn)
    have hA := keep H3 k03
    have top := hA.top
    have cs := hA.cs
    have hl := hA.cl.len
    have uxl := used_len Nx c1 c2
    have tkl : (([N, M].take i).flatMap usedN).length ≤ 1908 := by
      match i, hi2 with
      | 0, _ => simp
      | 1, _ => simpa using u1l
    walk_at "go"
    refine lc_t (na.ca.map V.ref) (fun D i H' => Kp No H3 H' ∧ H' D = some (.lst (((Nx.cells.take i).filterMap Cell.bitOf).map nt))) (fun D hD => ⟨.new hD, upd_same⟩) (fun D i H' _ z => Kp.sqt z.1 .no cs) ?_ ?_
    · rintro D j y H4 hD hy ⟨k4, g1⟩
      rw [List.getElem?_map, Option.map_eq_some_iff] at hy
      obtain ⟨ad, had, rfl⟩ := hy
      have hj : j < Nx.cells.length := by rw [← hl]; exact (List.getElem?_eq_some_iff.mp had).1
      obtain ⟨c, hc⟩ : ∃ c, Nx.cells[j]? = some c := ⟨Nx.cells[j], List.getElem?_eq_getElem hj⟩
      have hrow := k4.at0 (hA.cl.row j ad c had hc)
      have z0 : atI c.vals 0 = some (.str c.nm) := atI_nat (j := 0) rfl
      have hlen : ((Nx.cells.take j).filterMap Cell.bitOf).length ≤ j := Nat.le_trans (List.length_filterMap_le _ _) (by rw [List.length_take]; omega)
      walk_at "go"
      refine ⟨rfl, ?_⟩
      walk_at "go"
      rcases bit_nm c with ⟨r, rfl⟩ | ⟨e2, e3⟩
      · refine x_yes rfl ?_
        have z1 : atI (Cell.bit r).vals 1 = some (nt r) := atI_nat (j := 1) rfl
        walk_at "go"
        refine ⟨_, g1, by rw [List.length_map, sizeLine_eq]; omega, k4.old hD, ?_⟩
        rw [upd_same, take_one hc, List.filterMap_append, List.map_append]
        rfl
      · refine x_no (by simp [e3]) ?_
        refine ⟨k4, ?_⟩
        rw [take_one hc, List.filterMap_append, List.filterMap_cons, e2, List.filterMap_nil, List.append_nil]
        exact g1
    · rintro D H4 hD ⟨k4, g1⟩
      rw [List.length_map, hl, List.take_length] at g1
      have e14 := k4.at0 e1
      have l1b : (Nx.cells.filterMap Cell.bitOf).length ≤ Nx.cells.length := List.length_filterMap_le _ _
      refine ⟨F, D, _, _, rfl, rfl, e14, .inr g1, by rw [List.length_map, List.length_map, sizeLine_eq]; omega, ?_⟩
      have kF : Kp (fun z => z = F) H4 (upd H4 F (.lst ((([N, M].take i).flatMap usedN).map nt ++ (Nx.cells.filterMap Cell.bitOf).map nt))) := .set rfl
      have e15 : upd H4 F (.lst ((([N, M].take i).flatMap usedN).map nt ++ (Nx.cells.filterMap Cell.bitOf).map nt)) F = some (.lst ((([N, M].take i).flatMap usedN ++ Nx.cells.filterMap Cell.bitOf).map nt)) := by rw [upd_same, List.map_append]
      have k05 : Kp (fun z => z = F) H2 (upd H4 F (.lst ((([N, M].take i).flatMap usedN).map nt ++ (Nx.cells.filterMap Cell.bitOf).map nt))) := (k3.trans k4.of0).trans kF
      generalize upd H4 F (.lst ((([N, M].take i).flatMap usedN).map nt ++ (Nx.cells.filterMap Cell.bitOf).map nt)) = H5 at *
      have k5 : Kp No H H5 := Kp.fresh k02 k05 (by rintro z rfl; exact hFn)
      have hA5 := keep H5 k5
      have top5 := hA5.top
      have lo5 : SqT K H5 na.pl (na.la.map V.ref) := hA5.lo.sq
      walk_at "go"
      refine lc_t (na.la.map V.ref) (fun D j H' => Kp No H5 H' ∧ H' D = some (.lst (((Nx.loops.take j).map (·.1)).map nt))) (fun D hD => ⟨.new hD, upd_same⟩) (fun D j H' _ z => Kp.sqt z.1 .no lo5) ?_ ?_
      · rintro D2 j y H6 hD2 hy ⟨k6, g2⟩
        rw [List.getElem?_map, Option.map_eq_some_iff] at hy
        obtain ⟨ad, had, rfl⟩ := hy
        have hj : j < Nx.loops.length := by rw [← hA5.ll.len]; exact (List.getElem?_eq_some_iff.mp had).1
        obtain ⟨p, hp⟩ : ∃ p, Nx.loops[j]? = some p := ⟨_, List.getElem?_eq_getElem hj⟩
        have hrow := k6.at0 (hA5.ll.row j ad p had hp)
        walk_at "go"
        refine ⟨rfl, ?_⟩
        walk_at "go"
        refine ⟨_, g2, by rw [List.length_map, List.length_map, List.length_take, sizeLine_eq]; omega, k6.old hD2, ?_⟩
        rw [upd_same, take_one hp, List.map_append, List.map_append]
        rfl
      · rintro D2 H6 hD2 ⟨k6, g2⟩
        rw [List.length_map, hA5.ll.len, List.take_length] at g2
        have e16 := k6.at0 e15
        refine ⟨F, D2, _, _, rfl, rfl, e16, .inr g2, by rw [List.length_map, List.length_map, List.length_map, List.length_append, sizeLine_eq]; omega, ?_⟩
        refine ⟨_, rfl, ?_, (k05.trans k6.of0).trans (.set rfl)⟩
        rw [upd_same, take_one hNx, List.flatMap_append, List.map_append, List.map_append, List.append_assoc, ← List.map_append]
        simp [usedN]
  · rintro σ H3 ⟨o3, rfl, e1, k3⟩
    have k03 : Kp No H H3 := Kp.fresh k02 k3 (by rintro z rfl; exact hFn)
    replace e1 : H3 F = some (.lst (((usedN N ++ usedN M).map fun n : Nat => (n : Int)).map V.int)) := by
      rw [e1, List.map_map]
      simp
      rfl
    walk_at "go"
    intro T2 hT2'
    have k4 : Kp No H3 (upd H3 T2 (.tup [.ref a1.p, .ref a2.p])) := .new hT2'
    have hT4 : upd H3 T2 (.tup [.ref a1.p, .ref a2.p]) T2 = some (.tup [.ref a1.p, .ref a2.p]) := upd_same
    have e14 := k4.at0 e1
    have k04 := k03.trans k4
    generalize upd H3 T2 (.tup [.ref a1.p, .ref a2.p]) = H4 at *
    walk_at "go"
    refine lc_t [.ref a1.p, .ref a2.p] (fun D i H' => Kp No H4 H' ∧ ∃ ms : List Addr, H' D = some (.lst (ms.map V.ref)) ∧ ms.length = i ∧ D ∉ ms ∧ ∀ (j : Nat) (m : Addr) (Nx : Net), ms[j]? = some m → [N, M][j]? = some Nx → H' m = some (.lst ((laters Nx.cells).map nt))) (fun D hD => ⟨.new hD, [], upd_same, rfl, by simp, fun j m Nx h => by simp at h⟩) (fun D i H' _ z => SqT.of (z.1.at0 hT4)) ?_ ?_
    · rintro D i y H5 hD hy ⟨k5, ms, g1, g2, g9, g3⟩
      obtain ⟨na, Nx, rfl, hNx, c1, c2, hi2, keep⟩ := pick i y hy
      have hA := keep H5 (k04.trans k5)
      have top := hA.top
      have cs := hA.cs
      have hl := hA.cl.len
      have el : (((na.ca.map V.ref).length : Nat) : Int) = (Nx.cells.length : Int) := by rw [List.length_map, hl]
      walk_at "go"
      refine ⟨rfl, ?_⟩
      walk_at "go"
      rw [el]
      refine lc_r (n := Nx.cells.length) (fun D j H' => Kp No H5 H' ∧ H' D = some (.lst ((latersTo Nx.cells j).map nt))) (fun D hD => ⟨.new hD, upd_same⟩) ?_ ?_
      · rintro D2 j H6 hD2 hj ⟨k6, g4⟩
        have hA6 := hA.keep0 k6
        have top6 := hA6.top
        have cs6 := hA6.cs
        obtain ⟨c, hc⟩ : ∃ c, Nx.cells[j]? = some c := ⟨Nx.cells[j], List.getElem?_eq_getElem hj⟩
        obtain ⟨ad, had⟩ : ∃ ad, na.ca[j]? = some ad := ⟨na.ca[j]'(by rw [hl]; exact hj), List.getElem?_eq_getElem _⟩
        have hrow := hA6.cl.row j ad c had hc
        have e5 : atI (na.ca.map V.ref) (j : Int) = some (.ref ad) := atI_nat (j := j) (by rw [List.getElem?_map, had]; rfl)
        have z0 : atI c.vals 0 = some (.str c.nm) := atI_nat (j := 0) rfl
        walk_at "go"
        refine ⟨rfl, ?_⟩
        walk_at "go"
        rcases isL_nm c with ⟨e2, e3⟩ | ⟨e2, e3⟩
        · refine x_yes (by simp [e3]) ?_
          walk_at "go"
          refine ⟨_, g4, by have := latersTo_len Nx.cells j; rw [List.length_map, sizeLine_eq]; omega, k6.old hD2, ?_⟩
          rw [upd_same, laters_one hc, e2, List.map_append]
          rfl
        · refine x_no (by simp [e3]) ?_
          refine ⟨k6, ?_⟩
          rw [laters_one hc, e2, List.map_append]
          simpa using g4
      · rintro D2 H6 hD2 ⟨k6, g4⟩
        have g16 := k6.at0 g1
        have nD : D2 ≠ D := fun z => by rw [z, g1] at hD2; cases hD2
        refine ⟨_, g16, by rw [List.length_map, sizeLine_eq]; omega, (k5.trans k6).old hD, ms ++ [D2], by rw [upd_same, List.map_append]; rfl, by simp [g2], by rw [List.mem_append, List.mem_singleton]; exact fun z => z.elim g9 (fun z => nD z.symm), fun j m Ny h1 h2 => ?_⟩
        rcases Nat.lt_trichotomy j i with z | z | z
        · rw [List.getElem?_append_left (by omega)] at h1
          have e := g3 j m Ny h1 h2
          have e6 := k6.at0 e
          have nm : m ≠ D := fun z => g9 (z ▸ List.mem_of_getElem? h1)
          rw [upd_ne nm]
          exact e6
        · subst z
          rw [List.getElem?_append_right (by omega), g2, Nat.sub_self] at h1
          cases h1
          rw [hNx] at h2
          cases h2
          rw [upd_ne nD]
          exact g4
        · rw [List.getElem?_eq_none (by simp; omega)] at h1
          cases h1
    · rintro D H5 hD ⟨k5, ms, g1, g2, g9, g3⟩
      obtain ⟨m1, m2, rfl⟩ : ∃ m1 m2, ms = [m1, m2] := by
        match ms, g2 with
        | [m1, m2], _ => exact ⟨m1, m2, rfl⟩
      have p1 := g3 0 m1 N rfl rfl
      have p2 := g3 1 m2 M rfl rfl
      have k05 := k04.trans k5
      have e15 := k5.at0 e14
      walk_at "go"
      intro tn htn
      have k6 : Kp No H5 (upd H5 tn (.tup [.ref a1.p, .ref a2.p])) := .new htn
      have htn6 : upd H5 tn (.tup [.ref a1.p, .ref a2.p]) tn = some (.tup [.ref a1.p, .ref a2.p]) := upd_same
      have e16 := k6.at0 e15
      generalize upd H5 tn (.tup [.ref a1.p, .ref a2.p]) = H6 at *
      walk_at "go"
      refine ⟨F, _, rfl, SqL.of e16, by rw [List.length_map, List.length_append]; omega, fun sb n hsb hn => ?_⟩
      rw [List.length_map, List.length_append] at hn
      walk_at "go"
      refine ⟨sb, _, n, rfl, upd_same, by omega, fun ys pl hpl hup hmem => ?_⟩
      obtain ⟨L, rfl, up, mem⟩ := nats_of hup hmem
      have k7 : Kp No H6 (upd (upd H6 sb (SetO w sb (fun j => decide (j ∈ (usedN N ++ usedN M).map fun n : Nat => (n : Int))) n)) pl (.lst ((L.map fun n : Nat => (n : Int)).map V.int))) := (Kp.new hsb).trans (.new hpl)
      have g7 : upd (upd H6 sb (SetO w sb (fun j => decide (j ∈ (usedN N ++ usedN M).map fun n : Nat => (n : Int))) n)) pl (.lst ((L.map fun n : Nat => (n : Int)).map V.int)) pl = some (.lst (L.map nt)) := by rw [upd_same, List.map_map]; rfl
      generalize upd (upd H6 sb (SetO w sb (fun j => decide (j ∈ (usedN N ++ usedN M).map fun n : Nat => (n : Int))) n)) pl (.lst ((L.map fun n : Nat => (n : Int)).map V.int)) = H7 at *
      walk_at "go"
      intro t ht
      have k8 : Kp No H7 (upd H7 t (.tup [.ref tn, .ref pl, .ref D])) := .new ht
      have k58 := k6.trans (k7.trans k8)
      refine q ⟨t, tn, pl, D, m1, m2, a1, a2⟩ L _ ⟨upd_same, (k7.trans k8).at0 htn6, k8.at0 g7, k58.at0 g1, k58.at0 p1, k58.at0 p2, hN.keep0 (k05.trans k58), hM.keep0 (k05.trans k58)⟩ ⟨up, fun r => by rw [mem r, List.mem_append]⟩ (k05.trans k58)
end
end K7
namespace K7
open PySem PySem.Spec PyProof.Rows L2 B N7
/-! ### the law's letters: a number for each -/
def bitsTo (L : List Nat) (v : Nat) : Nat → List Bool
  | 0 => List.replicate 8 false
  | k + 1 => (bitsTo L v k).set (L[k]?.getD 0) (v.testBit k)
theorem bitsTo_len (L : List Nat) (v : Nat) : ∀ k, (bitsTo L v k).length = 8
  | 0 => rfl
  | k + 1 => by rw [bitsTo, List.length_set, bitsTo_len]
theorem bitsTo_out {L : List Nat} (v : Nat) : ∀ k, k ≤ L.length → ∀ r, r < 8 → r ∉ L.take k → (bitsTo L v k)[r]? = some false
  | 0, _, r, h, _ => by rw [bitsTo, List.getElem?_replicate, if_pos h]
  | k + 1, hk, r, h, hn => by
    have hx : L[k]? = some L[k] := List.getElem?_eq_getElem hk
    rw [take_one hx, List.mem_append, List.mem_singleton, not_or] at hn
    rw [bitsTo, hx, Option.getD_some, List.getElem?_set_ne (fun z => hn.2 z.symm)]
    exact bitsTo_out v k (by omega) r h hn.1
theorem bitsTo_in {L : List Nat} (up : L.Pairwise (· < ·)) (h8 : ∀ r ∈ L, r < 8) (v : Nat) : ∀ k, k ≤ L.length → ∀ j r, j < k → L[j]? = some r → (bitsTo L v k)[r]? = some (v.testBit j)
  | 0, _, _, _, h, _ => by omega
  | k + 1, hk, j, r, hj, hr => by
    have hx : L[k]? = some L[k] := List.getElem?_eq_getElem hk
    rw [bitsTo, hx, Option.getD_some]
    by_cases e : j = k
    · subst e
      rw [hx] at hr
      cases hr
      rw [List.getElem?_set_self (by rw [bitsTo_len]; exact h8 _ (List.getElem_mem _))]
    · have hjl : j < L.length := by omega
      have hlt := List.pairwise_iff_getElem.mp up j k hjl hk (by omega)
      rw [List.getElem?_eq_getElem hjl] at hr
      cases hr
      rw [List.getElem?_set_ne (by omega)]
      exact bitsTo_in up h8 v k (by omega) j _ (by omega) (List.getElem?_eq_getElem hjl)
theorem ex_bits (f : Nat → Bool) : ∀ n, ∃ v, v < 2 ^ n ∧ ∀ k, k < n → v.testBit k = f k
  | 0 => ⟨0, by decide, fun k h => by omega⟩
  | n + 1 => by
    obtain ⟨v, hv, h⟩ := ex_bits f n
    cases e : f n with
    | false =>
      refine ⟨v, by rw [Nat.pow_succ]; omega, fun k hk => ?_⟩
      rcases Nat.lt_or_ge k n with z | z
      · exact h k z
      · obtain rfl : k = n := by omega
        rw [e, Nat.testBit_lt_two_pow hv]
    | true =>
      refine ⟨2 ^ n + v, by rw [Nat.pow_succ]; omega, fun k hk => ?_⟩
      rcases Nat.lt_or_ge k n with z | z
      · rw [Nat.testBit_two_pow_add_gt z]
        exact h k z
      · obtain rfl : k = n := by omega
        rw [e, Nat.testBit_two_pow_add_eq, Nat.testBit_lt_two_pow hv]
        rfl
def letsN (L : List Nat) : List (List Bool) := (List.range (2 ^ L.length)).map fun v => bitsTo L v L.length
theorem letsN_len (L : List Nat) : (letsN L).length = 2 ^ L.length := by rw [letsN, List.length_map, List.length_range]
theorem mem_letsN {L : List Nat} (up : L.Pairwise (· < ·)) (h8 : ∀ r ∈ L, r < 8) (bs : List Bool) : bs ∈ letsN L ↔ IsLet L bs := by
  rw [letsN, List.mem_map]
  constructor
  · rintro ⟨v, _, rfl⟩
    exact ⟨bitsTo_len _ _ _, fun r hr hn => bitsTo_out v _ (Nat.le_refl _) r hr (by rw [List.take_length]; exact hn)⟩
  · rintro ⟨h1, h2⟩
    obtain ⟨v, hv, hf⟩ := ex_bits (fun j => gb bs (L[j]?.getD 0)) L.length
    refine ⟨v, List.mem_range.mpr hv, List.ext_getElem? fun r => ?_⟩
    rcases Nat.lt_or_ge r 8 with z | z
    · by_cases e : r ∈ L
      · obtain ⟨j, hj⟩ := List.getElem?_of_mem e
        have hjl := (List.getElem?_eq_some_iff.mp hj).1
        rw [bitsTo_in up h8 v _ (Nat.le_refl _) j r hjl hj, hf j hjl, hj, Option.getD_some, gb, List.getElem?_eq_getElem (by omega)]
        rfl
      · rw [bitsTo_out v _ (Nat.le_refl _) r z (by rw [List.take_length]; exact e), h2 r z e]
    · rw [List.getElem?_eq_none (by rw [bitsTo_len]; exact z), List.getElem?_eq_none (by omega)]
theorem bit_val (n k : Nat) : V.int (Builtin.bitAnd ((n : Int) / 2 ^ ((k : Nat) : Int).toNat) 1) = bt (n.testBit k) := by
  rw [PyProof.Rows.bitAnd_m1, Int.toNat_natCast, Nat.testBit_eq_decide_div_mod_eq, show ((2 : Int) ^ k) = ((2 ^ k : Nat) : Int) by simp]
  have h : n / 2 ^ k % 2 = 0 ∨ n / 2 ^ k % 2 = 1 := by omega
  show V.int _ = V.int _
  congr 1
  rcases h with h | h
  · rw [h]; show _ = (0 : Int); omega
  · rw [h]; show _ = (1 : Int); omega
section
variable {P : Program} {w : World} {K : PySem.W.Frag} {mg : Str → Option Value} {base : Heap} {d : Ads} {C : Addr} {S : Nat → Prop}
def pLetL (K : PySem.W.Frag) : V → Hp → VK → XK → Prop := fun x H Q _ => ∃ (b : Addr) (L : List Nat), x = .ref b ∧ H b = some (.lst (L.map nt)) ∧ L.length ≤ 6 ∧ (∀ r ∈ L, r < 8) ∧ ∀ (F : Addr) (ads : List Addr) H', H' F = some (.lst (ads.map V.ref)) → LetAt K H' ads (letsN L) → Kp No H H' → Q (.ref F) H'
theorem ok_lettersL (G : Txt K w mg d) (D : Df K mg "_law_letters" s_law_letters ["_law_loops"]) : Cal P w K mg base CX0 1 "_law_letters" (sp1 (pLetL K)) := by
  refine cal0 D sc_law_letters rfl fun f cdv A outer s0 H vs Q E hr h => ?_
  obtain ⟨_, rfl, b, L, rfl, hb, h6, h8, q⟩ := h
  refine ⟨_, (pss_cons (ps_set (i := 1) sc_law_letters.nd rfl (Or.inl rfl) (pe_lst pa_nil))
    (pss_cons (ps_for PassesOwn.never rfl (pi_range1 (by rfl) G.n_range (pa_cons (pe_op op_shr (pe_op op_pow pe_int pe_int) (pe_op op_sub pe_int (pe_callB (lenS K) (by rfl) G.n_len (by decide +kernel) (pa_cons (pv 0) pa_nil)))) pa_nil)) (pg_name (i := 2) sc_law_letters.nd rfl (Or.inl rfl))
      (pss_cons (ps_set (i := 3) sc_law_letters.nd rfl (Or.inl rfl) (pe_op op_rep (pe_lst (pa_cons pe_int pa_nil)) pe_int))
      (pss_cons (ps_for PassesOwn.never rfl (pi_range1 (by rfl) G.n_range (pa_cons (pe_callB (lenS K) (by rfl) G.n_len (by decide +kernel) (pa_cons (pv 0) pa_nil)) pa_nil)) (pg_name (i := 4) sc_law_letters.nd rfl (Or.inl rfl))
        (pss_one (ps_asg (pe_op op_and (pe_op op_shr (pv 2) (pv 4)) pe_int) (pg_sub (pv 3) (pe_ix (ixL K) (pv 0) (pv 4) (fun _ _ => rfl)) set_list))))
      (pss_one (ps_expr (bm K PySem.F.plainAttrs_list PySem.F.slot_list_append PySem.F.type_list_append mt_append (pv 1) (pa_cons (pe_callTy (tupOf K) (by rfl) G.n_tuple (by decide +kernel) (pa_cons (pv 3) pa_nil)) pa_nil)))))))
    (pss_one (ps_ret (pv 1))))), ?_⟩
  refine B.x_start (σ' := [some (.ref b), none, none, none, none]) rfl ?_
  walk_at "go"
  intro F hF
  have k1 : Kp No H (upd H F (.lst [])) := .new hF
  have hF1 : upd H F (.lst []) F = some (.lst []) := upd_same
  have hb1 := k1.at0 hb
  have nbF : b ≠ F := ne_of_none hb hF
  generalize upd H F (.lst []) = H1 at *
  have p6 : 2 ^ L.length ≤ 2 ^ 6 := Nat.pow_le_pow_right (by decide) h6
  have h60 : (0 : Int) ≤ 8 - (L.length : Int) := by omega
  have hrng : (0 : Int) ≤ ((2 ^ L.length : Nat) : Int) ∧ ((2 ^ L.length : Nat) : Int) < 2 ^ 62 := by
    have : 2 ^ L.length ≤ 64 := p6
    generalize 2 ^ L.length = n at this ⊢
    omega
  have erng : ((2 : Int) ^ (8 : Int).toNat / 2 ^ ((8 : Int) - (L.length : Int)).toNat) = ((2 ^ L.length : Nat) : Int) := by
    match L.length, h6 with
    | 0, _ => rfl
    | 1, _ => rfl
    | 2, _ => rfl
    | 3, _ => rfl
    | 4, _ => rfl
    | 5, _ => rfl
    | 6, _ => rfl
  walk_at "go"
  rw [List.length_map]
  walk_at "go"
  rw [erng]
  walk_at "go"
  refine fr_r (n := 2 ^ L.length) (fun i σ H' => ∃ (o2 o3 o4 : Option V) (ads : List Addr), σ = [some (.ref b), some (.ref F), o2, o3, o4] ∧ H' F = some (.lst (ads.map V.ref)) ∧ LetAt K H' ads ((letsN L).take i) ∧ Kp (fun z => z = F) H1 H') ⟨_, _, _, [], rfl, hF1, .nil, .refl _⟩ ?_ ?_
  · rintro i σ H2 hi ⟨o2, o3, o4, ads, rfl, e1, e2, k2⟩
    have hb2 := k2.at hb1 nbF
    walk_at "go"
    intro z0 hz0
    have k3 : Kp No H2 (upd H2 z0 (.lst [.int 0])) := .new hz0
    walk_at "go"
    refine x_rep (n := 8) upd_same (by decide) fun B hB => ?_
    have k4 : Kp No H2 (upd (upd H2 z0 (.lst [.int 0])) B (.lst (List.replicate 8 (.int 0)))) := k3.trans (.new hB)
    have hB4 : upd (upd H2 z0 (.lst [.int 0])) B (.lst (List.replicate 8 (.int 0))) B = some (.lst ((bitsTo L i 0).map bt)) := by rw [upd_same, bitsTo, List.map_replicate]; rfl
    have hBn : H2 B = none := k3.free hB
    have nbB : b ≠ B := ne_of_none hb2 hBn
    have nFB : F ≠ B := ne_of_none e1 hBn
    generalize upd (upd H2 z0 (.lst [.int 0])) B (.lst (List.replicate 8 (.int 0))) = H4 at *
    have hb4 := k4.at0 hb2
    walk_at "go"
    rw [List.length_map]
    walk_at "go"
    refine fr_r (n := L.length) (fun k σ H' => ∃ (o4 : Option V), σ = [some (.ref b), some (.ref F), some (nt i), some (.ref B), o4] ∧ H' B = some (.lst ((bitsTo L i k).map bt)) ∧ Kp (fun z => z = B) H4 H') ⟨_, rfl, hB4, .refl _⟩ ?_ ?_
    · rintro k σ H5 hk ⟨o4, rfl, f1, k5⟩
      have hx : L[k]? = some L[k] := List.getElem?_eq_getElem hk
      have hx8 := h8 _ (List.getElem_mem hk)
      have hb5 := k5.at hb4 nbB
      have e3 : atI (L.map nt) (k : Int) = some (nt L[k]) := atI_nat (j := k) (by rw [List.getElem?_map, hx]; rfl)
      walk_at "go"
      rw [bit_val]
      refine x_setL f1 (j := L[k]) (Evl.ixN_nat (by rw [List.length_map, bitsTo_len]; exact hx8)) ?_
      walk_at "go"
      refine ⟨_, rfl, ?_, k5.trans (.set rfl)⟩
      rw [upd_same, bitsTo, hx, Option.getD_some, List.map_set]
    · rintro σ H5 ⟨o4, rfl, f1, k5⟩
      have k25 : Kp No H2 H5 := Kp.fresh k4 k5 (by rintro z rfl; exact hBn)
      have e15 := k25.at0 e1
      have e25 := e2.keep0 k25
      walk_at "go"
      intro t ht
      have k6 : Kp No H5 (upd H5 t (.tup ((bitsTo L i L.length).map bt))) := .new ht
      have e16 := k6.at0 e15
      have hl := e2.len
      have hmin : ((letsN L).take i).length ≤ 64 := by
        rw [List.length_take, letsN_len]
        have : 2 ^ L.length ≤ 64 := p6
        exact Nat.le_trans (Nat.min_le_right _ _) this
      have hfew : (ads.map V.ref).length < 16777216 := by rw [List.length_map]; omega
      walk_at "go"
      refine ⟨_, _, _, ads ++ [t], rfl, by rw [upd_same, List.map_append]; rfl, ?_, ((k2.trans k25.of0).trans k6.of0).trans (.set rfl)⟩
      have hit : (letsN L)[i]? = some (bitsTo L i L.length) := by
        rw [letsN, List.getElem?_map, List.getElem?_range hi]
        rfl
      rw [take_one hit]
      exact ((e25.keep0 k6).keep (Kp.set (M := fun z => z = F) rfl) (noTup_lst e16)).snoc (Kp.sqt (Kp.set (M := fun z => z = F) rfl) (noTup_lst e16) (SqT.of upd_same))
  · rintro σ H2 ⟨o2, o3, o4, ads, rfl, e1, e2, k2⟩
    rw [← letsN_len, List.take_length] at e2
    walk_at "go"
    exact q F ads H2 e1 e2 (Kp.fresh k1 k2 (by rintro z rfl; exact hF))
end
end K7
namespace K7
open PySem PySem.Spec PyProof.Rows L2 B N7
theorem x_dget2 {td ty tx : TE} {σ : L2.St} {H : Hp} {Q : VK} (k : td σ H fun x H1 => ∃ a, x = .ref a ∧ IsD H1 a ∧ ty σ H1 fun y H2 => tx σ H2 fun z H3 => ∃ o, DGet H3 a y o ∧ Q (o.getD z) H3) : tDGet2 td ty tx σ H Q := k
/-! ### what is told, set by set -/
def setsTo (t base : List Bool) (ps : List (Nat × Nat)) : List Bool := ps.foldl (fun b p => b.set p.1 (gb t p.2)) base
theorem setsTo_len (t : List Bool) : ∀ (ps : List (Nat × Nat)) (base : List Bool), (setsTo t base ps).length = base.length
  | [], _ => rfl
  | p :: ps, base => by rw [setsTo, List.foldl_cons]; exact (setsTo_len t ps _).trans List.length_set
theorem setsTo_one {t base : List Bool} {ps : List (Nat × Nat)} {i : Nat} {p : Nat × Nat} (h : ps[i]? = some p) : setsTo t base (ps.take (i + 1)) = (setsTo t base (ps.take i)).set p.1 (gb t p.2) := by
  rw [take_one h, setsTo, List.foldl_append]
  rfl
theorem setsTo_at (t : List Bool) : ∀ (ps : List (Nat × Nat)), (ps.map (·.1)).Nodup → ∀ (base : List Bool) (r : Nat), r < base.length → (setsTo t base ps)[r]? = some (match look ps r with | some c => gb t c | none => gb base r)
  | [], _, base, r, h => by
    show base[r]? = _
    rw [List.getElem?_eq_getElem h]
    show _ = some (gb base r)
    rw [gb, List.getElem?_eq_getElem h]
    rfl
  | (x, c) :: ps, nd, base, r, h => by
    rw [List.map_cons, List.nodup_cons] at nd
    have e := setsTo_at t ps nd.2 (base.set x (gb t c)) r (by rw [List.length_set]; exact h)
    rw [show setsTo t base ((x, c) :: ps) = setsTo t (base.set x (gb t c)) ps from rfl, e, look, look, List.find?_cons]
    by_cases hx : x = r
    · subst hx
      have hn : ps.find? (fun p => p.1 == x) = none := by
        rw [List.find?_eq_none]
        intro p hp
        simp only [beq_iff_eq]
        intro z
        exact nd.1 (List.mem_map.mpr ⟨p, hp, z⟩)
      rw [hn]
      simp only [beq_self_eq_true, Option.map_none, Option.map_some]
      rw [gb, List.getElem?_set_self h]
      rfl
    · have hb : (x == r) = false := by simp [hx]
      simp only [hb]
      cases ps.find? (fun p => p.1 == r) with
      | some q => rfl
      | none =>
        simp only [Option.map_none]
        rw [gb, gb, List.getElem?_set_ne hx]
        rfl
theorem outL_sets {N : Net} (up : (N.loops.map (·.1)).Pairwise (· < ·)) (t : List Bool) {bits : List Bool} (h8 : bits.length = 8) : setsTo t bits N.loops = outL N t bits := by
  refine List.ext_getElem? fun r => ?_
  rcases Nat.lt_or_ge r 8 with z | z
  · rw [setsTo_at t _ (up_nodup up) bits r (by omega), outL, List.getElem?_map, List.getElem?_range z]
    rfl
  · rw [List.getElem?_eq_none (by rw [setsTo_len]; omega), List.getElem?_eq_none (by rw [outL, List.length_map, List.length_range]; exact z)]
theorem outF_sets {N : Net} (up : (N.flags.map (·.1)).Pairwise (· < ·)) (t : List Bool) : setsTo t (List.replicate 4 false) N.flags = outF N t := by
  refine List.ext_getElem? fun r => ?_
  rcases Nat.lt_or_ge r 4 with z | z
  · rw [setsTo_at t _ (up_nodup up) _ r (by rw [List.length_replicate]; exact z), outF, List.getElem?_map, List.getElem?_range z]
    have e : gb (List.replicate 4 false) r = false := by rw [gb, List.getElem?_replicate, if_pos z]; rfl
    rw [e]
    rfl
  · rw [List.getElem?_eq_none (by rw [setsTo_len, List.length_replicate]; omega), List.getElem?_eq_none (by rw [outF, List.length_map, List.length_range]; exact z)]
/-- what the law's beat gives -/
def BeatAt (K : PySem.W.Frag) (H : Hp) (p : Addr) (o f k : List Bool) : Prop := ∃ q a b c : Addr, H p = some (.tup [.ref q, .ref c]) ∧ H q = some (.tup [.ref a, .ref b]) ∧ H a = some (.lst (o.map bt)) ∧ H b = some (.lst (f.map bt)) ∧ SqT K H c (k.map bt)
def gsum (told : List Bool) (as : List Nat) : Int := (as.map fun n => ((gb told n).toNat : Int)).sum
theorem gates_dict (s : Int) (c : Cell) (told bits : List Bool) (mem : Nat → Bool) (fst : Bool) (h : s = gsum told c.args) (hn : c.isL = false) (hb : c.bitOf = none) (hf : c.nm ≠ "first") :
    ((valV (mergeK [] [((Sum.inr "none" : L2.Key), V.int 0), (Sum.inr "not", V.int (1 - s)), (Sum.inr "and", V.int (if decide (s = 2) = true then 1 else 0)), (Sum.inr "or", V.int (if decide (s > 0) = true then 1 else 0))]) (Sum.inr c.nm)).getD (V.int (s % 2))) = bt (c.tell told bits mem fst) := by
  cases c with
  | bit r => cases hb
  | later l => cases hn
  | first => exact absurd rfl hf
  | none => rfl
  | inv n =>
    show V.int (1 - s) = _
    rw [h]
    show V.int (1 - ([((gb told n).toNat : Int)]).sum) = bt (!gb told n)
    cases gb told n <;> rfl
  | gate g a b =>
    have e : s = ((gb told a).toNat : Int) + ((gb told b).toNat : Int) := by
      rw [h]
      show ([((gb told a).toNat : Int), ((gb told b).toNat : Int)]).sum = _
      simp
    cases g with
    | and =>
      show V.int (if decide (s = 2) = true then 1 else 0) = bt (gb told a && gb told b)
      rw [e]
      cases gb told a <;> cases gb told b <;> rfl
    | or =>
      show V.int (if decide (s > 0) = true then 1 else 0) = bt (gb told a || gb told b)
      rw [e]
      cases gb told a <;> cases gb told b <;> rfl
    | odd =>
      show V.int (s % 2) = bt (gb told a ^^ gb told b)
      rw [e]
      cases gb told a <;> cases gb told b <;> rfl
theorem eqV_nt (a b : Nat) : eqV (nt a) (nt b) = decide (a = b) := by
  show ((a : Int) == (b : Int)) = _
  rw [Bool.eq_iff_iff]
  simp only [beq_iff_eq, decide_eq_true_eq]
  omega
theorem flat_nts (l : List Nat) : (l.map nt).all flatV = true := List.all_eq_true.mpr fun x hx => by
  obtain ⟨n, _, rfl⟩ := List.mem_map.mp hx
  rfl
theorem cell_kind (c : Cell) : (∃ r, c = .bit r) ∨ (∃ l, c = .later l) ∨ c = .first ∨ (c.isL = false ∧ c.bitOf = none ∧ c.nm ≠ "first" ∧ c.nm ≠ "bit" ∧ c.nm ≠ "later") := by
  cases c with
  | bit r => exact .inl ⟨r, rfl⟩
  | later l => exact .inr (.inl ⟨l, rfl⟩)
  | first => exact .inr (.inr (.inl rfl))
  | none => exact .inr (.inr (.inr ⟨rfl, rfl, show ("none" : Str) ≠ "first" by decide, show ("none" : Str) ≠ "bit" by decide, show ("none" : Str) ≠ "later" by decide⟩))
  | inv n => exact .inr (.inr (.inr ⟨rfl, rfl, show ("not" : Str) ≠ "first" by decide, show ("not" : Str) ≠ "bit" by decide, show ("not" : Str) ≠ "later" by decide⟩))
  | gate g a b =>
    cases g with
    | and => exact .inr (.inr (.inr ⟨rfl, rfl, show ("and" : Str) ≠ "first" by decide, show ("and" : Str) ≠ "bit" by decide, show ("and" : Str) ≠ "later" by decide⟩))
    | or => exact .inr (.inr (.inr ⟨rfl, rfl, show ("or" : Str) ≠ "first" by decide, show ("or" : Str) ≠ "bit" by decide, show ("or" : Str) ≠ "later" by decide⟩))
    | odd => exact .inr (.inr (.inr ⟨rfl, rfl, show ("odd" : Str) ≠ "first" by decide, show ("odd" : Str) ≠ "bit" by decide, show ("odd" : Str) ≠ "later" by decide⟩))
theorem args_in {S : Nat → Prop} {i m : Nat} {c : Cell} (h : c.ok S i m) (hn : c.isL = false) (hb : c.bitOf = none) : ∀ x ∈ c.args, x < i := by
  cases c with
  | bit r => cases hb
  | later l => cases hn
  | first => intro x hx; cases hx
  | none => intro x hx; cases hx
  | inv n => intro x hx; simp [Cell.args] at hx; subst hx; exact h
  | gate g a b =>
    intro x hx
    simp [Cell.args] at hx
    rcases hx with rfl | rfl
    · exact h.1
    · exact h.2
section
variable {P : Program} {w : World} {K : PySem.W.Frag} {mg : Str → Option Value} {base : Heap} {d : Ads} {C : Addr} {S : Nat → Prop}
def pBeatL (S : Nat → Prop) (K : PySem.W.Frag) : V → V → V → V → Hp → VK → XK → Prop := fun x y z u H Q _ => ∃ (a : NAd) (N : Net) (m : Addr) (kept : Option (List Bool)) (b : Addr) (bits : List Bool), x = .ref a.p ∧ y = .ref m ∧ u = .ref b ∧ NetAt K H a N ∧ NetOk S N ∧ H m = some (.lst ((laters N.cells).map nt)) ∧
  KeptAt K H z kept (laters N.cells).length ∧ SqT K H b (bits.map bt) ∧ bits.length = 8 ∧ ∀ (p : Addr) H', BeatAt K H' p (outL N (tellN N kept bits) bits) (outF N (tellN N kept bits)) (behind N.cells (tellN N kept bits)) → Kp No H H' → Q (.ref p) H'
theorem ok_beatL (G : Txt K w mg d) (D : Df K mg "_law_beat" s_law_beat ["_law_net_here", "_law_places", "_law_kept", "_law_bits"]) : Cal P w K mg base CX0 1 "_law_beat" (U fun S => sp4 (pBeatL S K)) := by
  refine cal0 D sc_law_beat rfl fun f cdv A outer s0 H vs Q E hr h => ?_
  obtain ⟨S, h⟩ := h
  obtain ⟨_, _, kv, _, rfl, a, N, m, kept, b, bits, rfl, rfl, rfl, hN, ok, hm, hk, hb, hb8, q⟩ := h
  refine ⟨_, (pss_cons (ps_asg (pv 0) (pgT (n := 3) K (by rfl) (pgs_cons (pg_name (i := 4) sc_law_beat.nd rfl (Or.inr rfl)) (pgs_cons (pg_name (i := 5) sc_law_beat.nd rfl (Or.inl rfl)) (pgs_cons (pg_name (i := 6) sc_law_beat.nd rfl (Or.inl rfl)) pgs_nil)))))
    (pss_cons (ps_set (i := 7) sc_law_beat.nd rfl (Or.inr rfl) (pe_lst pa_nil))
    (pss_cons (ps_for PassesOwn.never rfl (pi_range1 (by rfl) G.n_range (pa_cons (pe_callB (lenS K) (by rfl) G.n_len (by decide +kernel) (pa_cons (pv 4) pa_nil)) pa_nil)) (pg_name (i := 8) sc_law_beat.nd rfl (Or.inl rfl))
      (pss_cons (ps_par (i := 9) (j := 10) (by rfl) sc_law_beat.nd rfl rfl (by decide) rfl rfl (pa_cons (pe_ix (ixT K) (pe_ix (ixT K) (pv 4) (pv 8) (fun _ _ => rfl)) pe_int (fun _ _ => rfl)) (pa_cons (pe_slice (N7.slA K) (pe_ix (ixT K) (pv 4) (pv 8) (fun _ _ => rfl)) (po_some pe_int) po_none) pa_nil)) (by rfl))
      (pss_one (ps_if (pt_cmpR op_eq (pv 9) pe_str (nomark _))
        (pss_one (ps_expr (bm K PySem.F.plainAttrs_list PySem.F.slot_list_append PySem.F.type_list_append mt_append (pv 7) (pa_cons (pe_ix (ixT K) (pv 3) (pe_ix (ixT K) (pv 10) pe_int (fun _ _ => rfl)) (fun _ _ => rfl)) pa_nil))))
        (pss_one (ps_if (pt_cmpR op_eq (pv 9) pe_str (nomark _))
          (pss_one (ps_expr (bm K PySem.F.plainAttrs_list PySem.F.slot_list_append PySem.F.type_list_append mt_append (pv 7) (pa_cons (pe_ifExp (pt_cmpR op_isN (pv 2) pe_non (nomark _)) pe_int (pe_ix (ixT K) (pv 2) (bm K PySem.F.plainAttrs_list PySem.F.slot_list_index PySem.F.type_list_index mt_index (pv 1) (pa_cons (pv 8) pa_nil)) (fun _ _ => rfl))) pa_nil))))
          (pss_one (ps_if (pt_cmpR op_eq (pv 9) pe_str (nomark _))
            (pss_one (ps_expr (bm K PySem.F.plainAttrs_list PySem.F.slot_list_append PySem.F.type_list_append mt_append (pv 7) (pa_cons (pe_callTy call_int1 (by rfl) G.n_int (by decide +kernel) (pa_cons (pe_cmpR op_isN (pv 2) pe_non (nomark _)) pa_nil)) pa_nil))))
            (pss_cons (ps_setLc (i := 11) (own := [("_law_part", 12)]) (g := gName 12) (tt := tYes) rfl sc_law_beat.nd rfl rfl (sw_true rfl rfl rfl (by decide +kernel)) (piT K (pv 10)) (blkOk_by (own := [("_law_part", 12)]) (N := N_law_beat) (sc := defScope s_law_beat) (by decide +kernel)) (fun _ _ _ _ _ => (pg_name (i := 12) sc_law_beat.nd rfl (Or.inl rfl))) (fun _ _ _ _ _ => pts_nil) (fun _ _ _ _ _ => (pe_ix (ixL K) (pv 7) (pv 12) (fun _ _ => rfl))))
            (pss_cons (ps_set (i := 13) sc_law_beat.nd rfl (Or.inl rfl) (pe_disp (pps_cons pe_str pe_int (pps_cons pe_str (pe_op op_sub pe_int (pe_callB (cr_sum rfl) (by rfl) G.n_sum (by decide +kernel) (pa_cons (pv 11) pa_nil))) (pps_cons pe_str (pe_callTy call_int1 (by rfl) G.n_int (by decide +kernel) (pa_cons (pe_cmpR op_eq (pe_callB (cr_sum rfl) (by rfl) G.n_sum (by decide +kernel) (pa_cons (pv 11) pa_nil)) pe_int (nomark _)) pa_nil)) (pps_cons pe_str (pe_callTy call_int1 (by rfl) G.n_int (by decide +kernel) (pa_cons (pe_cmpR op_gt (pe_callB (cr_sum rfl) (by rfl) G.n_sum (by decide +kernel) (pa_cons (pv 11) pa_nil)) pe_int (nomark _)) pa_nil)) pps_nil)))) (by rfl) (by rfl) (fun z => by cases z) (by decide)))
            (pss_one (ps_expr (bm K PySem.F.plainAttrs_list PySem.F.slot_list_append PySem.F.type_list_append mt_append (pv 7) (pa_cons (N7.dget2 (hu_of hr) (pv 13) (pv 9) (pe_op op_mod (pe_callB (cr_sum rfl) (by rfl) G.n_sum (by decide +kernel) (pa_cons (pv 11) pa_nil)) pe_int) (N7.m2 rfl)) pa_nil))))))))))))))
    (pss_cons (ps_set (i := 14) sc_law_beat.nd rfl (Or.inl rfl) (pe_callTy (listOf K) (by rfl) G.n_list (by decide +kernel) (pa_cons (pv 3) pa_nil)))
    (pss_cons (ps_for PassesOwn.never rfl (piT K (pv 5)) (pgT (n := 2) K (by rfl) (pgs_cons (pg_name (i := 15) sc_law_beat.nd rfl (Or.inl rfl)) (pgs_cons (pg_name (i := 16) sc_law_beat.nd rfl (Or.inl rfl)) pgs_nil)))
      (pss_one (ps_asg (pe_ix (ixL K) (pv 7) (pv 16) (fun _ _ => rfl)) (pg_sub (pv 14) (pv 15) set_list))))
    (pss_cons (ps_set (i := 17) sc_law_beat.nd rfl (Or.inl rfl) (pe_op op_rep (pe_lst (pa_cons pe_int pa_nil)) pe_int))
    (pss_cons (ps_for PassesOwn.never rfl (piT K (pv 6)) (pgT (n := 2) K (by rfl) (pgs_cons (pg_name (i := 18) sc_law_beat.nd rfl (Or.inl rfl)) (pgs_cons (pg_name (i := 16) sc_law_beat.nd rfl (Or.inl rfl)) pgs_nil)))
      (pss_one (ps_asg (pe_ix (ixL K) (pv 7) (pv 16) (fun _ _ => rfl)) (pg_sub (pv 17) (pv 18) set_list))))
    (pss_one (ps_ret (pe_tup (pa_cons (pe_tup (pa_cons (pv 14) (pa_cons (pv 17) pa_nil))) (pa_cons (pe_callTy (tupOf K) (by rfl) G.n_tuple (by decide +kernel) (pa_cons (pe_lc (own := [("_law_place", 19)]) (g := gName 19) (tt := tYes) rfl sc_law_beat.nd (piL K (pv 1)) (blkOk_by (own := [("_law_place", 19)]) (N := N_law_beat) (sc := defScope s_law_beat) (by decide +kernel)) (fun _ _ _ _ _ => (pg_name (i := 19) sc_law_beat.nd rfl (Or.inl rfl))) (fun _ _ _ _ _ => pts_nil) (fun _ _ _ _ _ => (pe_ix (ixL K) (pv 7) (pe_ix (ixT K) (pe_ix (ixT K) (pv 4) (pv 19) (fun _ _ => rfl)) pe_int (fun _ _ => rfl)) (fun _ _ => rfl)))) pa_nil)) pa_nil)))))))))))), ?_⟩
  refine B.x_start (σ' := [some (.ref a.p), some (.ref m), some (kv), some (.ref b), none, none, none, none, none, none, none, none, none, none, none, none, none, none, none, none]) rfl ?_
  have top := hN.top
  have cs := hN.cs
  have hl := hN.cl.len
  have few := ok.few
  have el : (((a.ca.map V.ref).length : Nat) : Int) = (N.cells.length : Int) := by rw [List.length_map, hl]
  have hrk : ∀ {H2 : Hp}, Kp No H H2 → KeptAt K H2 kv kept (laters N.cells).length := fun k => by
    rcases hk with z | ⟨kb, ks, h1, h2, h3, h4⟩
    · exact .inl z
    · exact .inr ⟨kb, ks, h1, h2, Kp.sqt k .no h3, h4⟩
  walk_at "go"
  intro F hF
  have k1 : Kp No H (upd H F (.lst [])) := .new hF
  have hF1 : upd H F (.lst []) F = some (.lst []) := upd_same
  have cs1 := (hN.keep0 k1).cs
  generalize upd H F (.lst []) = H1 at *
  walk_at "go"
  rw [el]
  refine fr_r (n := N.cells.length) (fun i σ H' => ∃ (o8 o9 o10 o11 o12 o13 : Option V), σ = [some (.ref a.p), some (.ref m), some kv, some (.ref b), some (.ref a.pc), some (.ref a.pl), some (.ref a.pf), some (.ref F), o8, o9, o10, o11, o12, o13, none, none, none, none, none, none] ∧ H' F = some (.lst ((tellTo N.cells kept bits i).map bt)) ∧ Kp (fun z => z = F) H1 H') ⟨_, _, _, _, _, _, rfl, hF1, .refl _⟩ ?_ ?_
  · rintro i σ H2 hi ⟨o8, o9, o10, o11, o12, o13, rfl, e1, k2⟩
    have k02 : Kp No H H2 := Kp.fresh k1 k2 (by rintro z rfl; exact hF)
    have hN2 := hN.keep0 k02
    have cs2 := hN2.cs
    have hb2 := Kp.sqt k02 .no hb
    have hm2 := k02.at0 hm
    obtain ⟨c, hc⟩ : ∃ c, N.cells[i]? = some c := ⟨N.cells[i], List.getElem?_eq_getElem hi⟩
    obtain ⟨ad, had⟩ : ∃ ad, a.ca[i]? = some ad := ⟨a.ca[i]'(by rw [hl]; exact hi), List.getElem?_eq_getElem _⟩
    have hrow := hN2.cl.row i ad c had hc
    have hok := ok.ok i c hc
    have e2 : atI (a.ca.map V.ref) (i : Int) = some (.ref ad) := atI_nat (j := i) (by rw [List.getElem?_map, had]; rfl)
    have z0 : atI c.vals 0 = some (.str c.nm) := atI_nat (j := 0) rfl
    have tl := tellTo_len N.cells kept bits i
    have hsz : ((tellTo N.cells kept bits i).map bt).length < 16777216 := by rw [List.length_map, tl]; omega
    have fin : ∀ (v : Bool) (H3 : Hp) (σ1 σ2 σ3 σ4 σ5 σ6 : Option V), v = c.tell (tellTo N.cells kept bits i) bits (fun _ => memAt N.cells kept i) kept.isNone → Kp No H2 H3 → H3 F = some (.lst ((tellTo N.cells kept bits i).map bt)) →
        ∃ (o8 o9 o10 o11 o12 o13 : Option V), [some (V.ref a.p), some (.ref m), some kv, some (.ref b), some (.ref a.pc), some (.ref a.pl), some (.ref a.pf), some (.ref F), σ1, σ2, σ3, σ4, σ5, σ6, none, none, none, none, none, none] = [some (.ref a.p), some (.ref m), some kv, some (.ref b), some (.ref a.pc), some (.ref a.pl), some (.ref a.pf), some (.ref F), o8, o9, o10, o11, o12, o13, none, none, none, none, none, none] ∧
          upd H3 F (.lst ((tellTo N.cells kept bits i).map bt ++ [bt v])) F = some (.lst ((tellTo N.cells kept bits (i + 1)).map bt)) ∧ Kp (fun z => z = F) H1 (upd H3 F (.lst ((tellTo N.cells kept bits i).map bt ++ [bt v]))) := by
      intro v H3 σ1 σ2 σ3 σ4 σ5 σ6 hv k3 _
      refine ⟨_, _, _, _, _, _, rfl, ?_, (k2.trans k3.of0).trans (.set rfl)⟩
      rw [upd_same, tellTo, hc, List.map_append, hv]
      rfl
    walk_at "go"
    refine x_slA (SqT.of hrow) (cut1_not c) fun p hp => ?_
    rw [cut1]
    have k3 : Kp No H2 (upd H2 p (.tup (c.args.map nt))) := .new hp
    have hp3 : upd H2 p (.tup (c.args.map nt)) p = some (.tup (c.args.map nt)) := upd_same
    have e13 := k3.at0 e1
    have hb3 := Kp.sqt k3 .no hb2
    have hm3 := k3.at0 hm2
    have hk3 := hrk (k02.trans k3)
    generalize upd H2 p (.tup (c.args.map nt)) = H3 at *
    walk_at "go"
    rcases cell_kind c with ⟨r, rfl⟩ | ⟨l, rfl⟩ | rfl | ⟨hn, hbo, hf, hnb, hnl⟩
    · have z1 : atI ((Cell.bit r).args.map nt) 0 = some (nt r) := rfl
      have e3 := at_bits (bs := bits) (i := r) (by rw [hb8]; exact hok.1)
      refine x_yes rfl ?_
      walk_at "go"
      exact fin _ H3 _ _ _ _ _ _ rfl k3 e13
    · refine x_no rfl ?_
      have hmem : i ∈ laters N.cells := mem_latersTo.mpr ⟨hi, by rw [hc]; rfl⟩
      rcases hk3 with ⟨rfl, rfl⟩ | ⟨kb, ks, rfl, rfl, hks, hkl⟩
      · walk_at "go"
        try refine x_yes rfl ?_
        walk_at "go"
        exact fin false H3 _ _ _ _ _ _ rfl k3 e13
      · walk_at "go"
        try refine x_no rfl ?_
        walk_at "go"
        have hrank := laters_rank (n := N.cells.length) hi (show (N.cells[i]?.getD .none).isL = true by rw [hc]; rfl)
        have hjl := (List.getElem?_eq_some_iff.mp hrank).1
        have e3 := at_bits (bs := ks) (i := (latersTo N.cells i).length) (by rw [hkl]; exact hjl)
        refine ⟨m, (laters N.cells).map nt, nt i, (latersTo N.cells i).length, nt i, rfl, rfl, SqL.of hm3, rfl, flat_nts _, by rw [List.getElem?_map]; exact congrArg (Option.map nt) hrank, by rw [eqV_nt]; simp, fun j z hj hz => ?_, ?_⟩
        · rw [List.getElem?_map, Option.map_eq_some_iff] at hz
          obtain ⟨x, hx, rfl⟩ := hz
          rw [eqV_nt, decide_eq_false_iff_not]
          rintro rfl
          have nd := laters_nodup N.cells N.cells.length
          rw [List.nodup_iff_pairwise_ne, List.pairwise_iff_getElem] at nd
          have hj2 : j < (laters N.cells).length := Nat.lt_trans hj hjl
          have := nd j _ hj2 hjl hj
          rw [List.getElem?_eq_getElem hjl] at hrank
          replace hx : (laters N.cells)[j]? = some x := hx
          rw [List.getElem?_eq_getElem hj2] at hx
          exact this ((Option.some.inj hx).trans (Option.some.inj hrank).symm)
        · walk_at "go"
          exact fin _ H3 _ _ _ _ _ _ rfl k3 e13
    · refine x_no rfl ?_
      rcases hk3 with ⟨rfl, rfl⟩ | ⟨kb, ks, rfl, rfl, hks, hkl⟩
      · walk_at "go"
        exact fin true H3 _ _ _ _ _ _ rfl k3 e13
      · walk_at "go"
        exact fin false H3 _ _ _ _ _ _ rfl k3 e13
    · refine x_no (by simp [hnb]) ?_
      walk_at "go"
      refine x_no (by simp [hnl]) ?_
      walk_at "go"
      refine x_no (by simp [hf]) ?_
      have hin := args_in hok hn hbo
      have halen : c.args.length ≤ 2 := by rw [c.len]; exact c.few
      walk_at "go"
      refine lc_t (c.args.map nt) (fun D j H' => Kp No H3 H' ∧ H' D = some (.lst (((c.args.take j).map (gb (tellTo N.cells kept bits i))).map bt))) (fun D hD => ⟨.new hD, upd_same⟩) (fun D j H' _ z => SqT.of (z.1.at0 hp3)) ?_ ?_
      · rintro D j y H4 hD hy ⟨k4, g1⟩
        rw [List.getElem?_map, Option.map_eq_some_iff] at hy
        obtain ⟨x, hx, rfl⟩ := hy
        have e14 := k4.at0 e13
        have e5 := at_bits (bs := tellTo N.cells kept bits i) (i := x) (by rw [tl]; exact hin x (List.mem_of_getElem? hx))
        walk_at "go"
        refine ⟨rfl, ?_⟩
        walk_at "go"
        refine ⟨_, g1, by rw [List.length_map, List.length_map, List.length_take, sizeLine_eq]; omega, k4.old hD, ?_⟩
        rw [upd_same, take_one hx, List.map_append, List.map_append]
        rfl
      · rintro D H4 hD ⟨k4, g1⟩
        rw [List.length_map, List.take_length] at g1
        have e14 := k4.at0 e13
        have gs : ((c.args.map (gb (tellTo N.cells kept bits i))).map bt) = ((c.args.map fun n => ((gb (tellTo N.cells kept bits i) n).toNat : Int)).map V.int) := by rw [List.map_map, List.map_map]; rfl
        rw [gs] at g1
        walk_at "go"
        intro dk hdk
        have k5 : Kp No H4 (upd H4 dk (.dK [])) := .new hdk
        have g15 := k5.at0 g1
        have hdk5 : upd H4 dk (.dK []) dk = some (.dK []) := upd_same
        have e15 := k5.at0 e14
        have ndF : F ≠ dk := ne_of_none e14 hdk
        walk_at "go"
        refine ⟨D, _, rfl, SqL.of g15, ?_⟩
        walk_at "go"
        refine ⟨D, _, rfl, SqL.of g15, ?_⟩
        walk_at "go"
        refine ⟨D, _, rfl, SqL.of g15, ?_⟩
        walk_at "go"
        obtain ⟨sm, hsm⟩ : ∃ sm, sm = (c.args.map fun n => ((gb (tellTo N.cells kept bits i) n).toNat : Int)).sum := ⟨_, rfl⟩
        rw [← hsm]
        refine ⟨hdk5, [((Sum.inr "none" : L2.Key), V.int 0), (Sum.inr "not", V.int (1 - sm)), (Sum.inr "and", V.int (if decide (sm = 2) = true then 1 else 0)), (Sum.inr "or", V.int (if decide (sm > 0) = true then 1 else 0))], ?_, by show 4 ≤ 15; decide, ?_⟩
        · have c1 : (decide (V.int sm = V.int 2)) = decide (sm = 2) := by rw [Bool.eq_iff_iff]; simp
          first | rfl | (rw [c1]; rfl) | (simp only [c1]; rfl)
        have hd6 : upd (upd H4 dk (.dK [])) dk (.dK (mergeK [] [((Sum.inr "none" : L2.Key), V.int 0), (Sum.inr "not", V.int (1 - sm)), (Sum.inr "and", V.int (if decide (sm = 2) = true then 1 else 0)), (Sum.inr "or", V.int (if decide (sm > 0) = true then 1 else 0))])) dk = some (.dK (mergeK [] [((Sum.inr "none" : L2.Key), V.int 0), (Sum.inr "not", V.int (1 - sm)), (Sum.inr "and", V.int (if decide (sm = 2) = true then 1 else 0)), (Sum.inr "or", V.int (if decide (sm > 0) = true then 1 else 0))])) := upd_same
        have k6 : Kp No H4 (upd (upd H4 dk (.dK [])) dk (.dK (mergeK [] [((Sum.inr "none" : L2.Key), V.int 0), (Sum.inr "not", V.int (1 - sm)), (Sum.inr "and", V.int (if decide (sm = 2) = true then 1 else 0)), (Sum.inr "or", V.int (if decide (sm > 0) = true then 1 else 0))]))) := k5.old hdk
        generalize upd (upd H4 dk (.dK [])) dk (.dK (mergeK [] [((Sum.inr "none" : L2.Key), V.int 0), (Sum.inr "not", V.int (1 - sm)), (Sum.inr "and", V.int (if decide (sm = 2) = true then 1 else 0)), (Sum.inr "or", V.int (if decide (sm > 0) = true then 1 else 0))])) = H6 at *
        have e16 := k6.at0 e14
        have g16 := k6.at0 g1
        walk_at "go"
        refine x_dget2 ?_
        walk_at "go"
        refine ⟨dk, rfl, .inl ⟨_, .inl hd6⟩, ?_⟩
        walk_at "go"
        refine ⟨D, _, rfl, SqL.of g16, ?_⟩
        rw [← hsm]
        walk_at "go"
        refine ⟨_, DGet.k (k := Sum.inr c.nm) hd6, ?_⟩
        rw [gates_dict sm c (tellTo N.cells kept bits i) bits (fun _ => memAt N.cells kept i) kept.isNone hsm hn hbo hf]
        walk_at "go"
        exact fin _ H6 _ _ _ _ _ _ rfl (k3.trans (k4.trans k6)) e16
  · rintro σ H2 ⟨o8, o9, o10, o11, o12, o13, rfl, e1, k2⟩
    have k02 : Kp No H H2 := Kp.fresh k1 k2 (by rintro z rfl; exact hF)
    replace e1 : H2 F = some (.lst ((tellN N kept bits).map bt)) := e1
    have tl : (tellN N kept bits).length = N.cells.length := tellTo_len _ _ _ _
    have hN2 := hN.keep0 k02
    have hb2 := Kp.sqt k02 .no hb
    have hm2 := k02.at0 hm
    generalize tellN N kept bits = t at *
    walk_at "go"
    intro O hO
    have k3 : Kp No H2 (upd H2 O (.lst (bits.map bt))) := .new hO
    have hO3 : upd H2 O (.lst (bits.map bt)) O = some (.lst ((setsTo t bits (N.loops.take 0)).map bt)) := upd_same
    have e13 := k3.at0 e1
    have nFO : F ≠ O := ne_of_none e1 hO
    have hOn : H2 O = none := hO
    have hN3 := hN2.keep0 k3
    have hm3 := k3.at0 hm2
    generalize upd H2 O (.lst (bits.map bt)) = H3 at *
    have lo3 : SqT K H3 a.pl (a.la.map V.ref) := hN3.lo.sq
    walk_at "go"
    refine fr_t (a.la.map V.ref) (fun i σ H' => ∃ (o15 o16 : Option V), σ = [some (.ref a.p), some (.ref m), some kv, some (.ref b), some (.ref a.pc), some (.ref a.pl), some (.ref a.pf), some (.ref F), o8, o9, o10, o11, o12, o13, some (.ref O), o15, o16, none, none, none] ∧ H' O = some (.lst ((setsTo t bits (N.loops.take i)).map bt)) ∧ Kp (fun z => z = O) H3 H') ⟨_, _, rfl, hO3, .refl _⟩ (fun i σ H' _ z => ?_) ?_ ?_
    · obtain ⟨o15, o16, rfl, f1, k4⟩ := z
      exact Kp.sqt k4 (noTup_lst hO3) lo3
    · rintro i y σ H4 hy ⟨o15, o16, rfl, f1, k4⟩
      rw [List.getElem?_map, Option.map_eq_some_iff] at hy
      obtain ⟨ad, had, rfl⟩ := hy
      have hi : i < N.loops.length := by rw [← hN3.ll.len]; exact (List.getElem?_eq_some_iff.mp had).1
      obtain ⟨⟨r, c⟩, hp⟩ : ∃ p, N.loops[i]? = some p := ⟨_, List.getElem?_eq_getElem hi⟩
      have hrow := Kp.tup k4 (noTup_lst hO3) (hN3.ll.row i ad _ had hp)
      obtain ⟨⟨hr8, _⟩, hcl⟩ := ok.lo.at_ _ (List.mem_of_getElem? hp)
      simp only at hrow hr8 hcl
      have e14 := k4.at e13 nFO
      have e5 := at_bits (bs := t) (i := c) (by rw [tl]; exact hcl)
      walk_at "go"
      refine x_setL f1 (j := r) (Evl.ixN_nat (by rw [List.length_map, setsTo_len, hb8]; exact hr8)) ?_
      walk_at "go"
      refine ⟨_, _, rfl, ?_, k4.trans (.set rfl)⟩
      rw [upd_same, setsTo_one hp, List.map_set]
    · rintro σ H4 ⟨o15, o16, rfl, f1, k4⟩
      rw [List.length_map, hN3.ll.len, List.take_length, outL_sets ok.lo.up t hb8] at f1
      have k24 : Kp No H2 H4 := Kp.fresh k3 k4 (by rintro z rfl; exact hOn)
      have e14 := k24.at0 e1
      have hN4 := hN2.keep0 k24
      have hm4 := k24.at0 hm2
      walk_at "go"
      intro z0 hz0
      have k5 : Kp No H4 (upd H4 z0 (.lst [.int 0])) := .new hz0
      walk_at "go"
      refine x_rep (n := 4) upd_same (by decide) fun B hB => ?_
      have k6 : Kp No H4 (upd (upd H4 z0 (.lst [.int 0])) B (.lst (List.replicate 4 (.int 0)))) := k5.trans (.new hB)
      have hB6 : upd (upd H4 z0 (.lst [.int 0])) B (.lst (List.replicate 4 (.int 0))) B = some (.lst ((setsTo t (List.replicate 4 false) (N.flags.take 0)).map bt)) := by rw [upd_same]; rfl
      have hBn : H4 B = none := k5.free hB
      have nFB : F ≠ B := ne_of_none e14 hBn
      generalize upd (upd H4 z0 (.lst [.int 0])) B (.lst (List.replicate 4 (.int 0))) = H6 at *
      have hN6 := hN4.keep0 k6
      have e16 := k6.at0 e14
      have fl6 : SqT K H6 a.pf (a.fa.map V.ref) := hN6.fl.sq
      walk_at "go"
      refine fr_t (a.fa.map V.ref) (fun i σ H' => ∃ (o16 o18 : Option V), σ = [some (.ref a.p), some (.ref m), some kv, some (.ref b), some (.ref a.pc), some (.ref a.pl), some (.ref a.pf), some (.ref F), o8, o9, o10, o11, o12, o13, some (.ref O), o15, o16, some (.ref B), o18, none] ∧ H' B = some (.lst ((setsTo t (List.replicate 4 false) (N.flags.take i)).map bt)) ∧ Kp (fun z => z = B) H6 H') ⟨_, _, rfl, hB6, .refl _⟩ (fun i σ H' _ z => ?_) ?_ ?_
      · obtain ⟨o15, o16, rfl, f1, k7⟩ := z
        exact Kp.sqt k7 (noTup_lst hB6) fl6
      · rintro i y σ H7 hy ⟨o16, o18, rfl, f2, k7⟩
        rw [List.getElem?_map, Option.map_eq_some_iff] at hy
        obtain ⟨ad, had, rfl⟩ := hy
        have hi : i < N.flags.length := by rw [← hN6.ff.len]; exact (List.getElem?_eq_some_iff.mp had).1
        obtain ⟨⟨r, c⟩, hp⟩ : ∃ p, N.flags[i]? = some p := ⟨_, List.getElem?_eq_getElem hi⟩
        have hrow := Kp.tup k7 (noTup_lst hB6) (hN6.ff.row i ad _ had hp)
        obtain ⟨hr4, hcl⟩ := ok.fl.at_ _ (List.mem_of_getElem? hp)
        simp only at hrow hr4 hcl
        have e17 := k7.at e16 nFB
        have e5 := at_bits (bs := t) (i := c) (by rw [tl]; exact hcl)
        walk_at "go"
        refine x_setL f2 (j := r) (Evl.ixN_nat (by rw [List.length_map, setsTo_len, List.length_replicate]; exact hr4)) ?_
        walk_at "go"
        refine ⟨_, _, rfl, ?_, k7.trans (.set rfl)⟩
        rw [upd_same, setsTo_one hp, List.map_set]
      · rintro σ H7 ⟨o16, o18, rfl, f2, k7⟩
        rw [List.length_map, hN6.ff.len, List.take_length, outF_sets ok.fl.up t] at f2
        have k47 : Kp No H4 H7 := Kp.fresh k6 k7 (by rintro z rfl; exact hBn)
        have f17 := k47.at0 f1
        have e17 := k47.at0 e14
        have hm7 := k47.at0 hm4
        have k27 := k24.trans k47
        walk_at "go"
        intro qd hqd
        have k8 : Kp No H7 (upd H7 qd (.tup [.ref O, .ref B])) := .new hqd
        have hqd8 : upd H7 qd (.tup [.ref O, .ref B]) qd = some (.tup [.ref O, .ref B]) := upd_same
        have f18 := k8.at0 f17
        have f28 := k8.at0 f2
        have e18 := k8.at0 e17
        have hm8 := k8.at0 hm7
        have k28 := k27.trans k8
        generalize upd H7 qd (.tup [.ref O, .ref B]) = H8 at *
        walk_at "go"
        refine lc_l ((laters N.cells).map nt) (fun D i H' => Kp No H8 H' ∧ H' D = some (.lst ((((laters N.cells).take i).map fun j => gb t (ref1 N.cells j)).map bt))) (fun D hD => ⟨.new hD, upd_same⟩) (fun D i H' _ z => SqL.of (z.1.at0 hm8)) ?_ ?_
        · rintro D3 i y H12 hD3 hy ⟨k12, g3⟩
          rw [List.getElem?_map, Option.map_eq_some_iff] at hy
          obtain ⟨j, hj, rfl⟩ := hy
          obtain ⟨l, hl1, hl2⟩ := later_at (List.mem_of_getElem? hj)
          have hjl := (List.getElem?_eq_some_iff.mp hl1).1
          have hN12 := hN2.keep0 (k28.trans k12)
          have cs12 := hN12.cs
          have hT12 := k12.at0 e18
          obtain ⟨ad, had⟩ : ∃ ad, a.ca[j]? = some ad := ⟨a.ca[j]'(by rw [hl]; exact hjl), List.getElem?_eq_getElem _⟩
          have hrow := hN12.cl.row j ad _ had hl1
          have e13 : atI (a.ca.map V.ref) (j : Int) = some (.ref ad) := atI_nat (j := j) (by rw [List.getElem?_map, had]; rfl)
          have e14 : atI (Cell.later l).vals 1 = some (nt l) := atI_nat (j := 1) rfl
          have hll : l < N.cells.length := ok.ok j _ hl1
          have e15 := at_bits (bs := t) (i := l) (by rw [tl]; exact hll)
          walk_at "go"
          refine ⟨rfl, ?_⟩
          walk_at "go"
          have hlat : (laters N.cells).length ≤ N.cells.length := latersTo_len N.cells N.cells.length
          refine ⟨_, g3, by rw [List.length_map, List.length_map, List.length_take, sizeLine_eq]; omega, k12.old hD3, ?_⟩
          rw [upd_same, take_one hj, List.map_append, List.map_append, List.map_cons, List.map_nil, hl2]
          rfl
        · rintro D3 H12 hD3 ⟨k12, g3⟩
          rw [List.length_map, List.take_length] at g3
          walk_at "go"
          intro c hc
          have k13 : Kp No H12 (upd H12 c (.tup (((laters N.cells).map fun j => gb t (ref1 N.cells j)).map bt))) := .new hc
          walk_at "go"
          intro p hp
          have k14 := k13.trans (Kp.new (M := No) (o := .tup [.ref qd, .ref c]) hp)
          exact q p _ ⟨qd, O, B, c, upd_same, (k12.trans k14).at0 hqd8, (k12.trans k14).at0 f18, (k12.trans k14).at0 f28, Kp.sqt (Kp.new hp) .no (SqT.of upd_same)⟩ (k02.trans (k28.trans (k12.trans k14)))
end
end K7
namespace K7
open PySem PySem.Spec PyProof.Rows L2 B N7
theorem BeatAt.keep0 {K : PySem.W.Frag} {H H' : Hp} {p : Addr} {o f k : List Bool} (h : BeatAt K H p o f k) (kk : Kp No H H') : BeatAt K H' p o f k := by
  obtain ⟨q, a, b, c, h1, h2, h3, h4, h5⟩ := h
  exact ⟨q, a, b, c, kk.at0 h1, kk.at0 h2, kk.at0 h3, kk.at0 h4, Kp.sqt kk .no h5⟩
section
variable {P : Program} {w : World} {K : PySem.W.Frag} {mg : Str → Option Value} {base : Heap} {d : Ads} {C : Addr} {S : Nat → Prop}
def pBoth (S : Nat → Prop) (K : PySem.W.Frag) : V → V → V → Hp → VK → XK → Prop := fun x y z H Q _ => ∃ (c : CAd) (N M : Net) (L : List Nat) (u : Option Two) (b : Addr) (bits : List Bool), x = .ref c.t ∧ z = .ref b ∧ CaseAt K H c N M L ∧ NetOk S N ∧ NetOk S M ∧ PairV K H y u ∧ (∀ t, u = some t → Sized N M t) ∧ SqT K H b (bits.map bt) ∧ bits.length = 8 ∧
  ∀ (p q : Addr) H', H' p = some (.tup [.bl (sameD N M u bits), .ref q]) → PairAt K H' q (nextD N M u bits) → Kp No H H' → Q (.ref p) H'
theorem ok_both (G : Txt K w mg d) (D : Df K mg "_law_both" s_law_both ["_law_case", "_law_pair", "_law_bits"]) (c_law_beat : Cal P w K mg base CX0 1 "_law_beat" (U fun S => sp4 (pBeatL S K))) : Cal P w K mg base CX0 2 "_law_both" (U fun S => sp3 (pBoth S K)) := by
  refine cal0 D sc_law_both rfl fun f cdv A outer s0 H vs Q E hr h => ?_
  obtain ⟨S, h⟩ := h
  replace c_law_beat := c_law_beat.at S
  obtain ⟨_, y, _, rfl, c, N, M, L, u, b, bits, rfl, rfl, hC, okN, okM, hy, hsz, hb, hb8, q⟩ := h
  refine ⟨_, (pss_cons (ps_asg (pv 0) (pgT (n := 3) K (by rfl) (pgs_cons (pg_name (i := 3) sc_law_both.nd rfl (Or.inl rfl)) (pgs_cons (pg_name (i := 4) sc_law_both.nd rfl (Or.inl rfl)) (pgs_cons (pg_name (i := 5) sc_law_both.nd rfl (Or.inl rfl)) pgs_nil)))))
    (Evl.pss_cut (ps_set (i := 6) sc_law_both.nd rfl (Or.inl rfl) (pe_c c_law_beat hr (by first | decide | omega) (by rfl) pass0 (pa_cons (pe_ix (ixT K) (pv 3) pe_int (fun _ _ => rfl)) (pa_cons (pe_ix (ixL K) (pv 5) pe_int (fun _ _ => rfl)) (pa_cons (pe_ifExp (pt_cmpR op_isN (pv 1) pe_non (nomark _)) pe_non (pe_ix (ixT K) (pv 1) pe_int (fun _ _ => rfl))) (pa_cons (pv 2) pa_nil))))))
    (Evl.pss_cut (ps_set (i := 7) sc_law_both.nd rfl (Or.inl rfl) (pe_c c_law_beat hr (by first | decide | omega) (by rfl) pass0 (pa_cons (pe_ix (ixT K) (pv 3) pe_int (fun _ _ => rfl)) (pa_cons (pe_ix (ixL K) (pv 5) pe_int (fun _ _ => rfl)) (pa_cons (pe_ifExp (pt_cmpR op_isN (pv 1) pe_non (nomark _)) pe_non (pe_ix (ixT K) (pv 1) pe_int (fun _ _ => rfl))) (pa_cons (pv 2) pa_nil))))))
    (pss_one (ps_ret (pe_tup (pa_cons (pe_cmpR (eqD K hr.units) (pe_ix (ixT K) (pv 6) pe_int (fun _ _ => rfl)) (pe_ix (ixT K) (pv 7) pe_int (fun _ _ => rfl)) (nomark _)) (pa_cons (pe_tup (pa_cons (pe_ix (ixT K) (pv 6) pe_int (fun _ _ => rfl)) (pa_cons (pe_ix (ixT K) (pv 7) pe_int (fun _ _ => rfl)) pa_nil))) pa_nil)))))))), ?_⟩
  refine B.x_start (σ' := [some (.ref c.t), some (y), some (.ref b), none, none, none, none, none]) rfl ?_
  have top := hC.top
  have nn := hC.nn
  have pl := hC.pl
  have z0 : atI [V.ref c.a1.p, .ref c.a2.p] 0 = some (.ref c.a1.p) := rfl
  have z1 : atI [V.ref c.a1.p, .ref c.a2.p] 1 = some (.ref c.a2.p) := rfl
  walk_at "go"
  refine x_cut (fun σ H' => ∃ (p1 : Addr), σ = [some (.ref c.t), some y, some (.ref b), some (.ref c.tn), some (.ref c.tl), some (.ref c.tp), some (.ref p1), none] ∧ BeatAt K H' p1 (outL N (tellN N (kept1 u) bits) bits) (outF N (tellN N (kept1 u) bits)) (behind N.cells (tellN N (kept1 u) bits)) ∧ Kp No H H') ?_ ?_
  · rcases hy with ⟨rfl, rfl⟩ | ⟨pp, t, rfl, rfl, hp⟩
    · walk_at "go"
      try refine x_yes rfl ?_
      walk_at "go"
      refine ⟨c.a1, N, c.m1, none, b, bits, rfl, rfl, rfl, hC.n1, okN, hC.p1, .inl ⟨rfl, rfl⟩, hb, hb8, fun p H1 h1 k1 => ?_⟩
      walk_at "go"
      exact ⟨p, rfl, h1, k1⟩
    · obtain ⟨p1, p2, hpp, hp1, hp2⟩ := hp
      walk_at "go"
      try refine x_no rfl ?_
      walk_at "go"
      refine ⟨c.a1, N, c.m1, some t.1, b, bits, rfl, rfl, rfl, hC.n1, okN, hC.p1, .inr ⟨p1, t.1, rfl, rfl, hp1, (hsz t rfl).1⟩, hb, hb8, fun p H1 h1 k1 => ?_⟩
      walk_at "go"
      exact ⟨p, rfl, h1, k1⟩
  rintro σ H1 ⟨p1, rfl, h1, k1⟩
  have hC1 := hC.keep0 k1
  have hb1 := Kp.sqt k1 .no hb
  have nn1 := hC1.nn
  have pl1 := hC1.pl
  walk_at "go"
  refine x_cut (fun σ H' => ∃ (p2 : Addr), σ = [some (.ref c.t), some y, some (.ref b), some (.ref c.tn), some (.ref c.tl), some (.ref c.tp), some (.ref p1), some (.ref p2)] ∧ BeatAt K H' p2 (outL M (tellN M (kept2 u) bits) bits) (outF M (tellN M (kept2 u) bits)) (behind M.cells (tellN M (kept2 u) bits)) ∧ Kp No H1 H') ?_ ?_
  · rcases hy with ⟨rfl, rfl⟩ | ⟨pp, t, rfl, rfl, hp⟩
    · walk_at "go"
      try refine x_yes rfl ?_
      walk_at "go"
      refine ⟨c.a2, M, c.m2, none, b, bits, rfl, rfl, rfl, hC1.n2, okM, hC1.p2, .inl ⟨rfl, rfl⟩, hb1, hb8, fun p H2 h2 k2 => ?_⟩
      walk_at "go"
      exact ⟨p, rfl, h2, k2⟩
    · obtain ⟨p1, p2, hpp, hp1, hp2⟩ := hp.keep0 k1
      walk_at "go"
      try refine x_no rfl ?_
      walk_at "go"
      refine ⟨c.a2, M, c.m2, some t.2, b, bits, rfl, rfl, rfl, hC1.n2, okM, hC1.p2, .inr ⟨p2, t.2, rfl, rfl, hp2, (hsz t rfl).2⟩, hb1, hb8, fun p H2 h2 k2 => ?_⟩
      walk_at "go"
      exact ⟨p, rfl, h2, k2⟩
  rintro σ H2 ⟨p2, rfl, h2, k2⟩
  obtain ⟨q1, a1, b1, c1, d1, d2, d3, d4, d5⟩ := h1.keep0 k2
  obtain ⟨q2, a2, b2, c2, f1, f2, f3, f4, f5⟩ := h2
  walk_at "go"
  refine x_eqTwo d2 f2 d3 d4 f3 f4 (ok_bt _) (ok_bt _) (ok_bt _) (ok_bt _) ?_
  rw [eqvAll_of eqv_bt, eqvAll_of eqv_bt]
  walk_at "go"
  intro qq hqq
  have k3 : Kp No H2 (upd H2 qq (.tup [.ref c1, .ref c2])) := .new hqq
  walk_at "go"
  intro p hp
  have k4 : Kp No H2 (upd (upd H2 qq (.tup [.ref c1, .ref c2])) p (.tup [.bl (decide (outL N (tellN N (kept1 u) bits) bits = outL M (tellN M (kept2 u) bits) bits) && decide (outF N (tellN N (kept1 u) bits) = outF M (tellN M (kept2 u) bits))), .ref qq])) := k3.trans (.new hp)
  exact q p qq _ upd_same ⟨c1, c2, Kp.sqt (Kp.new hp) .no (SqT.of upd_same), Kp.sqt k4 .no d5, Kp.sqt k4 .no f5⟩ (k1.trans (k2.trans k4))
end
end K7
namespace K7
open PySem PySem.Spec PyProof.Rows L2 B N7
/-! ### pairs as data -/
def dataO : Option Two → PyData
  | none => .none
  | some u => .tuple [.tuple ((u.1.map bt).map fd), .tuple ((u.2.map bt).map fd)]
section
variable {K : PySem.W.Frag} {H : Hp} {Q : VK} {N M : Net}
theorem dataO_dp {v : V} {u : Option Two} (h : PairV K H v u) : Dp K H v (dataO u) := by
  rcases h with ⟨rfl, rfl⟩ | ⟨p, t, rfl, rfl, p1, p2, h1, h2, h3⟩
  · exact .non
  · exact .tup h1 (.cons (.tup h2 (dpAll_flat (ok_bt _))) (.cons (.tup h3 (dpAll_flat (ok_bt _))) .nil))
theorem dataO_all : ∀ {items : List (V × Option Two)}, (∀ x ∈ items, PairV K H x.1 x.2) → DpAll K H (items.map (·.1)) (items.map fun x => dataO x.2)
  | [], _ => .nil
  | x :: r, h => .cons (dataO_dp (h x List.mem_cons_self)) (dataO_all fun y hy => h y (List.mem_cons_of_mem _ hy))
theorem dataO_lay : ∀ us : List (V × Option Two), PyData.canLayAll0 (us.map fun x => dataO x.2) = true
  | [] => by simp [PyData.canLayAll0]
  | (_, none) :: us => by
    rw [List.map_cons, PyData.canLayAll0, dataO_lay us, Bool.and_true]
    simp [dataO, PyData.canLay0]
  | (_, some u) :: us => by
    rw [List.map_cons, PyData.canLayAll0, dataO_lay us, Bool.and_true]
    simp only [dataO, PyData.canLay0, PyData.canLayAll0]
    rw [lay_flat (ok_bt _), lay_flat (ok_bt _)]
    rfl
theorem dataO_depth : ∀ us : List (V × Option Two), PyData.depthAll (us.map fun x => dataO x.2) ≤ 2
  | [] => by simp [PyData.depthAll]
  | (_, none) :: us => by
    have := dataO_depth us
    rw [List.map_cons, PyData.depthAll]
    have h : (dataO none).depth ≤ 2 := by simp [dataO, PyData.depth]
    show max (dataO none).depth _ ≤ 2
    omega
  | (_, some u) :: us => by
    have := dataO_depth us
    rw [List.map_cons, PyData.depthAll]
    have h : (dataO (some u)).depth ≤ 2 := by
      simp only [dataO, PyData.depth, PyData.depthAll]
      rw [depth_flat, depth_flat]
      decide
    show max (dataO (some u)).depth _ ≤ 2
    omega
theorem x_neLev {a b : Addr} {items : List (V × Option Two)} (hl : SqL K H a (items.map (·.1))) (hit : ∀ x ∈ items, PairV K H x.1 x.2) (hb : SqL K H b []) (k : Q (.bl (!items.isEmpty)) H) : rNeD K (.ref a) (.ref b) H Q := by
  refine ⟨.list (items.map fun x => dataO x.2), .list [], .lst hl (dataO_all hit), .lst hb .nil, ?_, by decide, ?_⟩
  · unfold SeqAt.shaped
    rw [Bool.and_eq_true]
    refine ⟨by rw [PyData.canLay0]; exact dataO_lay items, decide_eq_true ?_⟩
    have := dataO_depth items
    rw [PyData.depth]
    omega
  · rw [show PyData.eqv (.list (items.map fun x => dataO x.2)) (.list []) = items.isEmpty by cases items <;> simp [PyData.eqv, PyData.eqvAll]]
    exact k
theorem two_data (u : Two) : (twoK u).data = .tuple [.tuple (NestedKey.datas (bitsK u.1)), .tuple (NestedKey.datas (bitsK u.2))] := by
  show NestedKey.data (.tup [.tup (bitsK u.1), .tup (bitsK u.2)]) = _
  rw [NestedKey.data, NestedKey.datas, NestedKey.datas, NestedKey.datas, NestedKey.data, NestedKey.data]
theorem alike_bits : ∀ a b : List Bool, PySem.W.alikeAll (NestedKey.datas (bitsK a)) (NestedKey.datas (bitsK b)) = true
  | [], b => by rw [bitsK, List.map_nil, NestedKey.datas]; simp [PySem.W.alikeAll]
  | x :: a, [] => by
    rw [bitsK, List.map_cons, NestedKey.datas, bitsK, List.map_nil, NestedKey.datas]
    simp [PySem.W.alikeAll]
  | x :: a, y :: b => by
    have ih := alike_bits a b
    rw [bitsK, bitsK] at ih
    rw [bitsK, List.map_cons, NestedKey.datas, bitsK, List.map_cons, NestedKey.datas, NestedKey.data, NestedKey.data, PySem.W.alikeAll, ih]
    simp [PySem.W.alike]
theorem alike_two (u v : Two) : PySem.W.alike (twoK u).data (twoK v).data = true := by
  rw [two_data, two_data, PySem.W.alike]
  simp [PySem.W.alikeAll, PySem.W.alike, alike_bits]
theorem sort_two {L : List (Addr × NK)} (h : ∀ p ∈ L, ∃ u, p.2 = twoK u) : PySem.W.AllAlike (L.map fun p => p.2.data) ∧ PySem.W.Sortable (L.map fun p => p.2.data) := by
  refine ⟨fun d hd d' hd' => ?_, .inl fun d hd => ?_⟩
  · obtain ⟨p, hp, rfl⟩ := List.mem_map.mp hd
    obtain ⟨p', hp', rfl⟩ := List.mem_map.mp hd'
    obtain ⟨u, e⟩ := h p hp
    obtain ⟨u', e'⟩ := h p' hp'
    rw [e, e']
    exact alike_two u u'
  · obtain ⟨p, hp, rfl⟩ := List.mem_map.mp hd
    obtain ⟨u, e⟩ := h p hp
    rw [e, two_data]
    exact ⟨_, _, rfl⟩
/-- pairs met -/
def MetAt (K : PySem.W.Frag) (H : Hp) (N M : Net) (L : List (Addr × NK)) : Prop := ∀ p ∈ L, ∃ u, p.2 = twoK u ∧ PairAt K H p.1 u ∧ Sized N M u
theorem MetAt.keep {H' : Hp} {Mm : Addr → Prop} {L : List (Addr × NK)} (h : MetAt K H N M L) (k : Kp Mm H H') (n : NoTup Mm H) : MetAt K H' N M L := fun p hp => by
  obtain ⟨u, a, b, c⟩ := h p hp
  exact ⟨u, a, b.keep k n, c⟩
theorem MetAt.keep0 {H' : Hp} {L : List (Addr × NK)} (h : MetAt K H N M L) (k : Kp No H H') : MetAt K H' N M L := h.keep k .no
theorem MetAt.kd {L : List (Addr × NK)} (h : MetAt K H N M L) : ∀ p ∈ L, Kd K H p := fun p hp => by
  obtain ⟨u, a, b, c⟩ := h p hp
  rw [show p = (p.1, twoK u) from by rw [← a]]
  exact b.kd
theorem MetAt.keys {L : List (Addr × NK)} (h : MetAt K H N M L) : ∀ p ∈ L, ∃ u, p.2 = twoK u := fun p hp => by
  obtain ⟨u, a, _⟩ := h p hp
  exact ⟨u, a⟩
theorem MetAt.sub {L L' : List (Addr × NK)} (h : MetAt K H N M L) (s : ∀ p ∈ L', p ∈ L) : MetAt K H N M L' := fun p hp => h p (s p hp)
theorem PsAt.cons {ads : List Addr} {us : List Two} {ad : Addr} {u : Two} (h : PairAt K H ad u) (r : PsAt K H ads us) : PsAt K H (ad :: ads) (u :: us) := by
  refine ⟨by rw [List.length_cons, List.length_cons, r.len], fun i a v h1 h2 => ?_⟩
  cases i with
  | zero => cases h1; cases h2; exact h
  | succ i => exact r.row i a v h1 h2
theorem PsAt.nil : PsAt K H [] [] := ⟨rfl, fun i ad c h1 => by simp at h1⟩
theorem PsAt.append {as bs : List Addr} {ps qs : List Two} (h1 : PsAt K H as ps) (h2 : PsAt K H bs qs) : PsAt K H (as ++ bs) (ps ++ qs) := by
  refine ⟨by rw [List.length_append, List.length_append, h1.len, h2.len], fun i ad p e1 e2 => ?_⟩
  rcases Nat.lt_or_ge i ps.length with z | z
  · rw [List.getElem?_append_left (by rw [h1.len]; exact z)] at e1
    rw [List.getElem?_append_left z] at e2
    exact h1.row i ad p e1 e2
  · rw [List.getElem?_append_right (by rw [h1.len]; exact z), h1.len] at e1
    rw [List.getElem?_append_right z] at e2
    exact h2.row _ ad p e1 e2
theorem PsAt.snoc {ads : List Addr} {us : List Two} (h : PsAt K H ads us) {ad : Addr} {u : Two} (hu : PairAt K H ad u) : PsAt K H (ads ++ [ad]) (us ++ [u]) := h.append (.cons hu .nil)
theorem PsAt.met {ads : List Addr} {us : List Two} (h : PsAt K H ads us) (hs : ∀ u ∈ us, Sized N M u) : MetAt K H N M (pkeys ads us) := fun p hp => by
  obtain ⟨u, hu, e, hp⟩ := pkeys_at h hp
  exact ⟨u, e, hp, hs u hu⟩
theorem untwo : ∀ {qs : List (Addr × NK)}, MetAt K H N M qs → ∃ us : List Two, PsAt K H (qs.map (·.1)) us ∧ ∀ u ∈ us, Sized N M u
  | [], _ => ⟨[], .nil, fun u hu => by cases hu⟩
  | q :: qs, h => by
    obtain ⟨us, a, b⟩ := untwo (qs := qs) fun p hp => h p (List.mem_cons_of_mem _ hp)
    obtain ⟨u, _, c, e⟩ := h q List.mem_cons_self
    refine ⟨u :: us, .cons c a, fun v hv => ?_⟩
    rcases List.mem_cons.mp hv with z | z
    · rw [z]; exact e
    · exact b v z
theorem unitems : ∀ {qs : List (Addr × NK)}, MetAt K H N M qs → ∃ items : List (V × Option Two), items.map (·.1) = qs.map (fun q => V.ref q.1) ∧ items.length = qs.length ∧ ∀ x ∈ items, PairV K H x.1 x.2 ∧ ∀ t, x.2 = some t → Sized N M t
  | [], _ => ⟨[], rfl, rfl, fun u hu => by cases hu⟩
  | q :: qs, h => by
    obtain ⟨items, a, l, b⟩ := unitems (qs := qs) fun p hp => h p (List.mem_cons_of_mem _ hp)
    obtain ⟨u, _, c, e⟩ := h q List.mem_cons_self
    refine ⟨(.ref q.1, some u) :: items, by rw [List.map_cons, List.map_cons, a], by rw [List.length_cons, List.length_cons, l], fun v hv => ?_⟩
    rcases List.mem_cons.mp hv with z | z
    · rw [z]; exact ⟨.inr ⟨q.1, u, rfl, rfl, c⟩, fun t ht => by cases ht; exact e⟩
    · exact b v z
end
theorem addAll_len : ∀ {ks L : List (Addr × NK)}, (ks.map (·.2)).Nodup → (∀ p ∈ ks, p.2 ∉ L.map (·.2)) → (addAll L ks).length = L.length + ks.length
  | [], _, _, _ => rfl
  | p :: ks, L, nd, h => by
    rw [List.map_cons, List.nodup_cons] at nd
    have e : addN L p = L ++ [p] := by unfold addN; rw [if_neg (h p List.mem_cons_self)]
    have e2 : addAll L (p :: ks) = addAll (addN L p) ks := rfl
    rw [e2, e, addAll_len nd.2]
    · simp only [List.length_append, List.length_cons, List.length_nil]
      omega
    · intro q hq z
      rw [List.map_append, List.mem_append] at z
      rcases z with z | z
      · exact h q (List.mem_cons_of_mem _ hq) z
      · rw [List.map_cons, List.map_nil, List.mem_singleton] at z
        exact nd.1 (z ▸ List.mem_map.mpr ⟨q, hq, rfl⟩)
theorem noTup_nd {w : World} {H : Hp} {a d : Addr} {L : List (Addr × NK)} (h : H a = some (NDO w d L)) : NoTup (fun z => z = a) H := fun z e => by rw [e]; exact ⟨fun xs e2 => (by rw [h] at e2; cases e2), fun o xs e2 => (by rw [h] at e2; cases e2)⟩
theorem x_updN {K : PySem.W.Frag} {w : World} {to : TE} {t : TA} {σ : L2.St} {H : Hp} {Q : VK} (k : to σ H fun x H1 => (∃ d L, x = V.ref d ∧ H1 d = some (NDO w d L)) ∧ t σ H1 fun xs H2 => rUpdN K w x xs H2 Q) : tUpdN K w to t σ H Q := k
section
variable {P : Program} {w : World} {K : PySem.W.Frag} {mg : Str → Option Value} {base : Heap} {d : Ads} {C : Addr} {S : Nat → Prop}
def HeldI (K : PySem.W.Frag) (w : World) (a1 a2 : NAd) (N M : Net) (c : CAd) (F dm : Addr) (H4 : Hp) (mm : Nat) (σ : L2.St) (H' : Hp) : Prop := ∃ (lv : Addr) (items : List (V × Option Two)) (Ld : List (Addr × NK)) (wd : Int) (o8 o9 o10 o11 o12 : Option V),
  σ = [some (.ref a1.p), some (.ref a2.p), some (nt 60), some (.ref c.t), some (.ref F), some (.ref dm), some (.ref lv), some (.int wd), o8, o9, o10, o11, o12] ∧ H' lv = some (.lst (items.map (·.1))) ∧ (∀ x ∈ items, PairV K H' x.1 x.2 ∧ ∀ t, x.2 = some t → Sized N M t) ∧
  H' dm = some (NDO w dm Ld) ∧ MetAt K H' N M Ld ∧ Ld.length ≤ 60 ∧ items.length ≤ 60 ∧ mm = (if items = [] then 0 else 62 - Ld.length) ∧ Kp (fun z => z = dm) H4 H'
def pHeldL (S : Nat → Prop) (K : PySem.W.Frag) : V → V → V → Hp → VK → XK → Prop := fun x y z H Q _ => ∃ (a1 a2 : NAd) (N M : Net), x = .ref a1.p ∧ y = .ref a2.p ∧ z = nt 60 ∧ NetAt K H a1 N ∧ NetAt K H a2 M ∧ FewS S ∧ NetOk S N ∧ NetOk S M ∧ N.cells.length ≤ 1900 ∧ M.cells.length ≤ 1900 ∧
  (∀ H', Kp No H H' → Q .non H') ∧ ∀ (t : Addr) (v : V) (l : Addr) (ads : List Addr) (us : List Two) H', H l = none → H' t = some (.tup [v, .ref l]) → H' l = some (.lst (ads.map V.ref)) → PsAt K H' ads us → (∀ u ∈ us, Sized N M u) → us.length ≤ 60 → Kp No H H' → Q (.ref t) H'
theorem ok_held (G : Txt K w mg d) (D : Df K mg "_law_held" s_law_held ["_law_one", "_law_other", "_law_most"]) (c_law_start : Cal P w K mg base CX0 1 "_law_start" (sp2 (pStart K))) (c_law_letters : Cal P w K mg base CX0 1 "_law_letters" (sp1 (pLetL K)))
    (c_law_both : Cal P w K mg base CX0 2 "_law_both" (U fun S => sp3 (pBoth S K))) : Cal P w K mg base CX0 3 "_law_held" (U fun S => sp3 (pHeldL S K)) := by
  refine cal0 D sc_law_held rfl fun f cdv A outer s0 H vs Q E hr h => ?_
  obtain ⟨S, h⟩ := h
  replace c_law_both := c_law_both.at S
  obtain ⟨_, _, _, rfl, a1, a2, N, M, rfl, rfl, rfl, hN, hM, hS, okN, okM, l1, l2, qn, q⟩ := h
  refine ⟨_, (pss_cons (ps_set (i := 3) sc_law_held.nd rfl (Or.inl rfl) (pe_c c_law_start hr (by first | decide | omega) (by rfl) pass0 (pa_cons (pv 0) (pa_cons (pv 1) pa_nil))))
    (pss_cons (ps_set (i := 4) sc_law_held.nd rfl (Or.inl rfl) (pe_c c_law_letters hr (by first | decide | omega) (by rfl) pass0 (pa_cons (pe_ix (ixT K) (pv 3) pe_int (fun _ _ => rfl)) pa_nil)))
    (pss_cons (ps_set (i := 5) sc_law_held.nd rfl (Or.inl rfl) (N7.dn w))
    (pss_cons (ps_set (i := 6) sc_law_held.nd rfl (Or.inl rfl) (pe_lst (pa_cons pe_non pa_nil)))
    (pss_cons (ps_set (i := 7) sc_law_held.nd rfl (Or.inl rfl) pe_int)
    (pss_cons (ps_while PassesOwn.never (pt_cmpR (neD K hr.units) (pv 6) (pe_lst pa_nil) (nomark _))
      (pss_cons (ps_set (i := 7) sc_law_held.nd rfl (Or.inl rfl) (pe_op op_add (pv 7) pe_int))
      (pss_cons (ps_set (i := 8) sc_law_held.nd rfl (Or.inl rfl) (pe_lst pa_nil))
      (pss_cons (ps_for PassesOwn.never rfl (piL K (pv 6)) (pg_name (i := 9) sc_law_held.nd rfl (Or.inl rfl))
        (pss_one (ps_for PassesOwn.never rfl (piL K (pv 4)) (pg_name (i := 10) sc_law_held.nd rfl (Or.inl rfl))
          (pss_cons (ps_asg (pe_c c_law_both hr (by first | decide | omega) (by rfl) pass0 (pa_cons (pv 3) (pa_cons (pv 9) (pa_cons (pv 10) pa_nil)))) (pgT (n := 2) K (by rfl) (pgs_cons (pg_name (i := 11) sc_law_held.nd rfl (Or.inl rfl)) (pgs_cons (pg_name (i := 12) sc_law_held.nd rfl (Or.inl rfl)) pgs_nil))))
          (pss_cons (ps_if (pt_not (pt_val (pv 11)))
            (pss_one (ps_ret (pe_tup (pa_cons (pv 7) (pa_cons (pe_callB (N7.sortND K w rfl hr.units) (by rfl) G.n_sorted (by decide +kernel) (pa_cons (pv 5) pa_nil)) pa_nil)))))
            pss_nil)
          (pss_one (ps_if (pt_cmpR (N7.ninN K w hr.units) (pv 12) (pv 5) (by rfl))
            (pss_one (ps_expr (bm K PySem.F.plainAttrs_list PySem.F.slot_list_append PySem.F.type_list_append mt_append (pv 8) (pa_cons (pv 12) pa_nil))))
            pss_nil)))))))
      (pss_cons (ps_set (i := 6) sc_law_held.nd rfl (Or.inl rfl) (pe_callB (N7.sortN K w rfl hr.units) (by rfl) G.n_sorted (by decide +kernel) (pa_cons (pe_callTy (N7.setN K w rfl hr.units) (by rfl) G.n_set (by decide +kernel) (pa_cons (pv 8) pa_nil)) pa_nil)))
      (pss_cons (ps_expr (N7.updN K w rfl hr.units (pv 5) (pa_cons (pe_lc (own := [("_law_pair", 9)]) (g := gName 9) (tt := tYes) rfl sc_law_held.nd (piL K (pv 6)) (blkOk_by (own := [("_law_pair", 9)]) (N := N_law_held) (sc := defScope s_law_held) (by decide +kernel)) (fun _ _ _ _ _ => (pg_name (i := 9) sc_law_held.nd rfl (Or.inl rfl))) (fun _ _ _ _ _ => pts_nil) (fun _ _ _ _ _ => (pe_tup (pa_cons (pv 9) (pa_cons pe_bl pa_nil))))) pa_nil)))
      (pss_one (ps_if (pt_cmpR op_gt (pe_callB (N7.lenND w) (by rfl) G.n_len (by decide +kernel) (pa_cons (pv 5) pa_nil)) (pv 2) (nomark _))
        (pss_one (ps_ret pe_non))
        pss_nil))))))))
    (pss_one (ps_ret (pe_tup (pa_cons pe_non (pa_cons (pe_callB (N7.sortND K w rfl hr.units) (by rfl) G.n_sorted (by decide +kernel) (pa_cons (pv 5) pa_nil)) pa_nil))))))))))), ?_⟩
  refine B.x_start (σ' := [some (.ref a1.p), some (.ref a2.p), some (nt 60), none, none, none, none, none, none, none, none, none, none]) rfl ?_
  have f8 := okN.lo.few (m := 8) fun r h => h.1
  have g8 := okM.lo.few (m := 8) fun r h => h.1
  walk_at "go"
  refine ⟨a1, a2, N, M, rfl, rfl, hN, hM, l1, l2, f8, g8, fun c L H1 hC hL k1 => ?_⟩
  obtain ⟨h6, h8⟩ := hL.few hS okN okM
  have top1 := hC.top
  walk_at "go"
  refine ⟨c.tl, L, rfl, hC.lp, h6, h8, fun F lads H2 hF hlets k2 => ?_⟩
  have cnt : (letsN L).length ≤ 64 := by rw [letsN_len]; exact Nat.le_trans (Nat.pow_le_pow_right (by decide) h6) (by decide)
  have hC2 := hC.keep0 k2
  have k02 := k1.trans k2
  walk_at "go"
  intro dm hdm
  have k3 : Kp No H2 (upd H2 dm (NDO w dm [])) := .new hdm
  have hdm3 : upd H2 dm (NDO w dm []) dm = some (NDO w dm []) := upd_same
  have k03 := k02.trans k3
  have hdmn : H dm = none := k02.free hdm
  have hC3 := hC2.keep0 k3
  have hF3 := k3.at0 hF
  have hl3 := hlets.keep0 k3
  generalize upd H2 dm (NDO w dm []) = H3 at *
  walk_at "go"
  intro lv hlv
  have k4 : Kp No H3 (upd H3 lv (.lst [.non])) := .new hlv
  have hlv4 : upd H3 lv (.lst [.non]) lv = some (.lst [.non]) := upd_same
  have hdm4 := k4.at0 hdm3
  have k04 := k03.trans k4
  have hC4 := hC3.keep0 k4
  have hF4 := k4.at0 hF3
  have hl4 := hl3.keep0 k4
  generalize upd H3 lv (.lst [.non]) = H4 at *
  have nFdm : F ≠ dm := fun z => by rw [z, hdm4] at hF4; cases hF4
  have ntd := noTup_nd hdm4
  have keepC : ∀ {H' : Hp}, Kp (fun z => z = dm) H4 H' → CaseAt K H' c N M L := fun {H'} k => hC.keep0 (Kp.fresh (k2.trans (k3.trans k4)) k (by rintro z rfl; exact k2.free hdm))
  walk_at "go"
  refine x_while (HeldI K w a1 a2 N M c F dm H4) 62 ⟨lv, [(.non, none)], [], 0, _, _, _, _, _, rfl, hlv4, (fun x hx => by rw [List.mem_singleton] at hx; rw [hx]; exact ⟨.inl ⟨rfl, rfl⟩, fun t ht => by cases ht⟩), hdm4, (fun p hp => by cases hp), by simp, by simp, rfl, .refl _⟩ ?_
  rintro mm σ H5 ⟨lv, items, Ld, wd, o8, o9, o10, o11, o12, rfl, e1, e2, e3, e4, e5, e6, rfl, k5⟩
  have k05 : Kp No H H5 := Kp.fresh k04 k5 (by rintro z rfl; exact hdmn)
  walk_at "go"
  intro en hen
  have k6 : Kp No H5 (upd H5 en (.lst [])) := .new hen
  refine x_neLev (SqL.of (k6.at0 e1)) (fun x hx => (show PairV K _ x.1 x.2 from by
    rcases (e2 x hx).1 with z | ⟨p, t, z1, z2, z3⟩
    · exact .inl z
    · exact .inr ⟨p, t, z1, z2, z3.keep0 k6⟩)) (SqL.of upd_same) ?_
  have e16 := k6.at0 e1
  have e26 : ∀ {H' : Hp}, Kp No (upd H5 en (.lst [])) H' → ∀ x ∈ items, PairV K H' x.1 x.2 ∧ ∀ t, x.2 = some t → Sized N M t := fun {H'} k x hx => by
    refine ⟨?_, (e2 x hx).2⟩
    rcases (e2 x hx).1 with z | ⟨p, t, z1, z2, z3⟩
    · exact .inl z
    · exact .inr ⟨p, t, z1, z2, z3.keep0 (k6.trans k)⟩
  have e36 := k6.at0 e3
  have e46 := e4.keep0 k6
  have k06 := k05.trans k6
  have k46 : Kp (fun z => z = dm) H4 (upd H5 en (.lst [])) := k5.trans k6.of0
  generalize upd H5 en (.lst []) = H6 at *
  walk_at "go"
  refine x_ite (fun hb => ?_) (fun hb => ?_)
  · have hne : items ≠ [] := fun z => by rw [z] at hb; cases hb
    refine ⟨fun σ' H' => ∃ m', m' < (if items = [] then 0 else 62 - Ld.length) ∧ HeldI K w a1 a2 N M c F dm H4 m' σ' H', fun σ' H' z => z, ?_⟩
    walk_at "go"
    intro Fu hFu
    have k7 : Kp No H6 (upd H6 Fu (.lst [])) := .new hFu
    have hFu7 : upd H6 Fu (.lst []) Fu = some (.lst []) := upd_same
    have e17 := k7.at0 e16
    have e37 := k7.at0 e36
    have e47 := e46.keep0 k7
    have k07 := k06.trans k7
    have k47 : Kp (fun z => z = dm) H4 (upd H6 Fu (.lst [])) := k46.trans k7.of0
    have hFun : H6 Fu = none := hFu
    have nlv : lv ≠ Fu := ne_of_none e16 hFu
    have ndm : dm ≠ Fu := ne_of_none e36 hFu
    have e27 : ∀ {H' : Hp}, Kp (fun z => z = Fu) (upd H6 Fu (.lst [])) H' → Kp No H6 H' := fun {H'} k => Kp.fresh k7 k (by rintro z rfl; exact hFun)
    generalize upd H6 Fu (.lst []) = H7 at *
    have hF7 := k47.at hF4 nFdm
    have nF : F ≠ Fu := fun z => by rw [z, hFu7] at hF7; have := congrArg List.length (HO.lst.inj (Option.some.inj hF7)); rw [List.length_map, hlets.len, letsN_len] at this; have p : 0 < 2 ^ L.length := Nat.pow_pos (by decide); simp at this; omega
    walk_at "go"
    refine fr_l (items.map (·.1)) (fun i σ H' => ∃ (o9 o10 o11 o12 : Option V) (fads : List Addr) (fus : List Two), σ = [some (.ref a1.p), some (.ref a2.p), some (nt 60), some (.ref c.t), some (.ref F), some (.ref dm), some (.ref lv), some (.int (wd + 1)), some (.ref Fu), o9, o10, o11, o12] ∧ H' Fu = some (.lst (fads.map V.ref)) ∧ PsAt K H' fads fus ∧ (∀ u ∈ fus, Sized N M u ∧ twoK u ∉ Ld.map (·.2)) ∧ fads.length ≤ i * 64 ∧ Kp (fun z => z = Fu) H7 H') ⟨_, _, _, _, [], [], rfl, hFu7, .nil, (fun u hu => by cases hu), by simp, .refl _⟩ (fun i σ H' _ z => ?_) ?_ ?_
    · obtain ⟨o9, o10, o11, o12, fads, fus, rfl, f1, f2, f3, f4, k8⟩ := z
      exact SqL.of (k8.at e17 nlv)
    · rintro i y σ H8 hy ⟨o9, o10, o11, o12, fads, fus, rfl, f1, f2, f3, f4, k8⟩
      rw [List.getElem?_map, Option.map_eq_some_iff] at hy
      obtain ⟨x, hx, rfl⟩ := hy
      have hi : i < items.length := (List.getElem?_eq_some_iff.mp hx).1
      have hxm := List.mem_of_getElem? hx
      have hF8 := k8.at hF7 nF
      walk_at "go"
      refine fr_l (lads.map V.ref) (fun j σ H' => ∃ (o10 o11 o12 : Option V) (fads : List Addr) (fus : List Two), σ = [some (.ref a1.p), some (.ref a2.p), some (nt 60), some (.ref c.t), some (.ref F), some (.ref dm), some (.ref lv), some (.int (wd + 1)), some (.ref Fu), some x.1, o10, o11, o12] ∧ H' Fu = some (.lst (fads.map V.ref)) ∧ PsAt K H' fads fus ∧ (∀ u ∈ fus, Sized N M u ∧ twoK u ∉ Ld.map (·.2)) ∧ fads.length ≤ i * 64 + j ∧ Kp (fun z => z = Fu) H7 H') ⟨_, _, _, fads, fus, rfl, f1, f2, f3, by omega, k8⟩ (fun j σ H' _ z => ?_) ?_ ?_
      · obtain ⟨o10, o11, o12, fads, fus, rfl, f1, f2, f3, f4, k9⟩ := z
        exact SqL.of (k9.at hF7 nF)
      · clear f1 f2 f3 f4 hF8
        rintro j y σ H9 hy ⟨o10, o11, o12, fads, fus, rfl, f1, f2, f3, f4, k9⟩
        rw [List.getElem?_map, Option.map_eq_some_iff] at hy
        obtain ⟨lad, hlad, rfl⟩ := hy
        have hj : j < (letsN L).length := by rw [← hlets.len]; exact (List.getElem?_eq_some_iff.mp hlad).1
        obtain ⟨bits, hbits⟩ : ∃ bits, (letsN L)[j]? = some bits := ⟨_, List.getElem?_eq_getElem hj⟩
        have isl := (mem_letsN hL.up h8 bits).mp (List.mem_of_getElem? hbits)
        have k69 := e27 k9
        have hC9 : CaseAt K H9 c N M L := keepC (k46.trans k69.of0)
        have hl9 : LetAt K H9 lads (letsN L) := hl4.keep (k46.trans k69.of0) ntd
        obtain ⟨hpv, hsz⟩ := e26 k69 x hxm
        have e39 := k69.at0 e36
        have e49 := e46.keep0 k69
        walk_at "go"
        refine ⟨c, N, M, L, x.2, lad, bits, rfl, rfl, hC9, okN, okM, hpv, hsz, hl9.row j lad bits hlad hbits, isl.1, fun p qa H10 hp10 hq10 k10 => ?_⟩
        have e310 := k10.at0 e39
        have e410 := e49.keep0 k10
        have f110 := k10.at0 f1
        have f210 := f2.keep0 k10
        have k010 := k06.trans (k69.trans k10)
        cases hsame : sameD N M x.2 bits with
        | false =>
          rw [hsame] at hp10
          walk_at "go"
          obtain ⟨al, so⟩ := sort_two e410.keys
          refine ⟨dm, Ld, rfl, e310, e410.kd, by omega, al, so, fun l L0 hl pm => ?_⟩
          have hq : ∀ p ∈ L0.mergeSort (PySem.W.dataLe false fun p => p.2.data), p ∈ Ld := fun p hp => pm.mem_iff.mp ((List.mergeSort_perm _ _).mem_iff.mp hp)
          have hlq : (L0.mergeSort (PySem.W.dataLe false fun p => p.2.data)).length ≤ 60 := by rw [List.length_mergeSort, pm.length_eq]; exact e5
          generalize L0.mergeSort (PySem.W.dataLe false fun p => p.2.data) = qs at hq hlq ⊢
          have kl : Kp No H10 (upd H10 l (.lst (qs.map fun q => V.ref q.1))) := .new hl
          walk_at "go"
          intro t ht
          have kt := kl.trans (Kp.new (M := No) (o := .tup [.int (wd + 1), .ref l]) ht)
          obtain ⟨us, hus, hsz2⟩ := untwo ((e410.sub hq).keep0 kt)
          refine q t _ l (qs.map (·.1)) us _ (k010.free hl) upd_same ?_ hus hsz2 (by rw [← hus.len, List.length_map]; exact hlq) (k010.trans kt)
          rw [upd_ne (ne_of_none (show upd H10 l (.lst (qs.map fun q => V.ref q.1)) l = some _ from upd_same) ht), upd_same, List.map_map]
          rfl
        | true =>
          rw [hsame] at hp10
          walk_at "go"
          refine ⟨(qa, twoK (nextD N M x.2 bits)), dm, Ld, rfl, rfl, hq10.kd, e310, e410.kd, ?_⟩
          rw [if_pos rfl]
          walk_at "go"
          by_cases hm : twoK (nextD N M x.2 bits) ∈ Ld.map (·.2)
          · refine x_no (by rw [decide_eq_true hm]; rfl) ?_
            walk_at "go"
            exact ⟨_, _, _, fads, fus, rfl, f110, f210, f3, by omega, k9.trans k10.of0⟩
          · refine x_yes (by rw [decide_eq_false hm]; rfl) ?_
            have hlen : (fads.map V.ref).length < 16777216 := by rw [List.length_map]; omega
            walk_at "go"
            have kF : Kp (fun z => z = Fu) H10 (upd H10 Fu (.lst (fads.map V.ref ++ [.ref qa]))) := .set rfl
            refine ⟨_, _, _, fads ++ [qa], fus ++ [nextD N M x.2 bits], rfl, by rw [upd_same, List.map_append]; rfl, (f210.keep kF (noTup_lst f110)).snoc (hq10.keep kF (noTup_lst f110)), fun u hu => ?_, by rw [List.length_append]; show _ + 1 ≤ _; omega, (k9.trans k10.of0).trans kF⟩
            rcases List.mem_append.mp hu with z | z
            · exact f3 u z
            · rw [List.mem_singleton.mp z]; exact ⟨next_sized _ _ _ _, hm⟩
      · clear f1 f2 f3 f4 hF8
        rintro σ H9 ⟨o10, o11, o12, fads, fus, rfl, f1, f2, f3, f4, k9⟩
        rw [List.length_map, hlets.len] at f4
        walk_at "go"
        exact ⟨_, _, _, _, fads, fus, rfl, f1, f2, f3, by omega, k9⟩
    · rintro σ H8 ⟨o9, o10, o11, o12, fads, fus, rfl, f1, f2, f3, f4, k8⟩
      rw [List.length_map] at f4
      have k68 := e27 k8
      have k08 := k06.trans k68
      have hlen := f2.len
      walk_at "go"
      refine ⟨Fu, pkeys fads fus, rfl, .inl (SqL.of (by rw [pkeys_fst hlen]; exact f1)), pkeys_kd f2, by rw [pkeys_len hlen]; omega, fun sa Ls hsa come => ?_⟩
      have k9 : Kp No H8 (upd H8 sa (SetNO w sa Ls)) := .new hsa
      have hsa9 : upd H8 sa (SetNO w sa Ls) sa = some (SetNO w sa Ls) := upd_same
      have hsub : ∀ p ∈ Ls, p ∈ pkeys fads fus := fun p hp => by have := come.sub p hp; rwa [List.take_length] at this
      have hmet8 : MetAt K H8 N M (pkeys fads fus) := f2.met fun u hu => (f3 u hu).1
      have hmet9 := (hmet8.sub hsub).keep0 k9
      have hLs : Ls.length ≤ 3840 := Nat.le_trans come.len (by rw [pkeys_len hlen]; omega)
      have nd := come.nd
      generalize upd H8 sa (SetNO w sa Ls) = H9 at *
      walk_at "go"
      obtain ⟨al, so⟩ := sort_two hmet9.keys
      refine ⟨sa, Ls, rfl, hsa9, hmet9.kd, by omega, al, so, fun lv2 L0 hlv2 pm => ?_⟩
      have hq : ∀ p ∈ L0.mergeSort (PySem.W.dataLe false fun p => p.2.data), p ∈ Ls := fun p hp => pm.mem_iff.mp ((List.mergeSort_perm _ _).mem_iff.mp hp)
      have hlq : (L0.mergeSort (PySem.W.dataLe false fun p => p.2.data)).length ≤ 3840 := by rw [List.length_mergeSort, pm.length_eq]; exact hLs
      have hnd : ((L0.mergeSort (PySem.W.dataLe false fun p => p.2.data)).map (·.2)).Nodup := (((List.mergeSort_perm _ _).trans pm).map (·.2)).nodup_iff.mpr nd
      generalize L0.mergeSort (PySem.W.dataLe false fun p => p.2.data) = qs at hq hlq hnd ⊢
      have k10 : Kp No H9 (upd H9 lv2 (.lst (qs.map fun q => V.ref q.1))) := .new hlv2
      have hlv10 : upd H9 lv2 (.lst (qs.map fun q => V.ref q.1)) lv2 = some (.lst (qs.map fun q => V.ref q.1)) := upd_same
      have hmet10 := (hmet9.sub hq).keep0 k10
      have k610 := k68.trans (k9.trans k10)
      have hnot : ∀ p ∈ qs, p.2 ∉ Ld.map (·.2) := fun p hp => by
        obtain ⟨u, hu, e, _⟩ := pkeys_at f2 (hsub p (hq p hp))
        rw [e]
        exact (f3 u hu).2
      generalize upd H9 lv2 (.lst (qs.map fun q => V.ref q.1)) = H10 at *
      have e310 := k610.at0 e36
      have e410 := e46.keep0 k610
      walk_at "go"
      refine x_updN ?_
      walk_at "go"
      refine ⟨⟨dm, Ld, rfl, e310⟩, ?_⟩
      walk_at "go"
      refine lc_l (qs.map fun q => V.ref q.1) (fun D i H' => Kp No H10 H' ∧ ∃ pads : List Addr, H' D = some (.lst (pads.map V.ref)) ∧ pads.length = i ∧ ∀ (j : Nat) (t : Addr) (p : Addr × NK), pads[j]? = some t → qs[j]? = some p → H' t = some (.tup [.ref p.1, .bl true])) (fun D hD => ⟨.new hD, [], upd_same, rfl, fun j t ad h1 => by simp at h1⟩) (fun D i H' _ z => SqL.of (z.1.at0 hlv10)) ?_ ?_
      · rintro D i y H11 hD hy ⟨k11, pads, g1, g2, g3⟩
        rw [List.getElem?_map, Option.map_eq_some_iff] at hy
        obtain ⟨p0, hp0, rfl⟩ := hy
        have hi : i < qs.length := (List.getElem?_eq_some_iff.mp hp0).1
        walk_at "go"
        refine ⟨rfl, ?_⟩
        walk_at "go"
        intro t ht
        have nD : t ≠ D := (ne_of_none g1 ht).symm
        refine ⟨_, by rw [upd_ne nD.symm]; exact g1, by rw [List.length_map, sizeLine_eq]; omega, (k11.trans (.new ht)).old hD, pads ++ [t], by rw [upd_same, List.map_append]; rfl, by simp [g2], fun j t2 p2 h1 h2 => ?_⟩
        rcases Nat.lt_trichotomy j i with z | z | z
        · rw [List.getElem?_append_left (by omega)] at h1
          have e := g3 j t2 p2 h1 h2
          rw [upd_ne (ne_of e g1 (by intro z; cases z)), upd_ne (ne_of_none e ht)]
          exact e
        · subst z
          rw [List.getElem?_append_right (by omega), g2, Nat.sub_self] at h1
          cases h1
          rw [hp0] at h2
          cases h2
          rw [upd_ne nD, upd_same]
        · rw [List.getElem?_eq_none (by simp; omega)] at h1
          cases h1
      rintro D H11 hD ⟨k11, pads, g1, g2, g3⟩
      rw [List.length_map] at g2
      have e311 := k11.at0 e310
      have e411 := e410.keep0 k11
      have hmet11 := hmet10.keep0 k11
      have k611 := k610.trans k11
      walk_at "go"
      refine ⟨dm, D, pads, Ld, qs, rfl, rfl, e311, e411.kd, by omega, ⟨SqL.of g1, g2, fun j t p h1 h2 => SqT.of (g3 j t p h1 h2), hmet11.kd, by omega⟩, ?_⟩
      have kd : Kp (fun z => z = dm) H11 (upd H11 dm (NDO w dm (addAll Ld qs))) := .set rfl
      have ntd11 := noTup_nd e311
      have hdm12 : upd H11 dm (NDO w dm (addAll Ld qs)) dm = some (NDO w dm (addAll Ld qs)) := upd_same
      have hl12 := addAll_len hnd hnot
      have hmet12 : MetAt K (upd H11 dm (NDO w dm (addAll Ld qs))) N M (addAll Ld qs) := fun p hp => by
        rcases addAll_mem hp with z | z
        · exact (e411.keep kd ntd11) p z
        · exact (hmet11.keep kd ntd11) p z
      have hqs12 := hmet11.keep kd ntd11
      have hlv12 : upd H11 dm (NDO w dm (addAll Ld qs)) lv2 = some (.lst (qs.map fun q => V.ref q.1)) := by
        rw [upd_ne (ne_of (k11.at0 hlv10) e311 (by intro z; cases z))]
        exact k11.at0 hlv10
      have k412 : Kp (fun z => z = dm) H4 (upd H11 dm (NDO w dm (addAll Ld qs))) := (k46.trans k611.of0).trans kd
      have k012 : Kp No H (upd H11 dm (NDO w dm (addAll Ld qs))) := Kp.fresh k04 k412 (by rintro z rfl; exact hdmn)
      generalize upd H11 dm (NDO w dm (addAll Ld qs)) = H12 at *
      walk_at "go"
      refine ⟨dm, addAll Ld qs, rfl, hdm12, by omega, ?_⟩
      walk_at "go"
      refine x_ite (fun e => ?_) (fun e => ?_)
      · walk_at "go"
        exact qn _ k012
      · walk_at "go"
        have h60 : (addAll Ld qs).length ≤ 60 := by simp at e; omega
        obtain ⟨items2, i1, i2, i3⟩ := unitems hqs12
        refine ⟨_, ?_, lv2, items2, addAll Ld qs, wd + 1, _, _, _, _, _, rfl, by rw [i1]; exact hlv12, i3, hdm12, hmet12, h60, by omega, rfl, k412⟩
        rw [if_neg hne]
        split
        · omega
        · rename_i z
          have : 0 < items2.length := List.length_pos_iff.mpr z
          omega
  · have hnil : items = [] := by cases items with
      | nil => rfl
      | cons x l => cases hb
    walk_at "go"
    obtain ⟨al, so⟩ := sort_two e46.keys
    refine ⟨dm, Ld, rfl, e36, e46.kd, by omega, al, so, fun l L0 hl pm => ?_⟩
    have hq : ∀ p ∈ L0.mergeSort (PySem.W.dataLe false fun p => p.2.data), p ∈ Ld := fun p hp => pm.mem_iff.mp ((List.mergeSort_perm _ _).mem_iff.mp hp)
    have hlq : (L0.mergeSort (PySem.W.dataLe false fun p => p.2.data)).length ≤ 60 := by rw [List.length_mergeSort, pm.length_eq]; exact e5
    generalize L0.mergeSort (PySem.W.dataLe false fun p => p.2.data) = qs at hq hlq ⊢
    have kl : Kp No H6 (upd H6 l (.lst (qs.map fun q => V.ref q.1))) := .new hl
    walk_at "go"
    intro t ht
    have kt := kl.trans (Kp.new (M := No) (o := .tup [.non, .ref l]) ht)
    obtain ⟨us, hus, hsz2⟩ := untwo ((e46.sub hq).keep0 kt)
    refine q t _ l (qs.map (·.1)) us _ (k06.free hl) upd_same ?_ hus hsz2 (by rw [← hus.len, List.length_map]; exact hlq) (k06.trans kt)
    rw [upd_ne (ne_of_none (show upd H6 l (.lst (qs.map fun q => V.ref q.1)) l = some _ from upd_same) ht), upd_same, List.map_map]
    rfl
end
end K7
namespace K7
open PySem PySem.Spec PyProof.Rows L2 B N7
section
variable {P : Program} {w : World} {K : PySem.W.Frag} {mg : Str → Option Value} {base : Heap} {d : Ads} {C : Addr} {S : Nat → Prop}
theorem ok_showsL (G : Txt K w mg d) (D : Df K mg "_law_shows" s_law_shows ["_law_one", "_law_other", "_law_pairs"]) (c_law_start : Cal P w K mg base CX0 1 "_law_start" (sp2 (pStart K))) (c_law_letters : Cal P w K mg base CX0 1 "_law_letters" (sp1 (pLetL K)))
    (c_law_both : Cal P w K mg base CX0 2 "_law_both" (U fun S => sp3 (pBoth S K))) : Cal P w K mg base CX0 3 "_law_shows" (U fun S => sp3 (pShows S K)) := by
  refine cal0 D sc_law_shows rfl fun f cdv A outer s H vs Q E hr h => ?_
  obtain ⟨S, h⟩ := h
  replace c_law_both := c_law_both.at S
  obtain ⟨_, _, _, rfl, a1, a2, N, M, b, ads, us, rfl, rfl, rfl, hN, hM, hS, okN, okM, l1, l2, hb, hp, hf, hs, q⟩ := h
  refine ⟨_, (pss_cons (ps_set (i := 3) sc_law_shows.nd rfl (Or.inl rfl) (pe_c c_law_start hr (by first | decide | omega) (by rfl) pass0 (pa_cons (pv 0) (pa_cons (pv 1) pa_nil))))
    (pss_cons (ps_set (i := 4) sc_law_shows.nd rfl (Or.inl rfl) (pe_callTy (N7.dictN K w rfl hr.units) (by rfl) G.n_dict (by decide +kernel) (pa_cons (pe_lc (own := [("_law_pair", 5)]) (g := gName 5) (tt := tYes) rfl sc_law_shows.nd (piL K (pv 2)) (blkOk_by (own := [("_law_pair", 5)]) (N := N_law_shows) (sc := defScope s_law_shows) (by decide +kernel)) (fun _ _ _ _ _ => (pg_name (i := 5) sc_law_shows.nd rfl (Or.inl rfl))) (fun _ _ _ _ _ => pts_nil) (fun _ _ _ _ _ => (pe_tup (pa_cons (pv 5) (pa_cons pe_bl pa_nil))))) pa_nil)))
    (pss_cons (ps_for PassesOwn.never rfl (piL K (pe_op op_cat (pe_lst (pa_cons pe_non pa_nil)) (pe_callTy (listOf K) (by rfl) G.n_list (by decide +kernel) (pa_cons (pv 2) pa_nil)))) (pg_name (i := 5) sc_law_shows.nd rfl (Or.inl rfl))
      (pss_one (ps_for PassesOwn.never rfl (piL K (pe_c c_law_letters hr (by first | decide | omega) (by rfl) pass0 (pa_cons (pe_ix (ixT K) (pv 3) pe_int (fun _ _ => rfl)) pa_nil))) (pg_name (i := 6) sc_law_shows.nd rfl (Or.inl rfl))
        (pss_cons (ps_asg (pe_c c_law_both hr (by first | decide | omega) (by rfl) pass0 (pa_cons (pv 3) (pa_cons (pv 5) (pa_cons (pv 6) pa_nil)))) (pgT (n := 2) K (by rfl) (pgs_cons (pg_name (i := 7) sc_law_shows.nd rfl (Or.inl rfl)) (pgs_cons (pg_name (i := 8) sc_law_shows.nd rfl (Or.inl rfl)) pgs_nil))))
        (pss_one (ps_if (PW.pt (pw_or (pt_not (pt_val (pv 7))) (pw_or1 (pt_cmpR (N7.ninN K w hr.units) (pv 8) (pv 4) (by rfl)))))
          (pss_one (ps_ret pe_bl))
          pss_nil))))))
    (pss_one (ps_ret pe_bl))))), ?_⟩
  refine B.x_start (σ' := [some (.ref a1.p), some (.ref a2.p), some (.ref b), none, none, none, none, none, none]) rfl ?_
  have f8 := okN.lo.few (m := 8) fun r h => h.1
  have g8 := okM.lo.few (m := 8) fun r h => h.1
  walk_at "go"
  refine ⟨a1, a2, N, M, rfl, rfl, hN, hM, l1, l2, f8, g8, fun c L H4 hC hL k04 => ?_⟩
  obtain ⟨h6, h8⟩ := hL.few hS okN okM
  have hb4 := k04.at0 hb
  have hp4 := hp.keep0 k04
  walk_at "go"
  refine lc_l (ads.map V.ref) (fun D i H' => Kp No H4 H' ∧ ∃ pads : List Addr, H' D = some (.lst (pads.map V.ref)) ∧ pads.length = i ∧ ∀ (j : Nat) (t ad : Addr), pads[j]? = some t → ads[j]? = some ad → H' t = some (.tup [.ref ad, .bl true])) (fun D hD => ⟨.new hD, [], upd_same, rfl, fun j t ad h1 => by simp at h1⟩) (fun D i H' _ z => SqL.of (z.1.at0 hb4)) ?_ ?_
  · rintro D i y H5 hD hy ⟨k5, pads, g1, g2, g3⟩
    rw [List.getElem?_map, Option.map_eq_some_iff] at hy
    obtain ⟨ad, had, rfl⟩ := hy
    have hi : i < us.length := by rw [← hp.len]; exact (List.getElem?_eq_some_iff.mp had).1
    walk_at "go"
    refine ⟨rfl, ?_⟩
    walk_at "go"
    intro t ht
    have nD : t ≠ D := (ne_of_none g1 ht).symm
    refine ⟨_, by rw [upd_ne nD.symm]; exact g1, by rw [List.length_map, sizeLine_eq]; omega, (k5.trans (.new ht)).old hD, pads ++ [t], by rw [upd_same, List.map_append]; rfl, by simp [g2], fun j t2 ad2 h1 h2 => ?_⟩
    rcases Nat.lt_trichotomy j i with z | z | z
    · rw [List.getElem?_append_left (by omega)] at h1
      have e := g3 j t2 ad2 h1 h2
      rw [upd_ne (ne_of e g1 (by intro z; cases z)), upd_ne (ne_of_none e ht)]
      exact e
    · subst z
      rw [List.getElem?_append_right (by omega), g2, Nat.sub_self] at h1
      cases h1
      rw [had] at h2
      cases h2
      rw [upd_ne nD, upd_same]
    · rw [List.getElem?_eq_none (by simp; omega)] at h1
      cases h1
  rintro D H5 hD ⟨k5, pads, g1, g2, g3⟩
  rw [List.length_map] at g2
  have hp5 := hp4.keep0 k5
  have hlen := hp.len
  walk_at "go"
  refine ⟨D, pads, pkeys ads us, rfl, ⟨SqL.of g1, by rw [pkeys_len hlen, g2, hlen], fun j t p h1 h2 => ?_, pkeys_kd hp5, by rw [pkeys_len hlen]; omega⟩, fun dk hdk => ?_⟩
  · rw [pkeys, List.getElem?_zip_eq_some] at h2
    exact SqT.of (g3 j t p.1 h1 h2.1)
  have k6 : Kp No H4 (upd H5 dk (NDO w dk (addAll [] (pkeys ads us)))) := k5.trans (.new hdk)
  have hdk6 : upd H5 dk (NDO w dk (addAll [] (pkeys ads us))) dk = some (NDO w dk (addAll [] (pkeys ads us))) := upd_same
  generalize upd H5 dk (NDO w dk (addAll [] (pkeys ads us))) = H6 at *
  have hb7 := k6.at0 hb4
  walk_at "go"
  intro n0 hn0
  have k8 : Kp No H6 (upd H6 n0 (.lst [.non])) := .new hn0
  have hb8 := k8.at0 hb7
  have hn8 : upd H6 n0 (.lst [.non]) n0 = some (.lst [.non]) := upd_same
  generalize upd H6 n0 (.lst [.non]) = H8 at *
  walk_at "go"
  intro c0 hc0
  have k9 : Kp No H8 (upd H8 c0 (.lst (ads.map V.ref))) := .new hc0
  refine ⟨n0, c0, _, _, rfl, rfl, k9.at0 hn8, upd_same, by simp [sizeLine_eq]; omega, fun pl hpl => ?_⟩
  have k10 : Kp No H6 (upd (upd H8 c0 (.lst (ads.map V.ref))) pl (.lst ([.non] ++ ads.map V.ref))) := (k8.trans k9).trans (.new hpl)
  have hpl10 : upd (upd H8 c0 (.lst (ads.map V.ref))) pl (.lst ([.non] ++ ads.map V.ref)) pl = some (.lst ([.non] ++ ads.map V.ref)) := upd_same
  generalize upd (upd H8 c0 (.lst (ads.map V.ref))) pl (.lst ([.non] ++ ads.map V.ref)) = H10 at *
  have hC10 := hC.keep0 (k6.trans k10)
  have hp10 := hp4.keep0 (k6.trans k10)
  have hdk10 := k10.at0 hdk6
  have k010 := k04.trans (k6.trans k10)
  have hkeys : ∀ {u : Two}, twoK u ∈ (addAll [] (pkeys ads us)).map (·.2) ↔ u ∈ us := fun {u} => by
    rw [addAll_iff, pkeys_snd hlen, mem_keys]
    simp
  have hkd : ∀ {H' : Hp}, Kp No H10 H' → ∀ p ∈ addAll [] (pkeys ads us), Kd K H' p := fun k p hp' => by
    rcases addAll_mem hp' with z | z
    · cases z
    · exact pkeys_kd (hp10.keep0 k) p z
  have item : ∀ (i : Nat) (v : V), ([.non] ++ ads.map V.ref)[i]? = some v → ∃ u : Option Two, (none :: us.map some)[i]? = some u ∧ (∀ t, u = some t → Sized N M t) ∧ ∀ {H' : Hp}, Kp No H10 H' → PairV K H' v u := by
    intro i v hv
    cases i with
    | zero => cases hv; exact ⟨none, rfl, fun t e => (by cases e), fun _ => .inl ⟨rfl, rfl⟩⟩
    | succ i =>
      replace hv : (ads.map V.ref)[i]? = some v := hv
      rw [List.getElem?_map, Option.map_eq_some_iff] at hv
      obtain ⟨ad, had, rfl⟩ := hv
      have hi : i < us.length := by rw [← hlen]; exact (List.getElem?_eq_some_iff.mp had).1
      have hu : us[i]? = some us[i] := List.getElem?_eq_getElem hi
      refine ⟨some us[i], by rw [List.getElem?_cons_succ, List.getElem?_map, hu]; rfl, fun t e => by cases e; exact hs _ (List.mem_of_getElem? hu), fun k => .inr ⟨ad, _, rfl, rfl, (hp10.row i ad _ had hu).keep0 k⟩⟩
  walk_at "go"
  refine fr_l ([.non] ++ ads.map V.ref) (fun i σ H' => ∃ (o5 o6 o7 o8 : Option V), σ = [some (.ref a1.p), some (.ref a2.p), some (.ref b), some (.ref c.t), some (.ref dk), o5, o6, o7, o8] ∧ Kp No H10 H' ∧ ∀ j, j < i → ∀ u, (none :: us.map some)[j]? = some u → GoodU N M us u) ⟨_, _, _, _, rfl, .refl _, fun j hj => by omega⟩ (fun i σ H' _ z => ?_) ?_ ?_
  · obtain ⟨o5, o7, o8, o9, rfl, k11, _⟩ := z
    exact SqL.of (k11.at0 hpl10)
  · rintro i v σ H11 hv ⟨o5, o6, o7, o8, rfl, k11, done⟩
    obtain ⟨u, hu, hsz, hpv⟩ := item i v hv
    have hC11 := hC10.keep0 k11
    have top11 := hC11.top
    walk_at "go"
    refine ⟨c.tl, L, rfl, hC11.lp, h6, h8, fun F lads H12 hF hlets k12 => ?_⟩
    walk_at "go"
    refine fr_l (lads.map V.ref) (fun i2 σ H' => ∃ (o6 o7 o8 : Option V), σ = [some (.ref a1.p), some (.ref a2.p), some (.ref b), some (.ref c.t), some (.ref dk), some v, o6, o7, o8] ∧ Kp No H12 H' ∧ ∀ j, j < i2 → ∀ bits, (letsN L)[j]? = some bits → sameD N M u bits = true ∧ nextD N M u bits ∈ us) ⟨_, _, _, rfl, .refl _, fun j hj => by omega⟩ (fun i2 σ H' _ z => ?_) ?_ ?_
    · obtain ⟨o7, o8, o9, rfl, k13, _⟩ := z
      exact SqL.of (k13.at0 hF)
    · rintro i2 y σ H13 hy ⟨o6, o7, o8, rfl, k13, done2⟩
      rw [List.getElem?_map, Option.map_eq_some_iff] at hy
      obtain ⟨lad, hlad, rfl⟩ := hy
      have hi2 : i2 < (letsN L).length := by rw [← hlets.len]; exact (List.getElem?_eq_some_iff.mp hlad).1
      obtain ⟨bits, hbits⟩ : ∃ bits, (letsN L)[i2]? = some bits := ⟨_, List.getElem?_eq_getElem hi2⟩
      have isl0 := (mem_letsN hL.up h8 bits).mp (List.mem_of_getElem? hbits)
      have isl : IsLetN N M bits := (isLet_iff hL bits).mp isl0
      have k113 := k11.trans (k12.trans k13)
      walk_at "go"
      refine ⟨c, N, M, L, u, lad, bits, rfl, rfl, hC10.keep0 k113, okN, okM, hpv k113, hsz, (hlets.keep0 k13).row i2 lad bits hlad hbits, isl.1, fun p qa H14 hp14 hq14 k14 => ?_⟩
      have k114 := k113.trans k14
      have umem : u ∈ none :: us.map some := List.mem_of_getElem? hu
      cases hsame : sameD N M u bits with
      | false =>
        rw [hsame] at hp14
        walk_at "go"
        refine q false _ ⟨fun z => (by cases z), fun z => ?_⟩ (k010.trans k114)
        have := (z u umem bits isl).1
        rw [hsame] at this
        cases this
      | true =>
        rw [hsame] at hp14
        have hdk14 := k114.at0 hdk10
        walk_at "go"
        refine ⟨(qa, twoK (nextD N M u bits)), dk, addAll [] (pkeys ads us), rfl, rfl, hq14.kd, hdk14, hkd k114, ?_⟩
        rw [if_pos rfl]
        walk_at "go"
        by_cases hm : nextD N M u bits ∈ us
        · refine x_no (by rw [decide_eq_true (hkeys.mpr hm)]; rfl) ?_
          walk_at "go"
          refine ⟨_, _, _, rfl, k13.trans k14, fun j hj bs hbs => ?_⟩
          rcases Nat.lt_or_ge j i2 with z | z
          · exact done2 j z bs hbs
          · obtain rfl : j = i2 := by omega
            rw [hbits] at hbs
            cases hbs
            exact ⟨hsame, hm⟩
        · refine x_yes (by rw [decide_eq_false (fun z => hm (hkeys.mp z))]; rfl) ?_
          walk_at "go"
          exact q false _ ⟨fun z => (by cases z), fun z => absurd (z u umem bits isl).2 hm⟩ (k010.trans k114)
    · rintro σ H13 ⟨o6, o7, o8, rfl, k13, done2⟩
      rw [List.length_map, hlets.len] at done2
      walk_at "go"
      refine ⟨_, _, _, _, rfl, k11.trans (k12.trans k13), fun j hj u2 hu2 => ?_⟩
      rcases Nat.lt_or_ge j i with z | z
      · exact done j z u2 hu2
      · obtain rfl : j = i := by omega
        rw [hu] at hu2
        cases hu2
        intro bits hb2
        obtain ⟨j2, hj2⟩ := List.getElem?_of_mem ((mem_letsN hL.up h8 bits).mpr ((isLet_iff hL bits).mpr hb2))
        exact done2 j2 (List.getElem?_eq_some_iff.mp hj2).1 bits hj2
  · rintro σ H11 ⟨o5, o6, o7, o8, rfl, k11, done⟩
    walk_at "go"
    refine q true _ ⟨fun _ u hu => ?_, fun _ => rfl⟩ (k010.trans k11)
    obtain ⟨j, hj⟩ := List.getElem?_of_mem hu
    have := (List.getElem?_eq_some_iff.mp hj).1
    exact done j (by simp at this ⊢; omega) u hj
end
end K7
namespace K7
open PySem PySem.Spec PyProof.Rows L2 B N7
section
variable {K : PySem.W.Frag} {H H' : Hp} {Q : VK} {N M : Net} {r sc : Addr} {ns : List Int}
theorem x_eqLev {a b : Addr} {items : List (V × Option Two)} (hl : SqL K H a (items.map (·.1))) (hit : ∀ x ∈ items, PairV K H x.1 x.2) (hb : SqL K H b []) (k : Q (.bl items.isEmpty) H) : rEqD K (.ref a) (.ref b) H Q := by
  refine ⟨.list (items.map fun x => dataO x.2), .list [], .lst hl (dataO_all hit), .lst hb .nil, ?_, by decide, ?_⟩
  · unfold SeqAt.shaped
    rw [Bool.and_eq_true]
    refine ⟨by rw [PyData.canLay0]; exact dataO_lay items, decide_eq_true ?_⟩
    have := dataO_depth items
    rw [PyData.depth]
    omega
  · rw [show PyData.eqv (.list (items.map fun x => dataO x.2)) (.list []) = items.isEmpty by cases items <;> simp [PyData.eqv, PyData.eqvAll]]
    exact k
/-- two lists of the same pairs -/
theorem x_neSameLev {a b : Addr} {items : List (V × Option Two)} (hl : SqL K H a (items.map (·.1))) (hit : ∀ x ∈ items, PairV K H x.1 x.2) (hb : SqL K H b (items.map (·.1))) (k : Q (.bl false) H) : rNeD K (.ref a) (.ref b) H Q := by
  have sh : SeqAt.shaped (.list (items.map fun x => dataO x.2)) = true := by
    unfold SeqAt.shaped
    rw [Bool.and_eq_true]
    refine ⟨by rw [PyData.canLay0]; exact dataO_lay items, decide_eq_true ?_⟩
    have := dataO_depth items
    rw [PyData.depth]
    omega
  refine ⟨.list (items.map fun x => dataO x.2), .list (items.map fun x => dataO x.2), .lst hl (dataO_all hit), .lst hb (dataO_all hit), sh, sh, ?_⟩
  rw [SeqAt.eqv_refl _ (by rw [PyData.canLay0]; exact dataO_lay items)]
  exact k
theorem PsAt.items : ∀ {ads : List Addr} {us : List Two}, PsAt K H ads us → ∃ items : List (V × Option Two), items.map (·.1) = ads.map V.ref ∧ items.length = us.length ∧ ∀ x ∈ items, PairV K H x.1 x.2
  | [], [], _ => ⟨[], rfl, rfl, fun x hx => by cases hx⟩
  | [], _ :: _, h => by have := h.len; simp at this
  | _ :: _, [], h => by have := h.len; simp at this
  | ad :: ads, u :: us, h => by
    obtain ⟨items, a, l, b⟩ := PsAt.items (ads := ads) (us := us) ⟨by have := h.len; simpa using this, fun i x y h1 h2 => h.row (i + 1) x y h1 h2⟩
    refine ⟨(.ref ad, some u) :: items, by rw [List.map_cons, List.map_cons, a], by rw [List.length_cons, List.length_cons, l], fun x hx => ?_⟩
    rcases List.mem_cons.mp hx with z | z
    · rw [z]; exact .inr ⟨ad, u, rfl, rfl, h.row 0 ad u rfl rfl⟩
    · exact b x z
theorem PsAt.take {ads : List Addr} {us : List Two} (h : PsAt K H ads us) (n : Nat) : PsAt K H (ads.take n) (us.take n) := by
  refine ⟨by rw [List.length_take, List.length_take, h.len], fun i a u h1 h2 => ?_⟩
  rcases Nat.lt_or_ge i n with z | z
  · rw [List.getElem?_take_of_lt z] at h1 h2
    exact h.row i a u h1 h2
  · rw [List.getElem?_eq_none (by rw [List.length_take]; omega)] at h1
    cases h1
theorem PsAt.drop {ads : List Addr} {us : List Two} (h : PsAt K H ads us) (n : Nat) : PsAt K H (ads.drop n) (us.drop n) := by
  refine ⟨by rw [List.length_drop, List.length_drop, h.len], fun i a u h1 h2 => ?_⟩
  rw [List.getElem?_drop] at h1 h2
  exact h.row _ a u h1 h2
theorem RowAt.ne_refs (R : RowAt K H r sc ns) {b : Addr} {ads : List Addr} (h : H b = some (.lst (ads.map V.ref))) : b ≠ r := fun z => by
  obtain ⟨_, _, _, e, _⟩ := R.row
  rw [z, e] at h
  have h := HO.lst.inj (Option.some.inj h)
  match ads, h with
  | [], h => cases h
  | [_], h => simp at h
  | _ :: _ :: _, h => simp at h
theorem RowAt.ne_two (R : RowAt K H r sc ns) {b : Addr} {x y : V} (h : H b = some (.lst [x, y])) : b ≠ r := fun z => by
  obtain ⟨_, _, _, e, _⟩ := R.row
  rw [z, e] at h
  have h := congrArg List.length (HO.lst.inj (Option.some.inj h))
  simp at h
theorem RowAt.free (R : RowAt K H r sc ns) (k : KR r H H') {b : Addr} (hb : H' b = none) (n : b ≠ r) : H b = none := by
  cases e : H b with
  | none => rfl
  | some o => rw [k.at e n] at hb; cases hb
end
section
variable {P : Program} {w : World} {K : PySem.W.Frag} {mg : Str → Option Value} {base : Heap} {d : Ads} {C : Addr} {S : Nat → Prop}
/-- drawn bits for two nets -/
theorem bit_of {v : Nat} (h : v < 2) : nt v = bt (decide (v = 1)) := by
  match v, h with
  | 0, _ => rfl
  | 1, _ => rfl
def pBent (K : PySem.W.Frag) : V → V → V → Hp → VK → XK → Prop := fun x y z H Q _ => ∃ (r sc : Addr) (ns : List Int) (b zs : Addr) (ads : List Addr) (us : List Two) (N M : Net), x = .ref r ∧ y = .ref b ∧ z = .ref zs ∧ RowAt K H r sc ns ∧ H b = some (.lst (ads.map V.ref)) ∧ PsAt K H ads us ∧ us.length ≤ 5000 ∧ (∀ u ∈ us, Sized N M u) ∧
  H zs = some (.lst [nt (laters N.cells).length, nt (laters M.cells).length]) ∧ (laters N.cells).length ≤ 1900 ∧ (laters M.cells).length ≤ 1900 ∧
  ∀ (F : Addr) (ads' : List Addr) (us' : List Two) H', H F = none → H' F = some (.lst (ads'.map V.ref)) → PsAt K H' ads' us' → us'.length ≤ us.length + 1 → (∀ u ∈ us', Sized N M u) → RowAt K H' r sc ns → KR r H H' → Q (.ref F) H'
theorem ok_bent (G : Txt K w mg d) (D : Df K mg "_law_bent" s_law_bent ["_law_row", "_law_pairs", "_law_sizes"]) (c_law_taken : Cal P w K mg base CX0 1 "_law_taken" (sp2 (pTaken K))) : Cal P w K mg base CX0 2 "_law_bent" (sp3 (pBent K)) := by
  refine cal0 D sc_law_bent rfl fun f cdv A outer s0 H vs Q E hr h => ?_
  obtain ⟨_, _, _, rfl, r, sc, ns, b, zs, ads, us, N, M, rfl, rfl, rfl, R, hb, hp, h5, hsz, hz, n1, n2, q⟩ := h
  refine ⟨_, (pss_cons (ps_set (i := 3) sc_law_bent.nd rfl (Or.inl rfl) (pe_c c_law_taken hr (by first | decide | omega) (by rfl) pass0 (pa_cons (pv 0) (pa_cons pe_int pa_nil))))
    (pss_cons (ps_set (i := 4) sc_law_bent.nd rfl (Or.inl rfl) (pe_callTy (tupOf K) (by rfl) G.n_tuple (by decide +kernel) (pa_cons (pe_lc (own := [("_law_size", 6)]) (g := gName 6) (tt := tYes) rfl sc_law_bent.nd (piL K (pv 2)) (blkOk_by (own := [("_law_size", 6)]) (N := N_law_bent) (sc := defScope s_law_bent) (by decide +kernel)) (fun _ _ _ _ _ => (pg_name (i := 6) sc_law_bent.nd rfl (Or.inl rfl))) (fun _ _ _ _ _ => pts_nil) (fun _ _ _ _ _ => (pe_callTy (tupOf K) (by rfl) G.n_tuple (by decide +kernel) (pa_cons (pe_lc (own := [("_law_k", 5)]) (g := gName 5) (tt := tYes) rfl sc_law_bent.nd (pi_range1 (by rfl) G.n_range (pa_cons (pv 6) pa_nil)) (N7.blkIn (own := [("_law_k", 5)]) (N := N_law_bent) (by decide +kernel)) (fun _ _ _ _ _ => (pg_name (i := 5) sc_law_bent.nd rfl (Or.inl rfl))) (fun _ _ _ _ _ => pts_nil) (fun _ _ _ _ _ => (pe_c c_law_taken hr (by first | decide | omega) (by rfl) pass0 (pa_cons (pv 0) (pa_cons pe_int pa_nil))))) pa_nil)))) pa_nil)))
    (pss_cons (ps_if (PW.pt (pw_or (pt_cmpR (eqD K hr.units) (pv 1) (pe_lst pa_nil) (nomark _)) (pw_or1 (pt_cmpR op_eq (pv 3) pe_int (nomark _)))))
      (pss_one (ps_ret (pe_op op_cat (pv 1) (pe_lst (pa_cons (pv 4) pa_nil)))))
      pss_nil)
    (pss_cons (ps_set (i := 7) sc_law_bent.nd rfl (Or.inl rfl) (pe_c c_law_taken hr (by first | decide | omega) (by rfl) pass0 (pa_cons (pv 0) (pa_cons (pe_callB (lenS K) (by rfl) G.n_len (by decide +kernel) (pa_cons (pv 1) pa_nil)) pa_nil))))
    (pss_one (ps_ret (pe_ix (ixL K) (pe_lst (pa_cons (pe_op op_cat (pe_slice (slL K) (pv 1) po_none (po_some (pv 7))) (pe_slice (slL K) (pv 1) (po_some (pe_op op_add (pv 7) pe_int)) po_none)) (pa_cons (pe_op op_cat (pe_slice (slL K) (pv 1) po_none (po_some (pe_op op_add (pv 7) pe_int))) (pe_slice (slL K) (pv 1) (po_some (pv 7)) po_none)) (pa_cons (pe_op op_cat (pe_op op_cat (pe_slice (slL K) (pv 1) po_none (po_some (pv 7))) (pe_lst (pa_cons (pv 4) pa_nil))) (pe_slice (slL K) (pv 1) (po_some (pe_op op_add (pv 7) pe_int)) po_none)) pa_nil)))) (pe_op op_sub (pv 3) pe_int) (fun _ _ => rfl)))))))), ?_⟩
  refine B.x_start (σ' := [some (.ref r), some (.ref b), some (.ref zs), none, none, none, none, none]) rfl ?_
  have nb := R.ne_refs hb
  have nz := R.ne_two hz
  have hlen := hp.len
  walk_at "go"
  refine ⟨r, sc, ns, 4, rfl, rfl, by decide, by decide, R, fun way H1 hway R1 k1 => ?_⟩
  have hz1 := k1.at hz nz
  generalize ez1 : (laters N.cells).length = m1 at *
  generalize ez2 : (laters M.cells).length = m2 at *
  walk_at "go"
  refine lc_l [nt m1, nt m2] (fun D i H' => RowAt K H' r sc ns ∧ KR r H1 H' ∧ D ≠ r ∧ ∃ nads : List Addr, H' D = some (.lst (nads.map V.ref)) ∧ nads.length = i ∧ ∀ (j m : Nat) (t : Addr), nads[j]? = some t → [m1, m2][j]? = some m → ∃ bs : List Bool, bs.length = m ∧ SqT K H' t (bs.map bt)) (fun D hD => ⟨R1.keep0 (.new hD), .new hD, R1.new hD, [], upd_same, rfl, fun j m t h => by simp at h⟩) (fun D i H' _ z => SqL.of (z.2.1.at hz1 nz)) ?_ ?_
  · rintro D i y H2 hD hy ⟨R2, k2, nD, nads, g1, g2, g3⟩
    have hi2 : i < 2 := (List.getElem?_eq_some_iff.mp hy).1
    obtain ⟨m, rfl, hm, hm2⟩ : ∃ m : Nat, y = nt m ∧ [m1, m2][i]? = some m ∧ m ≤ 1900 := by
      match i, hy with
      | 0, hy => cases hy; exact ⟨m1, rfl, rfl, n1⟩
      | 1, hy => cases hy; exact ⟨m2, rfl, rfl, n2⟩
    walk_at "go"
    refine ⟨rfl, ?_⟩
    walk_at "go"
    refine lc_r (n := m) (fun D2 k H' => RowAt K H' r sc ns ∧ KR r H2 H' ∧ D2 ≠ r ∧ ∃ bs : List Bool, H' D2 = some (.lst (bs.map bt)) ∧ bs.length = k) (fun D2 hD2 => ⟨R2.keep0 (.new hD2), .new hD2, R2.new hD2, [], upd_same, rfl⟩) ?_ ?_
    · rintro D2 k H3 hD2 hk ⟨R3, k3, nD2, bs, f1, f2⟩
      walk_at "go"
      refine ⟨rfl, ?_⟩
      walk_at "go"
      refine ⟨r, sc, ns, 2, rfl, rfl, by decide, by decide, R3, fun v H4 hv R4 k4 => ?_⟩
      have f14 := k4.at f1 nD2
      rw [bit_of hv]
      refine ⟨_, f14, by rw [List.length_map, sizeLine_eq]; omega, RowAt.setF R2 hD2 R4 nD2, (k3.trans k4).old hD2, nD2, bs ++ [decide (v = 1)], by rw [upd_same, List.map_append]; rfl, by simp [f2]⟩
    · rintro D2 H3 hD2 ⟨R3, k3, nD2, bs, f1, f2⟩
      have nD12 : D ≠ D2 := ne_of_none g1 hD2
      have g13 := k3.at g1 nD
      walk_at "go"
      intro t ht
      have k4 : Kp No H3 (upd H3 t (.tup (bs.map bt))) := .new ht
      have ht4 : SqT K (upd H3 t (.tup (bs.map bt))) t (bs.map bt) := SqT.of upd_same
      have g14 := k4.at0 g13
      have R4 := R3.keep0 k4
      have k24 := k3.trans k4.of0
      have ntr := R2.noTup
      generalize upd H3 t (.tup (bs.map bt)) = H4 at *
      have kD : Kp (fun z => z = D) H4 (upd H4 D (.lst (nads.map V.ref ++ [.ref t]))) := .set rfl
      refine ⟨_, g14, by rw [List.length_map, sizeLine_eq]; omega, RowAt.setF R1 hD R4 nD, (k2.trans k24).old hD, nD, nads ++ [t], by rw [upd_same, List.map_append]; rfl, by simp [g2], fun j m' t' h1 h2 => ?_⟩
      rcases Nat.lt_trichotomy j i with z | z | z
      · rw [List.getElem?_append_left (by omega)] at h1
        obtain ⟨bs', c1, c2⟩ := g3 j m' t' h1 h2
        exact ⟨bs', c1, Kp.sqt kD (noTup_lst g14) (Kp.sqt k24 ntr c2)⟩
      · subst z
        rw [List.getElem?_append_right (by omega), g2, Nat.sub_self] at h1
        cases h1
        rw [hm] at h2
        cases h2
        exact ⟨bs, f2, Kp.sqt kD (noTup_lst g14) ht4⟩
      · rw [List.getElem?_eq_none (by simp; omega)] at h1
        cases h1
  · rintro D H2 hD ⟨R2, k2, nD, nads, g1, g2, g3⟩
    obtain ⟨t1, t2, rfl⟩ : ∃ t1 t2, nads = [t1, t2] := by
      match nads, g2 with
      | [t1, t2], _ => exact ⟨t1, t2, rfl⟩
    obtain ⟨bs1, b1, c1⟩ := g3 0 m1 t1 rfl rfl
    obtain ⟨bs2, b2, c2⟩ := g3 1 m2 t2 rfl rfl
    have k02 := k1.trans k2
    walk_at "go"
    intro t ht
    have k3 : Kp No H2 (upd H2 t (.tup ([t1, t2].map V.ref))) := .new ht
    have hnew : PairAt K (upd H2 t (.tup ([t1, t2].map V.ref))) t (bs1, bs2) := ⟨t1, t2, SqT.of upd_same, Kp.sqt k3 .no c1, Kp.sqt k3 .no c2⟩
    have hsn : Sized N M (bs1, bs2) := ⟨by rw [ez1]; exact b1, by rw [ez2]; exact b2⟩
    have R3 := R2.keep0 k3
    have k03 := k02.trans k3.of0
    generalize upd H2 t (.tup ([t1, t2].map V.ref)) = H3 at *
    have hb3 := k03.at hb nb
    have hp3 := hp.keep k03 R.noTup
    obtain ⟨items, i1, i2, i3⟩ := hp3.items
    have fin : ∀ (F : Addr) (ads' : List Addr) (us' : List Two) (H' : Hp), H3 F = none → H' F = some (.lst (ads'.map V.ref)) → PsAt K H3 ads' us' → us'.length ≤ us.length + 1 → (∀ u ∈ us', Sized N M u) → Kp No H3 H' → Q (.ref F) H' := fun F ads' us' H' hF h1 h2 h3 h4 k => q F ads' us' H' (R.free k03 hF (R3.new hF)) h1 (h2.keep0 k) h3 h4 (R3.keep0 k) (k03.trans k.of0)
    have one : PsAt K H3 [t] [(bs1, bs2)] := .cons hnew .nil
    walk_at "go"
    intro en hen
    have k4 : Kp No H3 (upd H3 en (.lst [])) := .new hen
    refine x_eqLev (SqL.of (by rw [i1]; exact k4.at0 hb3)) (fun x hx => (show PairV K _ x.1 x.2 from by
      rcases i3 x hx with z | ⟨p, t, z1, z2, z3⟩
      · exact .inl z
      · exact .inr ⟨p, t, z1, z2, z3.keep0 k4⟩)) (SqL.of upd_same) ?_
    have k34 := k4
    generalize upd H3 en (.lst []) = H4 at *
    have hb4 := k4.at0 hb3
    have app : ∀ (l : Addr) (H' : Hp), Kp No H3 H' → H' l = some (.lst [.ref t]) → H' b = some (.lst (ads.map V.ref)) → ∃ l1 l2 xs ys, V.ref b = .ref l1 ∧ V.ref l = .ref l2 ∧ H' l1 = some (.lst xs) ∧ H' l2 = some (.lst ys) ∧ xs.length + ys.length ≤ sizeLine ∧ ∀ p, H' p = none → Q (.ref p) (upd H' p (.lst (xs ++ ys))) := by
      intro l H' k h1 h2
      refine ⟨b, l, _, _, rfl, rfl, h2, h1, by rw [List.length_map, sizeLine_eq]; show _ + 1 ≤ _; omega, fun p hp' => ?_⟩
      refine fin p (ads ++ [t]) (us ++ [(bs1, bs2)]) _ (k.free hp') (by rw [upd_same, List.map_append]; rfl) (hp3.append one) (by simp) (fun u hu => ?_) (k.trans (.new hp'))
      rcases List.mem_append.mp hu with z | z
      · exact hsz u z
      · rw [List.mem_singleton.mp z]; exact hsn
    walk_at "go"
    refine x_ite (fun e => ?_) (fun e => ?_)
    · walk_at "go"
      intro l hl
      exact app l _ (k34.trans (.new hl)) upd_same ((Kp.new (M := No) hl).at0 hb4)
    walk_at "go"
    refine x_ite (fun e2 => ?_) (fun e2 => ?_)
    · walk_at "go"
      intro l hl
      exact app l _ (k34.trans (.new hl)) upd_same ((Kp.new (M := No) hl).at0 hb4)
    have hpos : 1 ≤ us.length := by
      cases items with
      | nil => cases e
      | cons x l => rw [← i2]; simp
    have hway : way = 1 ∨ way = 2 ∨ way = 3 := by simp at e2; omega
    have R4 := R3.keep0 k34
    walk_at "go"
    refine ⟨r, sc, ns, us.length, rfl, by rw [List.length_map, hlen], hpos, by omega, R4, fun at_ H5 hat R5 k5 => ?_⟩
    have k35 : KR r H3 H5 := k34.of0.trans k5
    have hb5 := k5.at hb4 nb
    have hp5 := hp3.keep k35 R3.noTup
    have one5 := one.keep k35 R3.noTup
    have k05 := k03.trans k35
    have fin5 : ∀ (F : Addr) (ads' : List Addr) (us' : List Two) (H' : Hp), H5 F = none → H' F = some (.lst (ads'.map V.ref)) → PsAt K H5 ads' us' → us'.length ≤ us.length + 1 → (∀ u ∈ us', Sized N M u) → Kp No H5 H' → Q (.ref F) H' := fun F ads' us' H' hF h1 h2 h3 h4 k => q F ads' us' H' (R.free k05 hF (R5.new hF)) h1 (h2.keep0 k) h3 h4 (R5.keep0 k) (k05.trans k.of0)
    have xl : (ads.map V.ref).length = us.length := by rw [List.length_map, hlen]
    have e1 : ((at_ : Int) + 1) = ((at_ + 1 : Nat) : Int) := by omega
    walk_at "go"
    intro p1 hp1
    rw [cut_take]
    have q1 : Kp No H5 (upd H5 p1 (.lst ((ads.map V.ref).take at_))) := .new hp1
    have v1 : upd H5 p1 (.lst ((ads.map V.ref).take at_)) p1 = some (.lst ((ads.map V.ref).take at_)) := upd_same
    generalize upd H5 p1 (.lst ((ads.map V.ref).take at_)) = X1 at *
    have hb6 := q1.at0 hb5
    walk_at "go"
    intro p2 hp2
    rw [e1, cut_drop]
    have q2 : Kp No H5 (upd X1 p2 (.lst ((ads.map V.ref).drop (at_ + 1)))) := q1.trans (.new hp2)
    have v12 := (Kp.new (M := No) (o := .lst ((ads.map V.ref).drop (at_ + 1))) hp2).at0 v1
    have v2 : upd X1 p2 (.lst ((ads.map V.ref).drop (at_ + 1))) p2 = some (.lst ((ads.map V.ref).drop (at_ + 1))) := upd_same
    generalize upd X1 p2 (.lst ((ads.map V.ref).drop (at_ + 1))) = X2 at *
    refine ⟨p1, p2, _, _, rfl, rfl, v12, v2, by rw [List.length_take, List.length_drop, xl, sizeLine_eq]; omega, fun c1 hc1 => ?_⟩
    have q3 : Kp No H5 (upd X2 c1 (.lst ((ads.map V.ref).take at_ ++ (ads.map V.ref).drop (at_ + 1)))) := q2.trans (.new hc1)
    have w1 : upd X2 c1 (.lst ((ads.map V.ref).take at_ ++ (ads.map V.ref).drop (at_ + 1))) c1 = some (.lst ((ads.take at_ ++ ads.drop (at_ + 1)).map V.ref)) := by rw [upd_same, List.map_append, List.map_take, List.map_drop]
    have hc1n := q2.free hc1
    generalize upd X2 c1 (.lst ((ads.map V.ref).take at_ ++ (ads.map V.ref).drop (at_ + 1))) = X3 at *
    have hb7 := q3.at0 hb5
    walk_at "go"
    intro p3 hp3'
    rw [e1, cut_take]
    have u4 : Kp No X3 (upd X3 p3 (.lst ((ads.map V.ref).take (at_ + 1)))) := .new hp3'
    have v3 : upd X3 p3 (.lst ((ads.map V.ref).take (at_ + 1))) p3 = some (.lst ((ads.map V.ref).take (at_ + 1))) := upd_same
    generalize upd X3 p3 (.lst ((ads.map V.ref).take (at_ + 1))) = X4 at *
    have hb8 := (q3.trans u4).at0 hb5
    walk_at "go"
    intro p4 hp4
    rw [cut_drop]
    have u5 : Kp No X4 (upd X4 p4 (.lst ((ads.map V.ref).drop at_))) := .new hp4
    have v34 := u5.at0 v3
    have v4 : upd X4 p4 (.lst ((ads.map V.ref).drop at_)) p4 = some (.lst ((ads.map V.ref).drop at_)) := upd_same
    generalize upd X4 p4 (.lst ((ads.map V.ref).drop at_)) = X5 at *
    refine ⟨p3, p4, _, _, rfl, rfl, v34, v4, by rw [List.length_take, List.length_drop, xl, sizeLine_eq]; omega, fun c2 hc2 => ?_⟩
    have u6 : Kp No X3 (upd X5 c2 (.lst ((ads.map V.ref).take (at_ + 1) ++ (ads.map V.ref).drop at_))) := (u4.trans u5).trans (.new hc2)
    have w2 : upd X5 c2 (.lst ((ads.map V.ref).take (at_ + 1) ++ (ads.map V.ref).drop at_)) c2 = some (.lst ((ads.take (at_ + 1) ++ ads.drop at_).map V.ref)) := by rw [upd_same, List.map_append, List.map_take, List.map_drop]
    have hc2n := (q3.trans (u4.trans u5)).free hc2
    generalize upd X5 c2 (.lst ((ads.map V.ref).take (at_ + 1) ++ (ads.map V.ref).drop at_)) = X6 at *
    have w16 := u6.at0 w1
    have q6 := q3.trans u6
    have hb9 := q6.at0 hb5
    walk_at "go"
    intro p5 hp5'
    rw [cut_take]
    have u7 : Kp No X6 (upd X6 p5 (.lst ((ads.map V.ref).take at_))) := .new hp5'
    have v5 : upd X6 p5 (.lst ((ads.map V.ref).take at_)) p5 = some (.lst ((ads.map V.ref).take at_)) := upd_same
    generalize upd X6 p5 (.lst ((ads.map V.ref).take at_)) = X7 at *
    walk_at "go"
    intro p6 hp6
    have u8 : Kp No X7 (upd X7 p6 (.lst [.ref t])) := .new hp6
    refine ⟨p5, p6, _, _, rfl, rfl, u8.at0 v5, upd_same, by rw [List.length_take, xl, sizeLine_eq]; show _ + 1 ≤ _; omega, fun c3 hc3 => ?_⟩
    have u9 : Kp No X6 (upd (upd X7 p6 (.lst [.ref t])) c3 (.lst ((ads.map V.ref).take at_ ++ [.ref t]))) := (u7.trans u8).trans (.new hc3)
    have w3 : upd (upd X7 p6 (.lst [.ref t])) c3 (.lst ((ads.map V.ref).take at_ ++ [.ref t])) c3 = some (.lst ((ads.map V.ref).take at_ ++ [.ref t])) := upd_same
    generalize upd (upd X7 p6 (.lst [.ref t])) c3 (.lst ((ads.map V.ref).take at_ ++ [.ref t])) = X9 at *
    have hb10 := (q6.trans u9).at0 hb5
    walk_at "go"
    intro p7 hp7
    rw [e1, cut_drop]
    have u10 : Kp No X9 (upd X9 p7 (.lst ((ads.map V.ref).drop (at_ + 1)))) := .new hp7
    refine ⟨c3, p7, _, _, rfl, rfl, u10.at0 w3, upd_same, by rw [List.length_append, List.length_take, List.length_drop, xl, sizeLine_eq]; simp; omega, fun c4 hc4 => ?_⟩
    have u11 : Kp No X6 (upd (upd X9 p7 (.lst ((ads.map V.ref).drop (at_ + 1)))) c4 (.lst ((ads.map V.ref).take at_ ++ [.ref t] ++ (ads.map V.ref).drop (at_ + 1)))) := (u9.trans u10).trans (.new hc4)
    have w4 : upd (upd X9 p7 (.lst ((ads.map V.ref).drop (at_ + 1)))) c4 (.lst ((ads.map V.ref).take at_ ++ [.ref t] ++ (ads.map V.ref).drop (at_ + 1))) c4 = some (.lst ((ads.take at_ ++ [t] ++ ads.drop (at_ + 1)).map V.ref)) := by rw [upd_same, List.map_append, List.map_append, List.map_take, List.map_drop]; rfl
    have hc4n := (q6.trans (u9.trans u10)).free hc4
    generalize upd (upd X9 p7 (.lst ((ads.map V.ref).drop (at_ + 1)))) c4 (.lst ((ads.map V.ref).take at_ ++ [.ref t] ++ (ads.map V.ref).drop (at_ + 1))) = X11 at *
    have w111 := u11.at0 w16
    have w211 := u11.at0 w2
    have q11 := q6.trans u11
    walk_at "go"
    intro ld hld
    have u12 : Kp No X11 (upd X11 ld (.lst [.ref c1, .ref c2, .ref c4])) := .new hld
    have q12 := q11.trans u12
    have mem_take : ∀ {u : Two} {n : Nat}, u ∈ us.take n → u ∈ us := fun h => List.mem_of_mem_take h
    have mem_drop : ∀ {u : Two} {n : Nat}, u ∈ us.drop n → u ∈ us := fun h => List.mem_of_mem_drop h
    rcases hway with rfl | rfl | rfl
    · have ix : atI [V.ref c1, .ref c2, .ref c4] (((1 : Nat) : Int) - 1) = some (.ref c1) := rfl
      walk_at "go"
      refine fin5 c1 _ (us.take at_ ++ us.drop (at_ + 1)) _ hc1n (u12.at0 w111) ((hp5.take at_).append (hp5.drop (at_ + 1))) (by rw [List.length_append, List.length_take, List.length_drop]; omega) (fun u hu => ?_) q12
      exact (List.mem_append.mp hu).elim (fun z => hsz u (mem_take z)) fun z => hsz u (mem_drop z)
    · have ix : atI [V.ref c1, .ref c2, .ref c4] (((2 : Nat) : Int) - 1) = some (.ref c2) := rfl
      walk_at "go"
      refine fin5 c2 _ (us.take (at_ + 1) ++ us.drop at_) _ hc2n (u12.at0 w211) ((hp5.take (at_ + 1)).append (hp5.drop at_)) (by rw [List.length_append, List.length_take, List.length_drop]; omega) (fun u hu => ?_) q12
      exact (List.mem_append.mp hu).elim (fun z => hsz u (mem_take z)) fun z => hsz u (mem_drop z)
    · have ix : atI [V.ref c1, .ref c2, .ref c4] (((3 : Nat) : Int) - 1) = some (.ref c4) := rfl
      walk_at "go"
      refine fin5 c4 _ (us.take at_ ++ [(bs1, bs2)] ++ us.drop (at_ + 1)) _ hc4n (u12.at0 w4) (((hp5.take at_).append one5).append (hp5.drop (at_ + 1))) (by rw [List.length_append, List.length_append, List.length_take, List.length_drop]; simp; omega) (fun u hu => ?_) q12
      rcases List.mem_append.mp hu with z | z
      · rcases List.mem_append.mp z with z | z
        · exact hsz u (mem_take z)
        · rw [List.mem_singleton.mp z]; exact hsn
      · exact hsz u (mem_drop z)
end
end K7
namespace K7
open PySem PySem.Spec PyProof.Rows L2 B N7
/-! ### what is refused -/
structure XAds where
  SE : Addr
  PR : Addr
  WI : Addr
  IN : Addr
  NE : Addr
  BP : Addr
  TM : Addr
  TE : Addr
structure XTxt (K : PySem.W.Frag) (mg : Str → Option Value) (x : XAds) : Prop where
  gP : mg "BadPairs" = some (.ref x.BP)
  kP : PySem.W.keepIn K (.ref x.BP) = true
  xP : PySem.W.excIn K x.BP [.type "ValueError", .type "Exception", .type "BaseException", .type "object"] "ValueError.__new__" = true
  bP : PySem.W.subIn K (.ref x.BP) (.type "BaseException") = some true
  tP : PySem.W.typeIn K (.ref x.BP) = some (.type "type")
section
variable {P : Program} {w : World} {K : PySem.W.Frag} {mg : Str → Option Value} {base : Heap}
/-- a def's promise by its body; an exception may leave it -/
theorem calX {x : Str} {st : Stmt} {N ps : List Str} {k n : Nat} {sp : Sp} [ar : Ar sp n] (D : Df K mg x st ps) (S : FnScope N ps (defScope st)) (hl : ps.length = n)
    (hbody : ∀ (f : Addr) (cdv : Value) (A : Around) (outer : List Env) (s : Shared) (H : Hp) (vs : List V) (Q : VK) (E : XK), Room k (A.deeper (envOfC x (defScope st) s.heap.objs.size f cdv)) → sp vs H Q E →
      ∃ t, PSs (cxOf (L2.CX P w) P w K mg base N x (defScope st) f cdv A outer s H E) (defBody st) t ∧ t { nx := fun _ H' => Q .non H', rt := Q } (L2.start N vs) H) : Cal P w K mg base (L2.CX P w) (k + 1) x sp := by
  obtain ⟨f, fd, F, hm, b⟩ := D.ex
  exact ⟨f, fd, ps, F.okX S (fun vs H Q E h => (ar.ar vs H Q E h).trans hl.symm) (hbody f), hm, F.kp, b⟩
end
section
variable {K : PySem.W.Frag} {H H' : Hp}
def BadB (K : PySem.W.Frag) (H : Hp) (n : Nat) (x : V) : Prop := (∃ i : Int, x = .int i) ∨ ∃ (p : Addr) (xs : List V), x = .ref p ∧ SqT K H p xs ∧ xs.all ofBits = true ∧ xs.length ≤ 10000 ∧ (decide (xs.length = n) && xs.all isBit) = false
def GoodB (K : PySem.W.Frag) (H : Hp) (n : Nat) (x : V) : Prop := ∃ (p : Addr) (bs : List Bool), x = .ref p ∧ SqT K H p (bs.map bt) ∧ bs.length = n
/-- what is no pair for sizes n, m -/
def BadP (K : PySem.W.Frag) (H : Hp) (n m : Nat) (v : V) : Prop := (∃ i : Int, v = .int i) ∨ (∃ (p : Addr) (xs : List V), v = .ref p ∧ SqT K H p xs ∧ xs.length ≠ 2) ∨
  ∃ (p : Addr) (x y : V), v = .ref p ∧ SqT K H p [x, y] ∧ (BadB K H n x ∨ (GoodB K H n x ∧ BadB K H m y))
theorem BadB.keep {n : Nat} {x : V} {Mm : Addr → Prop} (h : BadB K H n x) (k : Kp Mm H H') (nt : NoTup Mm H) : BadB K H' n x := by
  rcases h with z | ⟨p, xs, a, b, c⟩
  · exact .inl z
  · exact .inr ⟨p, xs, a, Kp.sqt k nt b, c⟩
theorem BadB.keep0 {n : Nat} {x : V} (h : BadB K H n x) (k : Kp No H H') : BadB K H' n x := h.keep k .no
theorem BadP.keep {n m : Nat} {x : V} {Mm : Addr → Prop} (h : BadP K H n m x) (k : Kp Mm H H') (nt : NoTup Mm H) : BadP K H' n m x := by
  rcases h with z | ⟨p, xs, a, b, c⟩ | ⟨p, x, y, a, b, c⟩
  · exact .inl z
  · exact .inr (.inl ⟨p, xs, a, Kp.sqt k nt b, c⟩)
  · refine .inr (.inr ⟨p, x, y, a, Kp.sqt k nt b, ?_⟩)
    rcases c with c | ⟨⟨p2, bs, a2, b2, c2⟩, c⟩
    · exact .inl (c.keep k nt)
    · exact .inr ⟨⟨p2, bs, a2, Kp.sqt k nt b2, c2⟩, c.keep k nt⟩
theorem BadP.keep0 {n m : Nat} {x : V} (h : BadP K H n m x) (k : Kp No H H') : BadP K H' n m x := h.keep k .no
end
section
variable {P : Program} {w : World} {K : PySem.W.Frag} {mg : Str → Option Value} {base : Heap} {d : Ads} {C : Addr} {S : Nat → Prop}
def pNeedBad (K : PySem.W.Frag) (BP : Addr) : V → V → V → Hp → VK → XK → Prop := fun x y z H _ E => ∃ (a1 a2 : NAd) (N M : Net) (b : Addr) (ads : List Addr) (us : List Two) (bad : V) (rest : List V), x = .ref a1.p ∧ y = .ref a2.p ∧ z = .ref b ∧ NetAt K H a1 N ∧ NetAt K H a2 M ∧ N.cells.length ≤ 3000 ∧ M.cells.length ≤ 3000 ∧
  H b = some (.lst (ads.map V.ref ++ bad :: rest)) ∧ PsAt K H ads us ∧ (∀ u ∈ us, Sized N M u) ∧ BadP K H (laters N.cells).length (laters M.cells).length bad ∧ ∀ H', Kp No H H' → E (.ref BP) none H'
theorem ok_need_bad (G : Txt K w mg d) {x : XAds} (TX : XTxt K mg x) (D : Df K mg "need_pairs" s_need_pairs ["one", "other", "pairs"]) (c_memories : Cal P w K mg base CX0 1 "memories" (sp1 (pMemories K))) (c_are_bits : Cal P w K mg base CX0 1 "are_bits" (sp2 (pAreBits K))) :
    Cal P w K mg base (L2.CX P w) 2 "need_pairs" (sp3 (pNeedBad K x.BP)) := by
  refine calX D sc_need_pairs rfl fun f cdv A outer s H vs Q E hr h => ?_
  obtain ⟨_, _, _, rfl, a1, a2, N, M, b, ads, us, bad, rest, rfl, rfl, rfl, hN, hM, f1, f2, hb, hp, hs, hbad, q⟩ := h
  refine ⟨_, (pss_cons (ps_set (i := 3) sc_need_pairs.nd rfl (Or.inl rfl) (pe_tup (pa_cons (pe_callB (lenS K) (by rfl) G.n_len (by decide +kernel) (pa_cons (pe_c c_memories hr (by first | decide | omega) (by rfl) pass0 (pa_cons (pv 0) pa_nil)) pa_nil)) (pa_cons (pe_callB (lenS K) (by rfl) G.n_len (by decide +kernel) (pa_cons (pe_c c_memories hr (by first | decide | omega) (by rfl) pass0 (pa_cons (pv 1) pa_nil)) pa_nil)) pa_nil))))
    (pss_one (ps_for (passes_of rfl) rfl (piL K (pv 2)) (pg_name (i := 4) sc_need_pairs.nd rfl (Or.inl rfl))
      (pss_cons (ps_set (i := 5) sc_need_pairs.nd rfl (Or.inl rfl) (pe_and (pe_callB (isi1 K) (by rfl) G.n_isinstance (by decide +kernel) (pa_cons (pv 4) (pa_cons (pe_bltn (v := .ty "tuple") (by rfl) G.n_tuple (by decide +kernel) rfl) pa_nil))) (pe_one (pe_cmpR op_eq (pe_callB (lenS K) (by rfl) G.n_len (by decide +kernel) (pa_cons (pv 4) pa_nil)) pe_int (nomark _)))))
      (pss_one (ps_if (PW.pt (pw_or (pt_not (pt_val (pv 5))) (pw_or (pt_not (pt_val (pe_c c_are_bits hr (by first | decide | omega) (by rfl) pass0 (pa_cons (pe_ix (ixT K) (pv 4) pe_int (fun _ _ => rfl)) (pa_cons (pe_ix (ixT K) (pv 3) pe_int (fun _ _ => rfl)) pa_nil))))) (pw_or1 (pt_not (pt_val (pe_c c_are_bits hr (by first | decide | omega) (by rfl) pass0 (pa_cons (pe_ix (ixT K) (pv 4) pe_int (fun _ _ => rfl)) (pa_cons (pe_ix (ixT K) (pv 3) pe_int (fun _ _ => rfl)) pa_nil)))))))))
        (pss_one (ps_raise rfl (takes_of rfl rfl rfl rfl) (pmk_own PySem.F.excBase_ValueError TX.xP TX.gP TX.kP (raises_own TX.bP TX.tP) rfl)))
        pss_nil)))))), ?_⟩
  refine B.x_start (σ' := [some (.ref a1.p), some (.ref a2.p), some (.ref b), none, none, none]) rfl ?_
  walk_at "go"
  refine ⟨a1, N, rfl, hN, f1, fun l1 _ H1 g1 k1 => ?_⟩
  have hM1 := hM.keep0 k1
  walk_at "go"
  refine ⟨a2, M, rfl, hM1, f2, fun l2 _ H2 g2 k2 => ?_⟩
  walk_at "go"
  rw [List.length_map, List.length_map]
  intro t ht
  have k3 : Kp No H (upd H2 t (.tup [nt (laters N.cells).length, nt (laters M.cells).length])) := (k1.trans k2).trans (.new ht)
  have ht3 : upd H2 t (.tup [nt (laters N.cells).length, nt (laters M.cells).length]) t = some (.tup [nt (laters N.cells).length, nt (laters M.cells).length]) := upd_same
  generalize upd H2 t (.tup [nt (laters N.cells).length, nt (laters M.cells).length]) = H3 at *
  have hb3 := k3.at0 hb
  have hp3 := hp.keep0 k3
  have hbad3 := hbad.keep0 k3
  have lN : (laters N.cells).length ≤ 3000 := Nat.le_trans (latersTo_len _ _) f1
  have lM : (laters M.cells).length ≤ 3000 := Nat.le_trans (latersTo_len _ _) f2
  have z0 : atI [nt (laters N.cells).length, nt (laters M.cells).length] 0 = some (nt (laters N.cells).length) := rfl
  have z1 : atI [nt (laters N.cells).length, nt (laters M.cells).length] 1 = some (nt (laters M.cells).length) := rfl
  have hlen := hp.len
  walk_at "go"
  refine fr_l (ads.map V.ref ++ bad :: rest) (fun i σ H' => i ≤ us.length ∧ ∃ (o4 o5 : Option V), σ = [some (.ref a1.p), some (.ref a2.p), some (.ref b), some (.ref t), o4, o5] ∧ Kp No H3 H') ⟨Nat.zero_le _, _, _, rfl, .refl _⟩ (fun i σ H' _ z => ?_) ?_ ?_
  · obtain ⟨_, o4, o5, rfl, k4⟩ := z
    exact SqL.of (k4.at0 hb3)
  · rintro i y σ H4 hy ⟨hi, o4, o5, rfl, k4⟩
    have ht4 := k4.at0 ht3
    rcases Nat.lt_or_ge i us.length with hlt | hge
    · rw [List.getElem?_append_left (by rw [List.length_map, hlen]; exact hlt), List.getElem?_map, Option.map_eq_some_iff] at hy
      obtain ⟨ad, had, rfl⟩ := hy
      obtain ⟨u, hu⟩ : ∃ u, us[i]? = some u := ⟨us[i], List.getElem?_eq_getElem hlt⟩
      have hsz := hs u (List.mem_of_getElem? hu)
      obtain ⟨p1, p2, q1, q2, q3⟩ := (hp3.row i ad u had hu).keep0 k4
      walk_at "go"
      refine ⟨(laters N.cells).length, rfl, .inl ⟨p1, u.1.map bt, rfl, q2, ofBits_bt _, by rw [List.length_map, hsz.1]; omega, fun H5 k5 => ?_⟩⟩
      rw [isBit_bt, Bool.and_true, List.length_map, hsz.1, decide_eq_true rfl]
      have q15 := Kp.sqt k5 .no q1
      have q35 := Kp.sqt k5 .no q3
      have ht5 := k5.at0 ht4
      walk_at "go"
      refine ⟨(laters M.cells).length, rfl, .inl ⟨p2, u.2.map bt, rfl, q35, ofBits_bt _, by rw [List.length_map, hsz.2]; omega, fun H6 k6 => ?_⟩⟩
      rw [isBit_bt, Bool.and_true, List.length_map, hsz.2, decide_eq_true rfl]
      walk_at "go"
      exact ⟨hlt, _, _, rfl, k4.trans (k5.trans k6)⟩
    · obtain rfl : i = us.length := by omega
      rw [List.getElem?_append_right (by rw [List.length_map, hlen]; exact Nat.le_refl _), List.length_map, hlen, Nat.sub_self] at hy
      cases hy
      have k04 := k3.trans k4
      rcases hbad3.keep0 k4 with ⟨j, rfl⟩ | ⟨p, xs, rfl, hx, hne⟩ | ⟨p, x0, y0, rfl, hx, hc⟩
      · walk_at "go"
        exact q _ k04
      · walk_at "go"
        have hd : (decide (V.int (xs.length : Int) = V.int 2)) = false := decide_eq_false fun z => hne (by injection z with z; omega)
        rw [hd]
        walk_at "go"
        exact q _ k04
      · walk_at "go"
        rcases hc with hc | ⟨⟨p2, bs, rfl, h2, hbl⟩, hc⟩
        · rcases hc with ⟨j, rfl⟩ | ⟨p2, xs, rfl, h2, h3, h4, h5⟩
          · refine ⟨(laters N.cells).length, rfl, .inr ⟨j, rfl, ?_⟩⟩
            walk_at "go"
            exact q _ k04
          · refine ⟨(laters N.cells).length, rfl, .inl ⟨p2, xs, rfl, h2, h3, h4, fun H5 k5 => ?_⟩⟩
            rw [h5]
            walk_at "go"
            exact q _ (k04.trans k5)
        · refine ⟨(laters N.cells).length, rfl, .inl ⟨p2, bs.map bt, rfl, h2, ofBits_bt _, by rw [List.length_map, hbl]; omega, fun H5 k5 => ?_⟩⟩
          rw [isBit_bt, Bool.and_true, List.length_map, hbl, decide_eq_true rfl]
          have hx5 := Kp.sqt k5 .no hx
          have ht5 := k5.at0 ht4
          have hc5 := hc.keep0 k5
          walk_at "go"
          rcases hc5 with ⟨j, rfl⟩ | ⟨p3, xs, rfl, h2, h3, h4, h5⟩
          · refine ⟨(laters M.cells).length, rfl, .inr ⟨j, rfl, ?_⟩⟩
            walk_at "go"
            exact q _ (k04.trans k5)
          · refine ⟨(laters M.cells).length, rfl, .inl ⟨p3, xs, rfl, h2, h3, h4, fun H6 k6 => ?_⟩⟩
            rw [h5]
            walk_at "go"
            exact q _ (k04.trans (k5.trans k6))
  · rintro σ H4 ⟨hi, _⟩
    rw [List.length_append, List.length_map, hlen, List.length_cons] at hi
    omega
def pShowsBad (S : Nat → Prop) (K : PySem.W.Frag) (BP : Addr) : V → V → V → Hp → VK → XK → Prop := fun x y z H _ E => ∃ (a1 a2 : NAd) (N M : Net) (b : Addr) (ads : List Addr) (us : List Two) (bad : V) (rest : List V), x = .ref a1.p ∧ y = .ref a2.p ∧ z = .ref b ∧ NetAt K H a1 N ∧ NetAt K H a2 M ∧ NetOk S N ∧ NetOk S M ∧ N.cells.length ≤ 1900 ∧ M.cells.length ≤ 1900 ∧
  H b = some (.lst (ads.map V.ref ++ bad :: rest)) ∧ PsAt K H ads us ∧ (∀ u ∈ us, Sized N M u) ∧ BadP K H (laters N.cells).length (laters M.cells).length bad ∧ ∀ H', Kp No H H' → E (.ref BP) none H'
theorem ok_shows_bad (G : Txt K w mg d) (T : PTxt K C) {x : XAds} (TX : XTxt K mg x) (D : Df K mg "shows" s_shows ["one", "other", "pairs"]) (c_need_net : Cal P w K mg base CX0 3 "need_net" (U fun S => sp1 (pNeedNet S K))) (c_need_pairs : Cal P w K mg base (L2.CX P w) 2 "need_pairs" (sp3 (pNeedBad K x.BP)))
    (c_Pairs_init : Mak P w K mg base CX0 2 "Pairs" C (sp3 (pPInit K C))) (c_Pairs_letters : Met P w K mg base CX0 1 C "letters" (sp1 (pLetters K C))) (c_Pairs_step : Met P w K mg base CX0 4 C "step" (U fun S => sp3 (pStep S K C))) : Cal P w K mg base (L2.CX P w) 5 "shows" (U fun S => sp3 (pShowsBad S K x.BP)) := by
  refine calX D sc_shows rfl fun f cdv A outer s H vs Q E hr h => ?_
  obtain ⟨S, h⟩ := h
  replace c_need_net := c_need_net.at S
  replace c_Pairs_step := c_Pairs_step.at S
  obtain ⟨_, _, _, rfl, a1, a2, N, M, b, ads, us, bad, rest, rfl, rfl, rfl, hN, hM, okN, okM, l1, l2, hb, hp, hs, hbad, q⟩ := h
  refine ⟨_, (pss_cons (ps_expr (pe_c c_need_net hr (by first | decide | omega) (by rfl) pass0 (pa_cons (pv 0) pa_nil)))
    (pss_cons (ps_expr (pe_c c_need_net hr (by first | decide | omega) (by rfl) pass0 (pa_cons (pv 1) pa_nil)))
    (pss_cons (ps_expr (pe_c c_need_pairs hr (by first | decide | omega) (by rfl) (passes_call (takes_of rfl rfl rfl rfl) (fun _ _ _ _ h => h)) (pa_cons (pv 0) (pa_cons (pv 1) (pa_cons (pv 2) pa_nil)))))
    (pss_cons (ps_set (i := 3) sc_shows.nd rfl (Or.inl rfl) (pe_mk c_Pairs_init hr (by first | decide | omega) (by rfl) pass0 (pa_cons (pv 0) (pa_cons (pv 1) pa_nil))))
    (pss_cons (ps_set (i := 4) sc_shows.nd rfl (Or.inl rfl) (pe_callTy (N7.dictN K w rfl hr.units) (by rfl) G.n_dict (by decide +kernel) (pa_cons (pe_lc (own := [("pair", 5)]) (g := gName 5) (tt := tYes) rfl sc_shows.nd (piL K (pv 2)) (blkOk_by (own := [("pair", 5)]) (N := N_shows) (sc := defScope s_shows) (by decide +kernel)) (fun _ _ _ _ _ => (pg_name (i := 5) sc_shows.nd rfl (Or.inl rfl))) (fun _ _ _ _ _ => pts_nil) (fun _ _ _ _ _ => (pe_tup (pa_cons (pv 5) (pa_cons pe_bl pa_nil))))) pa_nil)))
    (pss_cons (ps_set (i := 6) sc_shows.nd rfl (Or.inl rfl) (pe_mt0 c_Pairs_letters hr (by decide) pass0 (pv 3)))
    (pss_cons (ps_for (passes_of rfl) rfl (piL K (pe_op op_cat (pe_lst (pa_cons pe_non pa_nil)) (pe_callTy (listOf K) (by rfl) G.n_list (by decide +kernel) (pa_cons (pv 2) pa_nil)))) (pg_name (i := 5) sc_shows.nd rfl (Or.inl rfl))
      (pss_one (ps_for (passes_of rfl) rfl (piL K (pv 6)) (pg_name (i := 7) sc_shows.nd rfl (Or.inl rfl))
        (pss_cons (ps_asg (pe_mt c_Pairs_step hr (by decide) pass0 (pv 3) (pa_cons (pv 5) (pa_cons (pv 7) pa_nil))) (pgT (n := 2) K (by rfl) (pgs_cons (pg_name (i := 8) sc_shows.nd rfl (Or.inl rfl)) (pgs_cons (pg_name (i := 9) sc_shows.nd rfl (Or.inl rfl)) pgs_nil))))
        (pss_one (ps_if (PW.pt (pw_or (pt_not (pt_val (pv 8))) (pw_or1 (pt_cmpR (N7.ninN K w hr.units) (pv 9) (pv 4) (by rfl)))))
          (pss_one (ps_ret pe_bl))
          pss_nil))))))
    (pss_one (ps_ret pe_bl))))))))), ?_⟩
  refine B.x_start (σ' := [some (.ref a1.p), some (.ref a2.p), some (.ref b), none, none, none, none, none, none, none]) rfl ?_
  walk_at "go"
  refine ⟨a1, N, rfl, hN, okN, fun H1 k1 => ?_⟩
  have hM1 := hM.keep0 k1
  walk_at "go"
  refine ⟨a2, M, rfl, hM1, okM, fun H2 k2 => ?_⟩
  have k02 := k1.trans k2
  walk_at "go"
  exact ⟨a1, a2, N, M, b, ads, us, bad, rest, rfl, rfl, rfl, hN.keep0 k02, hM.keep0 k02, by omega, by omega, k02.at0 hb, hp.keep0 k02, hs, hbad.keep0 k02, fun H' k => q H' (k02.trans k)⟩
end
end K7
namespace K7
open PySem PySem.Spec PyProof.Rows L2 B N7
theorem pgL {X : Cx} (K : PySem.W.Frag) {es : List Expr} {k : Nat} {t : TGs} {n : Nat} {pos : Pos} (hc : X.calm = true) (h : PGs X es t)
    (hn : (assignEach es X.env).length = n := by rfl) (hst : (assignEach es X.env).findIdx? (·.1) = none := by rfl) (hK : X.K = K := by rfl) : PG X (.Tuple es k pos) (gLst K n t) := hK ▸ pg_lst hc h hn hst
theorem x_isBl {H : Hp} {Q : VK} {a b : Bool} (k : Q (.bl (decide (a = b))) H) : rIsB (.bl a) (.bl b) H Q := ⟨a, b, rfl, rfl, k⟩
theorem x_glst {K : PySem.W.Frag} {H : Hp} {σ : L2.St} {n : Nat} {t : TGs} {a : Addr} {xs : List V} {Q : L2.St → Hp → Prop} (h : SqL K H a xs) (hl : xs.length = n) (k : t xs σ H Q) : gLst K n t (.ref a) σ H Q := ⟨a, xs, rfl, h, hl, k⟩
/-! ### two nets told apart by one memory -/
def apN (c : Nat) : Net := ⟨[.none, .later 0, .later 0], [(0, c)], []⟩
def apS : Nat → Prop := fun r => r = 0
theorem ap_few : FewS apS := ⟨[0], by decide, fun r _ h => by rw [h]; decide⟩
theorem ap_ok {c : Nat} (h : c < 3) : NetOk apS (apN c) := by
  refine ⟨(by decide : 3 ≤ 3000), fun i x hx => ?_, ⟨(by simp : ([0] : List Nat).Pairwise (· < ·)), fun p hp => ?_⟩, ⟨List.Pairwise.nil, fun p hp => by cases hp⟩⟩
  · match i, hx with
    | 0, hx => cases hx; trivial
    | 1, hx => cases hx; exact (by decide : 0 < 3)
    | 2, hx => cases hx; exact (by decide : 0 < 3)
  · rw [show p = (0, c) from List.mem_singleton.mp hp]
    exact ⟨⟨(by decide : 0 < 8), rfl⟩, h⟩
def ap0 : Two := ([false, false], [false, false])
def ap1 : Two := ([true, false], [true, false])
theorem ap_bits {bits : List Bool} {c c' : Nat} (h : IsLetN (apN c) (apN c') bits) : ∃ b, bits = [b, false, false, false, false, false, false, false] := by
  obtain ⟨h8, h⟩ := h
  match bits, h8 with
  | [b0, b1, b2, b3, b4, b5, b6, b7], _ =>
    have q : ∀ r, r < 8 → r ≠ 0 → [b0, b1, b2, b3, b4, b5, b6, b7][r]? = some false := fun r hr hn => h r hr (fun z => hn (by simpa [usedN, apN, Cell.bitOf] using z)) fun z => hn (by simpa [usedN, apN, Cell.bitOf] using z)
    have e1 := Option.some.inj (q 1 (by decide) (by decide))
    have e2 := Option.some.inj (q 2 (by decide) (by decide))
    have e3 := Option.some.inj (q 3 (by decide) (by decide))
    have e4 := Option.some.inj (q 4 (by decide) (by decide))
    have e5 := Option.some.inj (q 5 (by decide) (by decide))
    have e6 := Option.some.inj (q 6 (by decide) (by decide))
    have e7 := Option.some.inj (q 7 (by decide) (by decide))
    subst e1 e2 e3 e4 e5 e6 e7
    exact ⟨b0, rfl⟩
theorem ap_shown1 : Shown (apN 1) (apN 2) [ap0] := by
  intro u hu bits hb
  obtain ⟨b, rfl⟩ := ap_bits hb
  simp only [List.map_cons, List.map_nil, List.mem_cons, List.not_mem_nil, or_false] at hu
  rcases hu with rfl | rfl <;> cases b <;> decide +kernel
theorem ap_shown2 : ¬ Shown (apN 1) (apN 2) [ap0, ap1] := by
  intro h
  have z := (h (some ap1) (by simp) [false, false, false, false, false, false, false, false] ⟨rfl, fun r hr _ _ => by
    match r, hr with
    | 0, _ => rfl
    | 1, _ => rfl
    | 2, _ => rfl
    | 3, _ => rfl
    | 4, _ => rfl
    | 5, _ => rfl
    | 6, _ => rfl
    | 7, _ => rfl⟩).1
  exact absurd z (by decide +kernel)
theorem ap_shown3 : Shown (apN 1) (apN 1) [ap0, ap1] := by
  intro u hu bits hb
  obtain ⟨b, rfl⟩ := ap_bits hb
  simp only [List.map_cons, List.map_nil, List.mem_cons, List.not_mem_nil, or_false] at hu
  rcases hu with rfl | rfl | rfl <;> cases b <;> decide +kernel
section
variable {P : Program} {w : World} {K : PySem.W.Frag} {mg : Str → Option Value} {base : Heap} {d : Ads} {C : Addr} {S : Nat → Prop}
def pApart : Hp → VK → XK → Prop := fun H Q _ => ∀ H', Kp No H H' → Q (.bl true) H'
theorem ok_apart (G : Txt K w mg d) (D : Df K mg "_law_are_apart" s_law_are_apart []) (c_shows : Cal P w K mg base CX0 5 "shows" (U fun S => sp3 (pShows S K))) : Cal P w K mg base CX0 6 "_law_are_apart" (sp0 pApart) := by
  refine cal0 D sc_law_are_apart rfl fun f cdv A outer s H vs Q E hr h => ?_
  obtain ⟨rfl, q⟩ := h
  replace c_shows := c_shows.at apS
  refine ⟨_, (pss_cons (ps_asg (pe_lc (own := [("_law_cell", 2)]) (g := gName 2) (tt := tYes) rfl sc_law_are_apart.nd (piT K (pe_tup (pa_cons pe_int (pa_cons pe_int pa_nil)))) (blkOk_by (own := [("_law_cell", 2)]) (N := N_law_are_apart) (sc := defScope s_law_are_apart) (by decide +kernel)) (fun _ _ _ _ _ => (pg_name (i := 2) sc_law_are_apart.nd rfl (Or.inl rfl))) (fun _ _ _ _ _ => pts_nil) (fun _ _ _ _ _ => (pe_tup (pa_cons (pe_tup (pa_cons (pe_tup (pa_cons pe_str pa_nil)) (pa_cons (pe_tup (pa_cons pe_str (pa_cons pe_int pa_nil))) (pa_cons (pe_tup (pa_cons pe_str (pa_cons pe_int pa_nil))) pa_nil)))) (pa_cons (N7.pe_tupF (pa_cons (pe_tup (pa_cons pe_int (pa_cons (pv 2) pa_nil))) pa_nil)) (pa_cons (N7.pe_tupF pa_nil) pa_nil)))))) (pgL (n := 2) K (by rfl) (pgs_cons (pg_name (i := 0) sc_law_are_apart.nd rfl (Or.inl rfl)) (pgs_cons (pg_name (i := 1) sc_law_are_apart.nd rfl (Or.inl rfl)) pgs_nil))))
    (pss_cons (ps_set (i := 3) sc_law_are_apart.nd rfl (Or.inl rfl) (pe_lst (pa_cons (pe_tup (pa_cons (pe_tup (pa_cons pe_int (pa_cons pe_int pa_nil))) (pa_cons (pe_tup (pa_cons pe_int (pa_cons pe_int pa_nil))) pa_nil))) (pa_cons (pe_tup (pa_cons (pe_tup (pa_cons pe_int (pa_cons pe_int pa_nil))) (pa_cons (pe_tup (pa_cons pe_int (pa_cons pe_int pa_nil))) pa_nil))) pa_nil))))
    (pss_one (ps_ret (pe_and (pe_cmpR op_isBl (pe_c c_shows hr (by first | decide | omega) (by rfl) pass0 (pa_cons (pv 0) (pa_cons (pv 1) (pa_cons (pe_slice (slL K) (pv 3) po_none (po_some pe_int)) pa_nil)))) pe_bl (nomark _)) (pe_and (pe_cmpR op_isBl (pe_c c_shows hr (by first | decide | omega) (by rfl) pass0 (pa_cons (pv 0) (pa_cons (pv 1) (pa_cons (pv 3) pa_nil)))) pe_bl (nomark _)) (pe_one (pe_cmpR op_isBl (pe_c c_shows hr (by first | decide | omega) (by rfl) pass0 (pa_cons (pv 0) (pa_cons (pv 0) (pa_cons (pv 3) pa_nil)))) pe_bl (nomark _))))))))), ?_⟩
  refine B.x_start (σ' := [none, none, none, none]) rfl ?_
  walk_at "go"
  intro tp htp
  have k1 : Kp No H (upd H tp (.tup [.int 1, .int 2])) := .new htp
  have htp1 : upd H tp (.tup [.int 1, .int 2]) tp = some (.tup [.int 1, .int 2]) := upd_same
  generalize upd H tp (.tup [.int 1, .int 2]) = H1 at *
  walk_at "go"
  refine lc_t [.int 1, .int 2] (fun D i H' => Kp No H1 H' ∧ ∃ nets : List NAd, H' D = some (.lst (nets.map fun a => V.ref a.p)) ∧ nets.length = i ∧ ∀ (j : Nat) (a : NAd), nets[j]? = some a → NetAt K H' a (apN (j + 1))) (fun D hD => ⟨.new hD, [], upd_same, rfl, fun j a h => by simp at h⟩) (fun D i H' _ z => SqT.of (z.1.at0 htp1)) ?_ ?_
  · rintro D i y H2 hD hy ⟨k2, nets, g1, g2, g3⟩
    obtain ⟨hi, rfl⟩ : i < 2 ∧ y = nt (i + 1) := by
      match i, hy with
      | 0, hy => cases hy; exact ⟨by decide, rfl⟩
      | 1, hy => cases hy; exact ⟨by decide, rfl⟩
    walk_at "go"
    refine ⟨rfl, ?_⟩
    walk_at "go"
    intro a1 ha1
    walk_at "go"
    intro a2 ha2
    walk_at "go"
    intro a3 ha3
    walk_at "go"
    intro pc hpc
    have k3 : Kp No H2 (upd (upd (upd (upd H2 a1 (.tup [.str "none"])) a2 (.tup [.str "later", .int 0])) a3 (.tup [.str "later", .int 0])) pc (.tup [.ref a1, .ref a2, .ref a3])) := by walk_at "kp"
    have c1 : upd (upd (upd (upd H2 a1 (.tup [.str "none"])) a2 (.tup [.str "later", .int 0])) a3 (.tup [.str "later", .int 0])) pc (.tup [.ref a1, .ref a2, .ref a3]) a1 = some (.tup [.str "none"]) := by walk_at "hp"
    have c2 : upd (upd (upd (upd H2 a1 (.tup [.str "none"])) a2 (.tup [.str "later", .int 0])) a3 (.tup [.str "later", .int 0])) pc (.tup [.ref a1, .ref a2, .ref a3]) a2 = some (.tup [.str "later", .int 0]) := by walk_at "hp"
    have c3 : upd (upd (upd (upd H2 a1 (.tup [.str "none"])) a2 (.tup [.str "later", .int 0])) a3 (.tup [.str "later", .int 0])) pc (.tup [.ref a1, .ref a2, .ref a3]) a3 = some (.tup [.str "later", .int 0]) := by walk_at "hp"
    have c4 : upd (upd (upd (upd H2 a1 (.tup [.str "none"])) a2 (.tup [.str "later", .int 0])) a3 (.tup [.str "later", .int 0])) pc (.tup [.ref a1, .ref a2, .ref a3]) pc = some (.tup [.ref a1, .ref a2, .ref a3]) := upd_same
    generalize upd (upd (upd (upd H2 a1 (.tup [.str "none"])) a2 (.tup [.str "later", .int 0])) a3 (.tup [.str "later", .int 0])) pc (.tup [.ref a1, .ref a2, .ref a3]) = H3 at *
    walk_at "go"
    intro pr hpr
    walk_at "go"
    intro pl o1 hpl ho1
    have k4 : Kp No H3 (upd (upd H3 pr (.tup [.int 0, nt (i + 1)])) pl (.frz o1 (.tup [.ref pr]))) := (Kp.new hpr).trans (.new hpl)
    have c5 : upd (upd H3 pr (.tup [.int 0, nt (i + 1)])) pl (.frz o1 (.tup [.ref pr])) pr = some (.tup [nt 0, nt (i + 1)]) := by
      rw [upd_ne (ne_of_none (show upd H3 pr (.tup [.int 0, nt (i + 1)]) pr = some _ from upd_same) hpl), upd_same]
      rfl
    have c6 : FT (upd (upd H3 pr (.tup [.int 0, nt (i + 1)])) pl (.frz o1 (.tup [.ref pr]))) pl ([pr].map V.ref) := ⟨o1, ho1, upd_same⟩
    generalize upd (upd H3 pr (.tup [.int 0, nt (i + 1)])) pl (.frz o1 (.tup [.ref pr])) = H4 at *
    walk_at "go"
    intro pf o2 hpf ho2
    have k5 : Kp No H4 (upd H4 pf (.frz o2 (.tup []))) := .new hpf
    have c7 : FT (upd H4 pf (.frz o2 (.tup []))) pf (([] : List Addr).map V.ref) := ⟨o2, ho2, upd_same⟩
    have c65 := FT.keep c6 k5 fun z => z
    generalize upd H4 pf (.frz o2 (.tup [])) = H5 at *
    walk_at "go"
    intro pp hpp
    have k6 : Kp No H5 (upd H5 pp (.tup [.ref pc, .ref pl, .ref pf])) := .new hpp
    have k36 := k4.trans (k5.trans k6)
    have k26 := k3.trans k36
    have hnet : NetAt K (upd H5 pp (.tup [.ref pc, .ref pl, .ref pf])) ⟨pp, pc, pl, pf, [a1, a2, a3], [pr], []⟩ (apN (i + 1)) := by
      refine ⟨upd_same, SqT.of (k36.at0 c4), FT.keep c65 k6 fun z => z, FT.keep c7 k6 fun z => z, ⟨rfl, fun j ad c h1 h2 => ?_⟩, ⟨rfl, fun j ad p h1 h2 => ?_⟩, ⟨rfl, fun j ad p h1 h2 => by simp at h1⟩⟩
      · match j, h1, h2 with
        | 0, h1, h2 => cases h1; cases h2; exact k36.at0 c1
        | 1, h1, h2 => cases h1; cases h2; exact k36.at0 c2
        | 2, h1, h2 => cases h1; cases h2; exact k36.at0 c3
      · match j, h1, h2 with
        | 0, h1, h2 => cases h1; cases h2; exact (k5.trans k6).at0 c5
    generalize upd H5 pp (.tup [.ref pc, .ref pl, .ref pf]) = H6 at *
    have g16 := k26.at0 g1
    have kD : Kp (fun z => z = D) H6 (upd H6 D (.lst ((nets.map fun a => V.ref a.p) ++ [.ref pp]))) := .set rfl
    refine ⟨_, g16, by rw [List.length_map, sizeLine_eq]; omega, (k2.trans k26).old hD, nets ++ [⟨pp, pc, pl, pf, [a1, a2, a3], [pr], []⟩], by rw [upd_same, List.map_append]; rfl, by simp [g2], fun j a h1 => ?_⟩
    rcases Nat.lt_trichotomy j i with z | z | z
    · rw [List.getElem?_append_left (by omega)] at h1
      exact ((g3 j a h1).keep0 k26).keep kD (noTup_lst g16)
    · subst z
      rw [List.getElem?_append_right (by omega), g2, Nat.sub_self] at h1
      cases h1
      exact hnet.keep kD (noTup_lst g16)
    · rw [List.getElem?_eq_none (by simp; omega)] at h1
      cases h1
  · rintro D H2 hD ⟨k2, nets, g1, g2, g3⟩
    obtain ⟨b1, b2, rfl⟩ : ∃ b1 b2, nets = [b1, b2] := by
      match nets, g2 with
      | [b1, b2], _ => exact ⟨b1, b2, rfl⟩
    have n1 := g3 0 b1 rfl
    have n2 := g3 1 b2 rfl
    have k02 := k1.trans k2
    refine x_glst (SqL.of g1) rfl ?_
    show gCons _ _ [V.ref b1.p, V.ref b2.p] _ _ _
    walk_at "go"
    intro u1 hu1
    walk_at "go"
    intro u2 hu2
    walk_at "go"
    intro u3 hu3
    have k3 : Kp No H2 (upd (upd (upd H2 u1 (.tup [.int 0, .int 0])) u2 (.tup [.int 0, .int 0])) u3 (.tup [.ref u1, .ref u2])) := by walk_at "kp"
    have pa0 : PairAt K (upd (upd (upd H2 u1 (.tup [.int 0, .int 0])) u2 (.tup [.int 0, .int 0])) u3 (.tup [.ref u1, .ref u2])) u3 ap0 := ⟨u1, u2, SqT.of upd_same, SqT.of (show _ = some (HO.tup [.int 0, .int 0]) from by walk_at "hp"), SqT.of (show _ = some (HO.tup [.int 0, .int 0]) from by walk_at "hp")⟩
    generalize upd (upd (upd H2 u1 (.tup [.int 0, .int 0])) u2 (.tup [.int 0, .int 0])) u3 (.tup [.ref u1, .ref u2]) = H3 at *
    walk_at "go"
    intro v1 hv1
    walk_at "go"
    intro v2 hv2
    walk_at "go"
    intro v3 hv3
    have k4 : Kp No H3 (upd (upd (upd H3 v1 (.tup [.int 1, .int 0])) v2 (.tup [.int 1, .int 0])) v3 (.tup [.ref v1, .ref v2])) := by walk_at "kp"
    have pa1 : PairAt K (upd (upd (upd H3 v1 (.tup [.int 1, .int 0])) v2 (.tup [.int 1, .int 0])) v3 (.tup [.ref v1, .ref v2])) v3 ap1 := ⟨v1, v2, SqT.of upd_same, SqT.of (show _ = some (HO.tup [.int 1, .int 0]) from by walk_at "hp"), SqT.of (show _ = some (HO.tup [.int 1, .int 0]) from by walk_at "hp")⟩
    generalize upd (upd (upd H3 v1 (.tup [.int 1, .int 0])) v2 (.tup [.int 1, .int 0])) v3 (.tup [.ref v1, .ref v2]) = H4 at *
    have pa04 := pa0.keep0 k4
    walk_at "go"
    intro pl hpl
    have k5 : Kp No H4 (upd H4 pl (.lst [.ref u3, .ref v3])) := .new hpl
    have hpl5 : upd H4 pl (.lst [.ref u3, .ref v3]) pl = some (.lst [.ref u3, .ref v3]) := upd_same
    have k25 := k3.trans (k4.trans k5)
    have p05 := pa04.keep0 k5
    have p15 := pa1.keep0 k5
    have n15 := n1.keep0 k25
    have n25 := n2.keep0 k25
    have k05 := k02.trans k25
    generalize upd H4 pl (.lst [.ref u3, .ref v3]) = H5 at *
    walk_at "go"
    intro sl hsl
    have k6 : Kp No H5 (upd H5 sl (.lst (cutV [.ref u3, .ref v3] none (some 1)))) := .new hsl
    have hsl6 : upd H5 sl (.lst (cutV [.ref u3, .ref v3] none (some 1))) sl = some (.lst ([u3].map V.ref)) := upd_same
    have two : ∀ {H' : Hp}, Kp No H5 H' → PsAt K H' [u3, v3] [ap0, ap1] := fun k => .cons (p05.keep0 k) (.cons (p15.keep0 k) .nil)
    have hsz : ∀ {c c' : Nat}, c = 1 ∨ c = 2 → c' = 1 ∨ c' = 2 → ∀ u ∈ [ap0, ap1], Sized (apN c) (apN c') u := by
      rintro c c' (rfl | rfl) (rfl | rfl) u hu <;> simp only [List.mem_cons, List.not_mem_nil, or_false] at hu <;> rcases hu with rfl | rfl <;> exact ⟨by decide +kernel, by decide +kernel⟩
    generalize upd H5 sl (.lst (cutV [.ref u3, .ref v3] none (some 1))) = H6 at *
    walk_at "go"
    refine ⟨b1, b2, apN 1, apN 2, sl, [u3], [ap0], rfl, rfl, rfl, n15.keep0 k6, n25.keep0 k6, ap_few, ap_ok (by decide), ap_ok (by decide), by decide, by decide, hsl6, .cons (p05.keep0 k6) .nil, by decide, fun u hu => hsz (.inl rfl) (.inr rfl) u (by rw [List.mem_singleton.mp hu]; simp), fun rr H7 hrr k7 => ?_⟩
    obtain rfl : rr = true := hrr.mpr ap_shown1
    have k57 := k6.trans k7
    walk_at "go"
    refine x_isBl ?_
    walk_at "go"
    refine ⟨b1, b2, apN 1, apN 2, pl, [u3, v3], [ap0, ap1], rfl, rfl, rfl, n15.keep0 k57, n25.keep0 k57, ap_few, ap_ok (by decide), ap_ok (by decide), by decide, by decide, k57.at0 hpl5, two k57, by decide, hsz (.inl rfl) (.inr rfl), fun rr H8 hrr k8 => ?_⟩
    obtain rfl : rr = false := by
      cases rr with
      | false => rfl
      | true => exact absurd (hrr.mp rfl) ap_shown2
    have k58 := k57.trans k8
    walk_at "go"
    refine x_isBl ?_
    walk_at "go"
    refine ⟨b1, b1, apN 1, apN 1, pl, [u3, v3], [ap0, ap1], rfl, rfl, rfl, n15.keep0 k58, n15.keep0 k58, ap_few, ap_ok (by decide), ap_ok (by decide), by decide, by decide, k58.at0 hpl5, two k58, by decide, hsz (.inl rfl) (.inl rfl), fun rr H9 hrr k9 => ?_⟩
    obtain rfl : rr = true := hrr.mpr ap_shown3
    walk_at "go"
    refine x_isBl ?_
    walk_at "go"
    exact q H9 (k05.trans (k58.trans k9))
end
end K7
namespace K7
open PySem PySem.Spec PyProof.Rows L2 B N7
section
variable {X : Cx}
/-- xs.count(k) of bools -/
def rCntB (K : PySem.W.Frag) : V → List V → Hp → VK → Prop := fun x vs H Q => ∃ (p : Addr) (bs : List Bool) (k : Bool), x = .ref p ∧ vs = [.bl k] ∧ SqL K H p (bs.map V.bl) ∧ Q (.int (countIn (.bool k) (bs.map PyData.bool))) H
theorem dp_bools {K : PySem.W.Frag} {H : Hp} : ∀ bs : List Bool, DpAll K H (bs.map V.bl) (bs.map PyData.bool)
  | [] => .nil
  | b :: bs => .cons (.bl b) (dp_bools bs)
theorem mt_lcountB : MtR X "list.count" (rCntB X.K) := by
  intro pins s σ H x xs v us Q I rx rxs h
  obtain ⟨p, bs, k, rfl, rfl, hs, q⟩ := h
  cases rx
  obtain ⟨u, rfl, ru⟩ := rxs.one
  cases ru
  obtain ⟨its, rv, pl, hlen⟩ := I.list hs
  obtain ⟨as, hr⟩ := Dp.readsAll I _ _ its (dp_bools bs) rv
  refine count_list_bools pl.isList hr (List.all_eq_true.mpr fun d hd => ?_) ⟨.int _, H, I.tok _, ⟨_, rfl⟩, q⟩
  obtain ⟨b, _, rfl⟩ := List.mem_map.mp hd
  rfl
end
theorem x_isE {K : PySem.W.Frag} {D a c : Addr} {b : Bool} {H : Hp} {Q : VK} (e : PySem.W.kitOne K (.ref D) (.ref c) = some b) (k : Q (.bl b) H) : rIsE K D a [.ref a, .ref c] H Q := ⟨.ref c, .ref c, b, rfl, fun u r => (by cases r; rfl), e, k⟩
theorem x_isEt {K : PySem.W.Frag} {D a : Addr} {c : String} {b : Bool} {H : Hp} {Q : VK} (e : PySem.W.kitOne K (.ref D) (.type c) = some b) (k : Q (.bl b) H) : rIsE K D a [.ref a, .ty c] H Q := ⟨.ty c, .type c, b, rfl, fun u r => (by cases r; rfl), e, k⟩
structure YTxt (K : PySem.W.Frag) (mg : Str → Option Value) (x : XAds) : Prop where
  ex : ExcC K x.BP
  gSE : mg "SerialError" = some (.ref x.SE)
  em : PySem.W.exmOne K (.ref x.BP) (.ref x.SE) = some true
  c_BadProgram : ∃ u, mg "BadProgram" = some u ∧ RelV (.ref x.PR) u
  c_BadWidth : ∃ u, mg "BadWidth" = some u ∧ RelV (.ref x.WI) u
  c_BadInput : ∃ u, mg "BadInput" = some u ∧ RelV (.ref x.IN) u
  c_BadNet : ∃ u, mg "BadNet" = some u ∧ RelV (.ref x.NE) u
  c_BadPairs : ∃ u, mg "BadPairs" = some u ∧ RelV (.ref x.BP) u
  c_TooMany : ∃ u, mg "TooMany" = some u ∧ RelV (.ref x.TM) u
  c_BadText : ∃ u, mg "BadText" = some u ∧ RelV (.ref x.TE) u
  n_ValueError : mg "ValueError" = none
  i1 : PySem.W.kitOne K (.ref x.BP) (.ref x.PR) = some false
  i2 : PySem.W.kitOne K (.ref x.BP) (.ref x.WI) = some false
  i3 : PySem.W.kitOne K (.ref x.BP) (.ref x.IN) = some false
  i4 : PySem.W.kitOne K (.ref x.BP) (.ref x.NE) = some false
  i5 : PySem.W.kitOne K (.ref x.BP) (.ref x.BP) = some true
  i6 : PySem.W.kitOne K (.ref x.BP) (.ref x.TM) = some false
  i7 : PySem.W.kitOne K (.ref x.BP) (.ref x.TE) = some false
  i8 : PySem.W.kitOne K (.ref x.BP) (.type "ValueError") = some true
theorem run_of {X : Cx} {st : List Stmt} {pins : List (Addr × Obj)} {s : Shared} {σ : L2.St} {H : Hp} {D : Ends} (I : L2.Inv X pins σ H s) (h : ∃ t, PSs X st t ∧ t D σ H) : wpAny (model X.prog X.w) X.A (execs st X.env) (SP X pins D) X.xe s := by
  obtain ⟨t, h1, h2⟩ := h
  exact h1.run pins s σ H D I h2
/-- what the law's word makes of a call -/
def TWord (BP : Addr) : (XK → Hp → VK → Prop) → Hp → VK → Prop := fun tl H Q =>
  tl (fun cls d H' => cls = .ref BP ∧ d = none ∧ ∀ p H2, Kp No H' H2 → H2 p = some (.tup [.str "pairs", .int 0]) → Q (.ref p) H2) H fun _ H' => Q .non H'
theorem word_gives {X : Cx} {w : World} {d : Ads} {x : XAds} (G : Txt X.K w X.mg d) (TY : YTxt X.K X.mg x) {g : Addr} {cdg : Value} {q : Str} :
    LamX.GivesTo X N_law_word "_law_word" (defScope s_law_word) g cdg (defBody s_law_word) "_law_work" q (TWord x.BP) := by
  intro f c' s H Q tl act hc h
  have hgl : Gl (cxOf C8.CX0 X.prog X.w X.K X.mg X.base N_law_word "_law_word" (defScope s_law_word) g cdg X.A X.stack s H C8.E0).nox "SerialError" := rfl
  refine ⟨_, pss_cons (ps_try_as (X := (cxOf C8.CX0 X.prog X.w X.K X.mg X.base N_law_word "_law_word" (defScope s_law_word) g cdg X.A X.stack s H C8.E0).nox) (i := 1) (c := .ref x.SE)
      (tb := fun W D σ H => ∃ Ech : XK, (∀ cls d σ' H', Ech cls d H' → W cls d σ' H') ∧ σ[0]? = some (some (.ref f)) ∧ H c' = some (LamX.CodeO c' q) ∧ tl Ech H (fun _ H1 => D.nx σ H1))
      (ts := fun a cls d D σ H => cls = .ref x.BP ∧ d = none ∧ (σ.length = 4 → σ[1]? = some (some (.ref a))) ∧ ∀ p H2, Kp No H H2 → H2 p = some (.tup [.str "pairs", .int 0]) → D.rt (.ref p) H2)
      rfl rfl sc_law_word.nd rfl rfl ⟨hgl, by decide, .inl TY.gSE⟩ LamX.takes0 (fun W pn xe tk _ => ?_) (fun a oe cls d pn hz hf => ?_)) (pss_one (ps_ret pe_non)), ?_⟩
  · refine ⟨fun pins s' σ H' D I h' => ?_⟩
    obtain ⟨Ech, hW, h1, h2, h3⟩ := h'
    exact (pss_one (ps_expr (act W pn xe Ech _ _ tk hW))).run pins s' σ H' D I ⟨h1, h2, h3⟩
  · refine ⟨fun pins s' σ H' D I h' => ?_⟩
    obtain ⟨rfl, rfl, h1, h2⟩ := h'
    have hlen : σ.length = 4 := I.len
    replace h1 := h1 hlen
    obtain ⟨v0, v2, v3, rfl⟩ : ∃ v0 v2 v3, σ = [v0, some (.ref a), v2, v3] := by
      match σ, hlen, h1 with
      | [v0, v1, v2, v3], _, h1 => cases h1; exact ⟨_, _, _, rfl⟩
    let K := X.K
    refine run_of I ⟨_, (pss_cons (ps_set (i := 2) sc_law_word.nd rfl (Or.inl rfl) (pe_lst (pa_cons (pe_callB (call_isE TY.ex hz hf) (by rfl) G.n_isinstance (by decide +kernel) (pa_cons (pv 1) (pa_cons (pe_gc (by rfl) TY.c_BadProgram) pa_nil))) (pa_cons (pe_callB (call_isE TY.ex hz hf) (by rfl) G.n_isinstance (by decide +kernel) (pa_cons (pv 1) (pa_cons (pe_gc (by rfl) TY.c_BadWidth) pa_nil))) (pa_cons (pe_callB (call_isE TY.ex hz hf) (by rfl) G.n_isinstance (by decide +kernel) (pa_cons (pv 1) (pa_cons (pe_gc (by rfl) TY.c_BadInput) pa_nil))) (pa_cons (pe_callB (call_isE TY.ex hz hf) (by rfl) G.n_isinstance (by decide +kernel) (pa_cons (pv 1) (pa_cons (pe_gc (by rfl) TY.c_BadNet) pa_nil))) pa_nil))))))
      (pss_cons (ps_set (i := 2) sc_law_word.nd rfl (Or.inl rfl) (pe_op op_cat (pv 2) (pe_lst (pa_cons (pe_callB (call_isE TY.ex hz hf) (by rfl) G.n_isinstance (by decide +kernel) (pa_cons (pv 1) (pa_cons (pe_gc (by rfl) TY.c_BadPairs) pa_nil))) (pa_cons (pe_callB (call_isE TY.ex hz hf) (by rfl) G.n_isinstance (by decide +kernel) (pa_cons (pv 1) (pa_cons (pe_gc (by rfl) TY.c_TooMany) pa_nil))) (pa_cons (pe_callB (call_isE TY.ex hz hf) (by rfl) G.n_isinstance (by decide +kernel) (pa_cons (pv 1) (pa_cons (pe_gc (by rfl) TY.c_BadText) pa_nil))) pa_nil))))))
      (pss_cons (ps_if (PW.pt (pw_or (pt_cmpR op_ne (bm K PySem.F.plainAttrs_list PySem.F.slot_list_count PySem.F.type_list_count mt_lcountB (pv 2) (pa_cons pe_bl pa_nil)) pe_int (nomark _)) (pw_or1 (pt_not (pt_val (pe_callB (call_isE TY.ex hz hf) (by rfl) G.n_isinstance (by decide +kernel) (pa_cons (pv 1) (pa_cons (pe_bltn (v := .ty "ValueError") (by rfl) TY.n_ValueError (by decide +kernel) rfl) pa_nil))))))))
        (pss_one (ps_ret (pe_tup (pa_cons pe_str (pa_cons pe_int pa_nil)))))
        pss_nil)
      (pss_cons (ps_set (i := 3) sc_law_word.nd rfl (Or.inl rfl) (pe_ix (ixL K) (pe_lst (pa_cons pe_str (pa_cons pe_str (pa_cons pe_str (pa_cons pe_str (pa_cons pe_str (pa_cons pe_str (pa_cons pe_str pa_nil)))))))) (bm K PySem.F.plainAttrs_list PySem.F.slot_list_index PySem.F.type_list_index mt_index (pv 2) (pa_cons pe_bl pa_nil)) (fun _ _ => rfl)))
      (pss_cons (ps_if (pt_cmpR (inS K) (pv 3) (pe_tup (pa_cons pe_str (pa_cons pe_str pa_nil))) (by rfl))
        (pss_one (ps_ret (pe_tup (pa_cons (pv 3) (pa_cons (fldK K (pv 1)) pa_nil)))))
        pss_nil)
      (pss_one (ps_ret (pe_tup (pa_cons (pv 3) (pa_cons (pe_ifExp (pt_cmpR op_eq (pv 3) pe_str (nomark _)) (fldK K (pv 1)) pe_int) pa_nil)))))))))), ?_⟩
    have y1 := TY.i1
    have y2 := TY.i2
    have y3 := TY.i3
    have y4 := TY.i4
    have y5 := TY.i5
    have y6 := TY.i6
    have y7 := TY.i7
    have y8 := TY.i8
    have hE : ∀ (l : Addr) (X2 : Hp) (Y : List V), X2 l = some (.lst Y) → X2 l = some (.lst Y) := fun _ _ _ h => h
    walk_at "go"
    refine x_isE y1 ?_
    walk_at "go"
    refine x_isE y2 ?_
    walk_at "go"
    refine x_isE y3 ?_
    walk_at "go"
    refine x_isE y4 ?_
    walk_at "go"
    intro l1 hl1
    have k1 : Kp No H' (upd H' l1 (.lst [.bl false, .bl false, .bl false, .bl false])) := .new hl1
    have g1 : upd H' l1 (.lst [.bl false, .bl false, .bl false, .bl false]) l1 = some (.lst [.bl false, .bl false, .bl false, .bl false]) := upd_same
    generalize upd H' l1 (.lst [.bl false, .bl false, .bl false, .bl false]) = H1 at *
    walk_at "go"
    refine x_isE y5 ?_
    walk_at "go"
    refine x_isE y6 ?_
    walk_at "go"
    refine x_isE y7 ?_
    walk_at "go"
    intro l2 hl2
    have k2 : Kp No H1 (upd H1 l2 (.lst [.bl true, .bl false, .bl false])) := .new hl2
    refine ⟨l1, l2, _, _, rfl, rfl, k2.at0 g1, upd_same, by rw [sizeLine_eq]; decide, fun l3 hl3 => ?_⟩
    have k3 : Kp No H' (upd (upd H1 l2 (.lst [.bl true, .bl false, .bl false])) l3 (.lst ([.bl false, .bl false, .bl false, .bl false] ++ [.bl true, .bl false, .bl false]))) := (k1.trans k2).trans (.new hl3)
    have g3 : upd (upd H1 l2 (.lst [.bl true, .bl false, .bl false])) l3 (.lst ([.bl false, .bl false, .bl false, .bl false] ++ [.bl true, .bl false, .bl false])) l3 = some (.lst ([false, false, false, false, true, false, false].map V.bl)) := upd_same
    generalize upd (upd H1 l2 (.lst [.bl true, .bl false, .bl false])) l3 (.lst ([.bl false, .bl false, .bl false, .bl false] ++ [.bl true, .bl false, .bl false])) = H3 at *
    walk_at "go"
    refine ⟨l3, [false, false, false, false, true, false, false], true, rfl, rfl, SqL.of g3, ?_⟩
    rw [show countIn (.bool true) ([false, false, false, false, true, false, false].map PyData.bool) = 1 by decide +kernel]
    walk_at "go"
    refine x_isEt y8 ?_
    walk_at "go"
    intro l4 hl4
    have k4 : Kp No H3 (upd H3 l4 (.lst [.str "program", .str "width", .str "input", .str "net", .str "pairs", .str "many", .str "text"])) := .new hl4
    have g4 : upd H3 l4 (.lst [.str "program", .str "width", .str "input", .str "net", .str "pairs", .str "many", .str "text"]) l4 = some (.lst [.str "program", .str "width", .str "input", .str "net", .str "pairs", .str "many", .str "text"]) := upd_same
    have g34 := k4.at0 g3
    generalize upd H3 l4 (.lst [.str "program", .str "width", .str "input", .str "net", .str "pairs", .str "many", .str "text"]) = H4 at *
    walk_at "go"
    refine ⟨l3, [false, false, false, false, true, false, false].map V.bl, .bl true, 4, .bl true, rfl, rfl, SqL.of g34, rfl, rfl, rfl, rfl, fun m z hm hz => ?_, ?_⟩
    · match m, hm, hz with
      | 0, _, hz => cases hz; rfl
      | 1, _, hz => cases hz; rfl
      | 2, _, hz => cases hz; rfl
      | 3, _, hz => cases hz; rfl
    have z4 : atI [V.str "program", .str "width", .str "input", .str "net", .str "pairs", .str "many", .str "text"] ((4 : Nat) : Int) = some (.str "pairs") := rfl
    walk_at "go"
    intro t1 ht1
    have k5 : Kp No H4 (upd H4 t1 (.tup [.str "program", .str "text"])) := .new ht1
    walk_at "go"
    intro t2 ht2
    exact h2 t2 _ (((k3.trans k4).trans k5).trans (.new ht2)) upd_same
  · exact ⟨fun cls d H' => cls = .ref x.BP ∧ d = none ∧ ∀ p H2, Kp No H' H2 → H2 p = some (.tup [.str "pairs", .int 0]) → Q (.ref p) H2, fun cls d σ' H' ⟨e1, e2, e3⟩ => ⟨true, by rw [e1]; exact TY.em, fun _ a ha => ⟨e1, e2, fun hl => by
      rw [List.length_set] at hl
      rw [List.getElem?_set_self (by omega)], e3⟩, fun z => nomatch z⟩, rfl, hc, h⟩
end K7
namespace K7
open PySem PySem.Spec PyProof.Rows L2 B N7
/-! ### tables of code objects stay -/
theorem tabs_kp {T : List (Addr × Str)} {M : Addr → Prop} {H H' : Hp} (t : LamX.Tabs T H) (k : Kp M H H') (n : ∀ b, M b → ∃ xs, H b = some (.lst xs)) : LamX.Tabs T H' := fun p hp => by
  obtain ⟨ps, h1, h2, h3⟩ := t p hp
  refine ⟨ps, k.at h1 fun z => ?_, h2, fun pos cv hc => ?_⟩
  · obtain ⟨xs, e⟩ := n _ z
    rw [h1] at e
    cases e
  · obtain ⟨c, e1, e2⟩ := h3 pos cv hc
    refine ⟨c, e1, k.at e2 fun z => ?_⟩
    obtain ⟨xs, e⟩ := n _ z
    rw [e2] at e
    cases e
theorem tabs_kp0 {T : List (Addr × Str)} {H H' : Hp} (t : LamX.Tabs T H) (k : Kp No H H') : LamX.Tabs T H' := tabs_kp t k fun _ z => z.elim
/-- where the tables are -/
def IsTb (H : Hp) : Addr → Prop := fun b => ∃ ps, H b = some (.tbl ps)
theorem ext_kp {H H' : Hp} (e : LamX.ExtN H H') : Kp (IsTb H) H H' := fun b o h n => e b o h fun ps z => n ⟨ps, by rw [h, z]⟩
theorem noTup_tb (H : Hp) : NoTup (IsTb H) H := fun a ⟨ps, e⟩ => ⟨fun xs e2 => (by rw [e] at e2; cases e2), fun o xs e2 => (by rw [e] at e2; cases e2)⟩
section
variable {K : PySem.W.Frag} {H H' : Hp} {r sc : Addr} {ns : List Int} {Q : VK}
theorem RowAt.tabs (R : RowAt K H r sc ns) {T : List (Addr × Str)} (t : LamX.Tabs T H) (k : KR r H H') : LamX.Tabs T H' := tabs_kp t k fun b z => by
  obtain ⟨_, _, _, e, _⟩ := R.row
  exact ⟨_, by rw [z]; exact e⟩
theorem RowAt.ext (R : RowAt K H r sc ns) (e : LamX.ExtN H H') : RowAt K H' r sc ns := by
  obtain ⟨i, seed, rest, h, q⟩ := R.row
  refine ⟨⟨i, seed, rest, e _ _ h (fun ps z => by cases z), q⟩, ?_⟩
  rcases R.scr with (h | ⟨o, h⟩) | h
  · exact .inl (.inl (e _ _ h (fun ps z => by cases z)))
  · exact .inl (.inr ⟨o, e _ _ h (fun ps z => by cases z)⟩)
  · exact .inr h
theorem ext_lst (e : LamX.ExtN H H') {a : Addr} {xs : List V} (h : H a = some (.lst xs)) : H' a = some (.lst xs) := e _ _ h (fun ps z => by cases z)
theorem ext_tup (e : LamX.ExtN H H') {a : Addr} {xs : List V} (h : H a = some (.tup xs)) : H' a = some (.tup xs) := e _ _ h (fun ps z => by cases z)
/-- two tuples of the same flat things -/
theorem x_neSameT {a b : Addr} {xs : List V} (ha : SqT K H a xs) (hb : SqT K H b xs) (hf : xs.all okF = true) (k : Q (.bl false) H) : rNeD K (.ref a) (.ref b) H Q := by
  refine ⟨_, _, .tup ha (dpAll_flat hf), .tup hb (dpAll_flat hf), shaped_flatT hf, shaped_flatT hf, ?_⟩
  rw [SeqAt.eqv_refl _ (by rw [PyData.canLay0]; exact lay_flat hf)]
  exact k
/-- what is handed in as no pair: it can be read -/
def OddV (K : PySem.W.Frag) (H : Hp) (n m : Nat) (v : V) : Prop := BadP K H n m v ∧ ∃ d, Dp K H v d ∧ SeqAt.shaped d = true
theorem shaped_in {xs : List PyData} (h : ∀ d ∈ xs, ∃ ys : List V, ys.all okF = true ∧ d = .tuple (ys.map fd) ∨ ∃ i : Int, d = .int i) : SeqAt.shaped (.tuple xs) = true := by
  have lay : ∀ l : List PyData, (∀ d ∈ l, ∃ ys : List V, ys.all okF = true ∧ d = .tuple (ys.map fd) ∨ ∃ i : Int, d = .int i) → PyData.canLayAll0 l = true ∧ PyData.depthAll l ≤ 1 := by
    intro l
    induction l with
    | nil => intro _; exact ⟨by simp [PyData.canLayAll0], by simp [PyData.depthAll]⟩
    | cons d l ih =>
      intro h
      obtain ⟨i1, i2⟩ := ih fun x hx => h x (List.mem_cons_of_mem _ hx)
      obtain ⟨ys, ⟨hy, rfl⟩ | ⟨i, rfl⟩⟩ := h d List.mem_cons_self
      · refine ⟨?_, ?_⟩
        · rw [PyData.canLayAll0, i1, PyData.canLay0, lay_flat hy]
          rfl
        · rw [PyData.depthAll]
          have : (PyData.tuple (ys.map fd)).depth ≤ 1 := by rw [PyData.depth, depth_flat]; exact Nat.le_refl _
          omega
      · refine ⟨?_, ?_⟩
        · rw [PyData.canLayAll0, i1]
          simp [PyData.canLay0]
        · rw [PyData.depthAll]
          have : (PyData.int i).depth ≤ 1 := by simp [PyData.depth]
          omega
  obtain ⟨h1, h2⟩ := lay xs h
  unfold SeqAt.shaped
  rw [Bool.and_eq_true]
  refine ⟨by rw [PyData.canLay0]; exact h1, decide_eq_true ?_⟩
  rw [PyData.depth]
  omega
theorem shaped_int (i : Int) : SeqAt.shaped (.int i) = true := by
  unfold SeqAt.shaped
  simp [PyData.canLay0, PyData.depth]
theorem OddV.keep {H' : Hp} {n m : Nat} {x : V} {d : PyData} {M : Addr → Prop} (h : BadP K H n m x) (k : Kp M H H') (nt : NoTup M H) : BadP K H' n m x := h.keep k nt
end
section
variable {X : Cx} {w : World} {d : Ads} {x : XAds}
/-- the law's word of a lambda -/
theorem pe_word {P c : Addr} {k : Nat} {params : Arguments} {body : Expr} {scope : Scope} {t : XK → TE} {p lpos pos : Pos} {q : Str} (G : Txt X.K w X.mg d) (TY : YTxt X.K X.mg x) (DW : Df X.K X.mg "_law_word" s_law_word ["_law_work"]) (hgl : Gl X "_law_word")
    (TB : LamX.TabB X.base X.mg c P) (hcode : X.env.code = .ref c) (hq : q = X.env.qual ++ "<lambda>") (hr : Room (k + 2) X.A) (L : LamX.LamS X.env.scope scope) (hdef : defaultsOf params X.env = ([], []))
    (hbind : ∀ (q : Str) (cl : List (Str × Addr)) (pm cv ctv : Value), bindArgs (PySem.W.kla_fn "<lambda>" q params body scope cl pm cv ctv) ⟨[], []⟩ = pure [])
    (hbody : ∀ (A : Around) (outer : List Env) (s : Shared) (H : Hp) (E : XK) (f c' : Addr), Room k (A.deeper (LamX.lamEnv X scope s.heap.objs.size f c')) → PE (LamX.lamCx X A outer s H E scope f c') body (t E)) :
    PE X (.Call (.Name "_law_word" p) [.Lambda params body scope lpos] [] pos) (LamX.tLam [(P, q)] (TWord x.BP) t) := by
  obtain ⟨g, fd, F, hm, b⟩ := DW.ex
  obtain ⟨oc, od, kV, doc, pm, an, cdv, ct, osl, rfl, lk, hcd⟩ := F.ex
  subst hq
  exact LamX.pe_lamcall (k := k) hgl hm F.kp lk hcd b sc_law_word rfl (.inl rfl) (word_gives G TY) TB hcode (List.mem_singleton.mpr rfl) (fun p hp _ => by rw [List.mem_singleton.mp hp]) hr L hdef hbind hbody
end
end K7
namespace K7
open PySem PySem.Spec PyProof.Rows L2 B N7
section
variable {K : PySem.W.Frag} {H H' : Hp} {Q : VK} {n m : Nat}
/-- t[1:], t a tuple of any length -/
theorem x_slTail {a : Addr} {xs : List V} (h : SqT K H a xs) (k : ∀ (p : Addr) (H' : Hp), SqT K H' p (xs.drop 1) → Kp No H H' → Q (.ref p) H') : rSlA K (.ref a) (some 1) none H Q := by
  refine ⟨a, xs, rfl, h, fun z => ?_, fun _ p hp => ?_⟩
  · have z1 := z.1
    rw [show (1 : Int) = ((1 : Nat) : Int) from rfl, HT.sIx_nat] at z1
    have : xs = [] := List.length_eq_zero_iff.mp (by omega)
    subst this
    exact k a H h (.refl H)
  · refine k p _ ?_ (.new hp)
    rw [show cutV xs (some 1) none = xs.drop 1 from cut_drop xs 1]
    exact SqT.of upd_same
/-- a part of what is no pair -/
def PartV (K : PySem.W.Frag) (H : Hp) (y : V) : Prop := (∃ i : Int, y = .int i) ∨ ∃ (p : Addr) (xs : List V), y = .ref p ∧ SqT K H p xs ∧ xs.all ofBits = true
def OddSh (K : PySem.W.Frag) (H : Hp) (n m : Nat) (v : V) : Prop := BadP K H n m v ∧ ((∃ i : Int, v = .int i) ∨ ∃ (e : Addr) (ps : List V), v = .ref e ∧ SqT K H e ps ∧ ∀ y ∈ ps, PartV K H y)
theorem OddSh.keep {v : V} {M : Addr → Prop} (h : OddSh K H n m v) (k : Kp M H H') (nt : NoTup M H) : OddSh K H' n m v := by
  refine ⟨h.1.keep k nt, ?_⟩
  rcases h.2 with z | ⟨e, ps, a, b, c⟩
  · exact .inl z
  · refine .inr ⟨e, ps, a, Kp.sqt k nt b, fun y hy => ?_⟩
    rcases c y hy with z | ⟨p, xs, a2, b2, c2⟩
    · exact .inl z
    · exact .inr ⟨p, xs, a2, Kp.sqt k nt b2, c2⟩
theorem parts_dp : ∀ {ps : List V}, (∀ y ∈ ps, PartV K H y) → ∃ ds, DpAll K H ps ds ∧ ∀ d ∈ ds, ∃ ys : List V, ys.all okF = true ∧ d = .tuple (ys.map fd) ∨ ∃ i : Int, d = .int i
  | [], _ => ⟨[], .nil, fun d hd => by cases hd⟩
  | y :: ps, h => by
    obtain ⟨ds, h1, h2⟩ := parts_dp (ps := ps) fun z hz => h z (List.mem_cons_of_mem _ hz)
    rcases h y List.mem_cons_self with ⟨i, rfl⟩ | ⟨p, xs, rfl, a, b⟩
    · refine ⟨.int i :: ds, .cons (.int i) h1, fun d hd => ?_⟩
      rcases List.mem_cons.mp hd with z | z
      · exact ⟨[], .inr ⟨i, z⟩⟩
      · exact h2 d z
    · refine ⟨.tuple (xs.map fd) :: ds, .cons (.tup a (dpAll_flat (okF_of b))) h1, fun d hd => ?_⟩
      rcases List.mem_cons.mp hd with z | z
      · exact ⟨xs, .inl ⟨okF_of b, z⟩⟩
      · exact h2 d z
theorem OddSh.dp {v : V} (h : OddSh K H n m v) : ∃ d, Dp K H v d ∧ SeqAt.shaped d = true := by
  rcases h.2 with ⟨i, rfl⟩ | ⟨e, ps, rfl, b, c⟩
  · exact ⟨.int i, .int i, shaped_int i⟩
  · obtain ⟨ds, h1, h2⟩ := parts_dp c
    exact ⟨.tuple ds, .tup b h1, shaped_in h2⟩
theorem odd_int (i : Int) : OddSh K H n m (.int i) := ⟨.inl ⟨i, rfl⟩, .inl ⟨i, rfl⟩⟩
theorem odd_few {e : Addr} {ps : List V} (h : SqT K H e ps) (hl : ps.length ≠ 2) (hp : ∀ y ∈ ps, PartV K H y) : OddSh K H n m (.ref e) := ⟨.inr (.inl ⟨e, ps, rfl, h, hl⟩), .inr ⟨e, ps, rfl, h, hp⟩⟩
theorem odd_left {e p : Addr} {y : V} {xs : List V} (h : SqT K H e [.ref p, y]) (hp : SqT K H p xs) (fx : xs.all ofBits = true) (l : xs.length ≤ 10000) (hb : (decide (xs.length = n) && xs.all isBit) = false) (hy : PartV K H y) : OddSh K H n m (.ref e) := by
  refine ⟨.inr (.inr ⟨e, .ref p, y, rfl, h, .inl (.inr ⟨p, xs, rfl, hp, fx, l, hb⟩)⟩), .inr ⟨e, _, rfl, h, fun z hz => ?_⟩⟩
  rcases List.mem_cons.mp hz with z1 | z1
  · rw [z1]; exact .inr ⟨p, xs, rfl, hp, fx⟩
  · rw [List.mem_singleton.mp z1]; exact hy
theorem odd_right {e p : Addr} {y : V} {bs : List Bool} (h : SqT K H e [.ref p, y]) (hp : SqT K H p (bs.map bt)) (hl : bs.length = n) (hb : BadB K H m y) (hy : PartV K H y) : OddSh K H n m (.ref e) := by
  refine ⟨.inr (.inr ⟨e, .ref p, y, rfl, h, .inr ⟨⟨p, bs, rfl, hp, hl⟩, hb⟩⟩), .inr ⟨e, _, rfl, h, fun z hz => ?_⟩⟩
  rcases List.mem_cons.mp hz with z1 | z1
  · rw [z1]; exact .inr ⟨p, _, rfl, hp, ofBits_bt _⟩
  · rw [List.mem_singleton.mp z1]; exact hy
theorem part_bt {p : Addr} {bs : List Bool} (h : SqT K H p (bs.map bt)) : PartV K H (.ref p) := .inr ⟨p, _, rfl, h, ofBits_bt _⟩
/-- the eight of them, from what stands -/
theorem odds {e0 e1 e2 e3 e5 e6 e7 t1 t2 p1 p2 p5 p7 z6 : Addr} {bs1 bs2 : List Bool} (l1 : bs1.length = n) (l2 : bs2.length = m) (b1 : n ≤ 1900) (b2 : m ≤ 1900) (ht1 : SqT K H t1 (bs1.map bt)) (ht2 : SqT K H t2 (bs2.map bt))
    (h0 : SqT K H e0 [.ref t1]) (h1 : SqT K H e1 [.ref t1, .ref p1]) (hp1 : SqT K H p1 (bs2.map bt ++ [.int 0])) (h2 : SqT K H e2 [.ref p2, .ref t2]) (hp2 : SqT K H p2 (bs1.map bt ++ [.int 2])) (h3 : SqT K H e3 [.ref t1, .int 0])
    (h5 : SqT K H e5 [.ref p5, .ref t2]) (hp5 : SqT K H p5 (.bl true :: (bs1.map bt).drop 1)) (h6 : SqT K H e6 [.ref t1, .ref t2, .ref z6]) (hz6 : SqT K H z6 []) (h7 : SqT K H e7 [.ref p7, .ref t2]) (hp7 : SqT K H p7 (bs1.map bt ++ [.int 0])) :
    ∀ v ∈ [V.ref e0, .ref e1, .ref e2, .ref e3, .int 0, .ref e5, .ref e6, .ref e7], OddSh K H n m v := by
  have lb : ∀ (bs : List Bool) (i : Int), (bs.map bt ++ [V.int i]).all ofBits = true := fun bs i => by rw [List.all_append, ofBits_bt]; rfl
  have ln : ∀ (bs : List Bool) (i : Int), (bs.map bt ++ [V.int i]).length = bs.length + 1 := fun bs i => by rw [List.length_append, List.length_map]; rfl
  have l5 : (V.bl true :: (bs1.map bt).drop 1).all ofBits = true := by
    rw [List.all_cons, List.all_eq_true.mpr fun x hx => List.all_eq_true.mp (ofBits_bt bs1) x (List.mem_of_mem_drop hx)]
    rfl
  intro v hv
  simp only [List.mem_cons, List.not_mem_nil, or_false] at hv
  rcases hv with rfl | rfl | rfl | rfl | rfl | rfl | rfl | rfl
  · exact odd_few h0 (by simp) fun y hy => by rw [List.mem_singleton.mp hy]; exact part_bt ht1
  · exact odd_right h1 ht1 l1 (.inr ⟨p1, _, rfl, hp1, lb _ _, by rw [ln]; omega, by rw [ln, decide_eq_false (by omega)]; rfl⟩) (.inr ⟨p1, _, rfl, hp1, lb _ _⟩)
  · exact odd_left h2 hp2 (lb _ _) (by rw [ln]; omega) (by rw [ln, decide_eq_false (by omega)]; rfl) (part_bt ht2)
  · exact odd_right h3 ht1 l1 (.inl ⟨0, rfl⟩) (.inl ⟨0, rfl⟩)
  · exact odd_int 0
  · exact odd_left h5 hp5 l5 (by rw [List.length_cons, List.length_drop, List.length_map]; omega) (by rw [List.all_cons, show isBit (V.bl true) = false from rfl, Bool.false_and, Bool.and_false]) (part_bt ht2)
  · refine odd_few h6 (by simp) fun y hy => ?_
    simp only [List.mem_cons, List.not_mem_nil, or_false] at hy
    rcases hy with rfl | rfl | rfl
    · exact part_bt ht1
    · exact part_bt ht2
    · exact .inr ⟨z6, [], rfl, hz6, rfl⟩
  · exact odd_left h7 hp7 (lb _ _) (by rw [ln]; omega) (by rw [ln, decide_eq_false (by omega)]; rfl) (part_bt ht2)
end
end K7
namespace K7
open PySem PySem.Spec PyProof.Rows L2 B N7
def lawQ : Str := (envOfC ("law" : Str) (defScope s_law) 0 0 .none).qual ++ "<lambda>"
abbrev lawS (sc r : Addr) (o2 o3 o4 o5 o6 o9 o10 o11 o12 o13 o14 o17 o18 o19 : Option V) : L2.St := [some (.ref sc), some (.ref r), o2, o3, o4, o5, o6, none, none, o9, o10, o11, o12, o13, o14, none, none, o17, o18, o19]
section
variable {P : Program} {w : World} {K : PySem.W.Frag} {mg : Str → Option Value} {base : Heap} {d : Ads} {C : Addr} {S : Nat → Prop}
def pLaw (K : PySem.W.Frag) (Pt : Addr) : V → Hp → VK → XK → Prop := fun a H Q _ => ∃ (sc : Addr) (ns : List Int), a = .ref sc ∧ SqL K H sc (ns.map V.int) ∧ LamX.Tabs [(Pt, lawQ)] H ∧ ∀ H', Q (.bl true) H'
theorem ok_law (G : Txt K w mg d) {x : XAds} (TY : YTxt K mg x) {f Pt c : Addr} {od an : Option Addr} {osl : Array (Option Value)} {oc kV doc pm ct : Value} (TB : LamX.TabB base mg c Pt) (DW : Df K mg "_law_word" s_law_word ["_law_work"])
    (lk : K.lookup f = some ⟨oc, od, .func (PySem.W.fnOf "law" "law" (defArgs s_law) (defBody s_law) (defScope s_law) .none kV doc pm an (.ref c) ct), osl⟩) (hcd : PySem.W.codeIn K (.ref c) "law" = true)
    (c_law_are_apart : Cal P w K mg base CX0 6 "_law_are_apart" (sp0 pApart)) (c_law_two : Cal P w K mg base CX0 6 "_law_two" (sp1 (pTwoL K))) (c_law_taken : Cal P w K mg base CX0 1 "_law_taken" (sp2 (pTaken K))) (c_law_net : Cal P w K mg base CX0 2 "_law_net" (sp3 (pNetL K)))
    (c_law_held : Cal P w K mg base CX0 3 "_law_held" (U fun S => sp3 (pHeldL S K))) (c_law_bent : Cal P w K mg base CX0 2 "_law_bent" (sp3 (pBent K))) (c_shows : Cal P w K mg base CX0 5 "shows" (U fun S => sp3 (pShows S K)))
    (c_law_shows : Cal P w K mg base CX0 3 "_law_shows" (U fun S => sp3 (pShows S K))) (c_showsX : Cal P w K mg base (L2.CX P w) 5 "shows" (U fun S => sp3 (pShowsBad S K x.BP))) :
    FnOk P w K mg base CX0 8 f (PySem.W.fnOf "law" "law" (defArgs s_law) (defBody s_law) (defScope s_law) .none kV doc pm an (.ref c) ct) ["_law_script"] (sp1 (pLaw K Pt)) := by
  refine fn_of lk hcd sc_law (fun vs H Q E h => by obtain ⟨a, rfl, _⟩ := h; rfl) fun A outer s0 H vs Q E hr h => ?_
  suffices h : ∃ t, PSs (cxOf CX0 P w K mg base N_law "law" (defScope s_law) f (.ref c) A outer s0 H E).nox (defBody s_law) t ∧ t { nx := fun _ H' => Q .non H', rt := Q } (L2.start N_law vs) H by
    obtain ⟨t, h1, h2⟩ := h
    exact ⟨t, h1.nox, h2⟩
  obtain ⟨_, rfl, sc, ns, rfl, hsc, hT, q⟩ := h
  refine ⟨_, (pss_cons (ps_set (i := 1) sc_law.nd rfl (Or.inr rfl) (pe_lst (pa_cons (pv 0) (pa_cons pe_int (pa_cons pe_int (pa_cons pe_int pa_nil))))))
    (pss_cons (ps_if (pt_not (pt_val (pe_c0 c_law_are_apart hr (by decide) (by rfl) pass0)))
      (pss_one (ps_ret pe_bl))
      pss_nil)
    (pss_cons (ps_for PassesOwn.never rfl (pi_range1 (by rfl) G.n_range (pa_cons pe_int pa_nil)) (pg_name (i := 2) sc_law.nd rfl (Or.inl rfl))
      (pss_cons (ps_asg (pe_c c_law_two hr (by first | decide | omega) (by rfl) pass0 (pa_cons (pv 1) pa_nil)) (pgL (n := 2) K (by rfl) (pgs_cons (pg_name (i := 3) sc_law.nd rfl (Or.inr rfl)) (pgs_cons (pg_name (i := 4) sc_law.nd rfl (Or.inr rfl)) pgs_nil))))
      (Evl.pss_cut (ps_if (pt_cmpR op_eq (pe_c c_law_taken hr (by first | decide | omega) (by rfl) pass0 (pa_cons (pv 1) (pa_cons pe_int pa_nil))) pe_int (nomark _))
        (pss_one (ps_asg (pe_tup (pa_cons (pe_c c_law_net hr (by first | decide | omega) (by rfl) pass0 (pa_cons (pv 1) (pa_cons pe_int (pa_cons pe_int pa_nil)))) (pa_cons (pe_c c_law_net hr (by first | decide | omega) (by rfl) pass0 (pa_cons (pv 1) (pa_cons pe_int (pa_cons pe_int pa_nil)))) pa_nil))) (pgT (n := 2) K (by rfl) (pgs_cons (pg_name (i := 3) sc_law.nd rfl (Or.inr rfl)) (pgs_cons (pg_name (i := 4) sc_law.nd rfl (Or.inr rfl)) pgs_nil)))))
        pss_nil)
      (pss_cons (ps_set (i := 5) sc_law.nd rfl (Or.inr rfl) (pe_c c_law_held hr (by first | decide | omega) (by rfl) pass0 (pa_cons (pv 3) (pa_cons (pv 4) (pa_cons pe_int pa_nil)))))
      (pss_one (ps_if (pt_cmpR op_notN (pv 5) pe_non (nomark _))
        (pss_cons (ps_setLc (i := 6) (own := [("_law_net_here", 8)]) (g := gName 8) (tt := tYes) rfl sc_law.nd rfl rfl (sw_true rfl rfl rfl (by decide +kernel)) (piT K (pe_tup (pa_cons (pv 3) (pa_cons (pv 4) pa_nil)))) (blkOk_by (own := [("_law_net_here", 8)]) (N := N_law) (sc := defScope s_law) (by decide +kernel)) (fun _ _ _ _ _ => (pg_name (i := 8) sc_law.nd rfl (Or.inl rfl))) (fun _ _ _ _ _ => pts_nil) (fun _ _ _ _ _ => (pe_callB (lenS K) (by rfl) G.n_len (by decide +kernel) (pa_cons (pe_lc (own := [("_law_cell", 7)]) (g := gName 7) rfl sc_law.nd (piT K (pe_ix (ixT K) (pv 8) pe_int (fun _ _ => rfl))) (N7.blkIn (own := [("_law_cell", 7)]) (N := N_law) (by decide +kernel)) (fun _ _ _ _ _ => (pg_name (i := 7) sc_law.nd rfl (Or.inl rfl))) (fun _ _ _ _ _ => pts_one (pt_cmpR op_eq (pe_ix (ixT K) (pv 7) pe_int (fun _ _ => rfl)) pe_str (nomark _))) (fun _ _ _ _ _ => (pv 7))) pa_nil))))
        (pss_cons (ps_for PassesOwn.never rfl (pi_range1 (by rfl) G.n_range (pa_cons pe_int pa_nil)) (pg_name (i := 9) sc_law.nd rfl (Or.inl rfl))
          (pss_cons (ps_set (i := 10) sc_law.nd rfl (Or.inl rfl) (pe_ix (ixT K) (pv 5) pe_int (fun _ _ => rfl)))
          (pss_cons (ps_for PassesOwn.never rfl (pi_range1 (by rfl) G.n_range (pa_cons (pe_c c_law_taken hr (by first | decide | omega) (by rfl) pass0 (pa_cons (pv 1) (pa_cons pe_int pa_nil))) pa_nil)) (pg_name (i := 11) sc_law.nd rfl (Or.inl rfl))
            (pss_one (ps_set (i := 10) sc_law.nd rfl (Or.inl rfl) (pe_c c_law_bent hr (by first | decide | omega) (by rfl) pass0 (pa_cons (pv 1) (pa_cons (pv 10) (pa_cons (pv 6) pa_nil)))))))
          (pss_cons (ps_set (i := 12) sc_law.nd rfl (Or.inl rfl) (pe_callTy (listOf K) (by rfl) G.n_list (by decide +kernel) (pa_cons (pv 10) pa_nil)))
          (pss_cons (ps_set (i := 13) sc_law.nd rfl (Or.inl rfl) (pe_c c_shows hr (by first | decide | omega) (by rfl) pass0 (pa_cons (pv 3) (pa_cons (pv 4) (pa_cons (pv 12) pa_nil)))))
          (pss_one (ps_if (PW.pt (pw_or (pt_not (pt_val (pe_callB (isi1 K) (by rfl) G.n_isinstance (by decide +kernel) (pa_cons (pv 13) (pa_cons (pe_bltn (v := .ty "bool") (by rfl) G.n_bool (by decide +kernel) rfl) pa_nil))))) (pw_or (pt_cmpR op_ne (pv 13) (pe_c c_law_shows hr (by first | decide | omega) (by rfl) pass0 (pa_cons (pv 3) (pa_cons (pv 4) (pa_cons (pv 10) pa_nil)))) (nomark _)) (pw_or1 (pt_cmpR (neD K hr.units) (pv 12) (pv 10) (nomark _))))))
            (pss_one (ps_ret pe_bl))
            pss_nil)))))))
        (pss_cons (ps_setLc (i := 14) (own := [("_law_size", 16)]) (g := gName 16) (tt := tYes) rfl sc_law.nd rfl rfl (sw_true rfl rfl rfl (by decide +kernel)) (piL K (pv 6)) (blkOk_by (own := [("_law_size", 16)]) (N := N_law) (sc := defScope s_law) (by decide +kernel)) (fun _ _ _ _ _ => (pg_name (i := 16) sc_law.nd rfl (Or.inl rfl))) (fun _ _ _ _ _ => pts_nil) (fun _ _ _ _ _ => (pe_callTy (tupOf K) (by rfl) G.n_tuple (by decide +kernel) (pa_cons (pe_lc (own := [("_law_k", 15)]) (g := gName 15) (tt := tYes) rfl sc_law.nd (pi_range1 (by rfl) G.n_range (pa_cons (pv 16) pa_nil)) (N7.blkIn (own := [("_law_k", 15)]) (N := N_law) (by decide +kernel)) (fun _ _ _ _ _ => (pg_name (i := 15) sc_law.nd rfl (Or.inl rfl))) (fun _ _ _ _ _ => pts_nil) (fun _ _ _ _ _ => (pe_c c_law_taken hr (by first | decide | omega) (by rfl) pass0 (pa_cons (pv 1) (pa_cons pe_int pa_nil))))) pa_nil))))
        (pss_cons (ps_set (i := 17) sc_law.nd rfl (Or.inl rfl) (pe_lst (pa_cons (pe_tup (pa_cons (pe_ix (ixL K) (pv 14) pe_int (fun _ _ => rfl)) pa_nil)) (pa_cons (pe_tup (pa_cons (pe_ix (ixL K) (pv 14) pe_int (fun _ _ => rfl)) (pa_cons (pe_op (N7.catA K) (pe_ix (ixL K) (pv 14) pe_int (fun _ _ => rfl)) (pe_tup (pa_cons pe_int pa_nil))) pa_nil))) (pa_cons (pe_tup (pa_cons (pe_op (N7.catA K) (pe_ix (ixL K) (pv 14) pe_int (fun _ _ => rfl)) (pe_tup (pa_cons pe_int pa_nil))) (pa_cons (pe_ix (ixL K) (pv 14) pe_int (fun _ _ => rfl)) pa_nil))) (pa_cons (pe_tup (pa_cons (pe_ix (ixL K) (pv 14) pe_int (fun _ _ => rfl)) (pa_cons pe_int pa_nil))) (pa_cons pe_int pa_nil)))))))
        (pss_cons (ps_set (i := 17) sc_law.nd rfl (Or.inl rfl) (pe_op op_cat (pv 17) (pe_lst (pa_cons (pe_tup (pa_cons (pe_op (N7.catA K) (pe_tup (pa_cons pe_bl pa_nil)) (pe_slice (N7.slA K) (pe_ix (ixL K) (pv 14) pe_int (fun _ _ => rfl)) (po_some pe_int) po_none)) (pa_cons (pe_ix (ixL K) (pv 14) pe_int (fun _ _ => rfl)) pa_nil))) (pa_cons (pe_tup (pa_cons (pe_ix (ixL K) (pv 14) pe_int (fun _ _ => rfl)) (pa_cons (pe_ix (ixL K) (pv 14) pe_int (fun _ _ => rfl)) (pa_cons (pe_tup pa_nil) pa_nil)))) (pa_cons (pe_tup (pa_cons (pe_op (N7.catA K) (pe_ix (ixL K) (pv 14) pe_int (fun _ _ => rfl)) (pe_tup (pa_cons pe_int pa_nil))) (pa_cons (pe_ix (ixL K) (pv 14) pe_int (fun _ _ => rfl)) pa_nil))) pa_nil))))))
        (pss_cons (ps_set (i := 18) sc_law.nd rfl (Or.inr rfl) (pe_ix (ixL K) (pv 17) (pe_c c_law_taken hr (by first | decide | omega) (by rfl) pass0 (pa_cons (pv 1) (pa_cons pe_int pa_nil))) (fun _ _ => rfl)))
        (Evl.pss_cut (ps_if (PW.pt (pw_and (pt_cmpR (eqD K hr.units) (pv 18) (pe_ix (ixL K) (pv 17) pe_int (fun _ _ => rfl)) (nomark _)) (pw_and1 (pt_cmpR (eqD K hr.units) (pe_ix (ixL K) (pv 14) pe_int (fun _ _ => rfl)) (pe_tup pa_nil) (nomark _)))))
          (pss_one (ps_set (i := 18) sc_law.nd rfl (Or.inr rfl) pe_int))
          pss_nil)
        (pss_cons (ps_set (i := 19) sc_law.nd rfl (Or.inr rfl) (pe_c c_law_taken hr (by first | decide | omega) (by rfl) pass0 (pa_cons (pv 1) (pa_cons (pe_op op_add (pe_callB (lenS K) (by rfl) G.n_len (by decide +kernel) (pa_cons (pe_ix (ixT K) (pv 5) pe_int (fun _ _ => rfl)) pa_nil)) pe_int) pa_nil))))
        (pss_one (ps_if (pt_cmpR (neD K hr.units) (pe_word (k := 5) (q := lawQ) G TY DW (by rfl) TB rfl rfl hr (LamX.lamS_by (by show LamX.lamSB (defScope s_law) _ = true; decide +kernel)) rfl (fun _ _ _ _ _ => rfl) (fun A outer s H E f c' hr => (pe_c c_showsX hr (by first | decide | omega) (by rfl) (passes_call (takes_of rfl rfl rfl rfl) (fun _ _ _ _ h => h)) (pa_cons (pv 3) (pa_cons (pv 4) (pa_cons (pe_op op_cat (pe_op op_cat (pe_slice (slL K) (pe_ix (ixT K) (pv 5) pe_int (fun _ _ => rfl)) po_none (po_some (pv 19))) (pe_lst (pa_cons (pv 18) pa_nil))) (pe_slice (slL K) (pe_ix (ixT K) (pv 5) pe_int (fun _ _ => rfl)) (po_some (pv 19)) po_none)) pa_nil)))))) (pe_tup (pa_cons pe_str (pa_cons pe_int pa_nil))) (nomark _))
          (pss_one (ps_ret pe_bl))
          pss_nil))))))))))
        pss_nil))))))
    (pss_one (ps_ret pe_bl))))), ?_⟩
  refine B.x_start (σ' := [some (.ref sc), none, none, none, none, none, none, none, none, none, none, none, none, none, none, none, none, none, none, none]) rfl ?_
  walk_at "go"
  intro r hr0
  have k1 : Kp No H (upd H r (.lst [.ref sc, .int 0, .int 0, .int 0])) := .new hr0
  have R1 : RowAt K (upd H r (.lst [.ref sc, .int 0, .int 0, .int 0])) r sc ns := ⟨⟨0, 0, 0, upd_same, by decide, by decide, by decide, by decide⟩, Kp.seqL k1 (fun z => z) hsc⟩
  have T1 := tabs_kp0 hT k1
  generalize upd H r (.lst [.ref sc, .int 0, .int 0, .int 0]) = H1 at *
  walk_at "go"
  refine ⟨rfl, fun H2 k2 => ?_⟩
  have R2 := R1.keep0 k2
  have T2 := tabs_kp0 T1 k2
  walk_at "go"
  refine fr_r (n := 3) (fun i σ H' => ∃ (o2 o3 o4 o5 o6 o9 o10 o11 o12 o13 o14 o17 o18 o19 : Option V), σ = lawS sc r o2 o3 o4 o5 o6 o9 o10 o11 o12 o13 o14 o17 o18 o19 ∧ RowAt K H' r sc ns ∧ LamX.Tabs [(Pt, lawQ)] H') ⟨_, _, _, _, _, _, _, _, _, _, _, _, _, _, rfl, R2, T2⟩ ?_ ?_
  · rintro i σ H3 hi ⟨o2, o3, o4, o5, o6, o9, o10, o11, o12, o13, o14, o17, o18, o19, rfl, R3, T3⟩
    walk_at "go"
    refine ⟨r, sc, ns, rfl, R3, fun t0 S0 d1 d2 M01 M02 H4 fS0 ok01 ok02 l01 l02 n01 n02 ht0 R4 k4 => ?_⟩
    have T4 := R3.tabs T3 k4
    refine x_glst (SqL.of ht0) rfl ?_
    walk_at "go"
    refine x_cut (fun σ H' => ∃ (S : Nat → Prop) (b1 b2 : NAd) (N1 N2 : Net), σ = lawS sc r (some (nt i)) (some (.ref b1.p)) (some (.ref b2.p)) o5 o6 o9 o10 o11 o12 o13 o14 o17 o18 o19 ∧ FewS S ∧ NetOk S N1 ∧ NetOk S N2 ∧ N1.cells.length ≤ 1900 ∧ N2.cells.length ≤ 1900 ∧ NetAt K H' b1 N1 ∧ NetAt K H' b2 N2 ∧ RowAt K H' r sc ns ∧ LamX.Tabs [(Pt, lawQ)] H') ?_ ?_
    · walk_at "go"
      refine ⟨r, sc, ns, 3, rfl, rfl, by decide, by decide, R4, fun v H5 hv R5 k5 => ?_⟩
      have T5 := R4.tabs T4 k5
      walk_at "go"
      refine x_ite (fun e => ?_) (fun e => ?_)
      · walk_at "go"
        refine ⟨r, sc, ns, rfl, rfl, rfl, R5, fun lo1 c1 M1 H6 m1 m2 m3 R6 k6 => ?_⟩
        have T6 := R5.tabs T5 k6
        walk_at "go"
        refine ⟨r, sc, ns, rfl, rfl, rfl, R6, fun lo2 c2 M2 H7 p1 p2 p3 R7 k7 => ?_⟩
        have T7 := R6.tabs T6 k7
        have m37 := m3.keep k7 R6.noTup
        walk_at "go"
        intro tt htt
        have k8 : Kp No H7 (upd H7 tt (.tup [.ref c1.p, .ref c2.p])) := .new htt
        walk_at "go"
        exact ⟨fun z => SN lo1 z ∨ SN lo2 z, c1, c2, M1, M2, rfl, few_SN lo1 lo2, m1.imp fun _ z => .inl z, p1.imp fun _ z => .inr z, by omega, by omega, m37.keep0 k8, p3.keep0 k8, R7.keep0 k8, tabs_kp0 T7 k8⟩
      · walk_at "go"
        exact ⟨S0, d1, d2, M01, M02, rfl, fS0, ok01, ok02, l01, l02, n01.keep k5 R4.noTup, n02.keep k5 R4.noTup, R5, T5⟩
    clear fS0 ok01 ok02 l01 l02 n01 n02 ht0 R4 k4 T4 R3 T3
    rintro σ H5 ⟨S, b1, b2, N1, N2, rfl, fS, ok1, ok2, l1, l2, n1, n2, R5, T5⟩
    walk_at "go"
    refine ⟨S, ?_⟩
    walk_at "go"
    refine ⟨b1, b2, N1, N2, rfl, rfl, rfl, n1, n2, fS, ok1, ok2, l1, l2, fun H6 k6 => ?_, fun t v l ads us H6 hln ht hl hps hsz hlen k6 => ?_⟩
    · walk_at "go"
      try refine x_no rfl ?_
      walk_at "go"
      exact ⟨_, _, _, _, _, _, _, _, _, _, _, _, _, _, rfl, R5.keep0 k6, tabs_kp0 T5 k6⟩
    have R6 := R5.keep0 k6
    have T6 := tabs_kp0 T5 k6
    have n16 := n1.keep0 k6
    have n26 := n2.keep0 k6
    have nl : l ≠ r := R5.new hln
    have b1900 : (laters N1.cells).length ≤ 1900 := Nat.le_trans (latersTo_len _ _) l1
    have b2900 : (laters N2.cells).length ≤ 1900 := Nat.le_trans (latersTo_len _ _) l2
    walk_at "go"
    try refine x_yes rfl ?_
    walk_at "go"
    intro tp htp
    have k7 : Kp No H6 (upd H6 tp (.tup [.ref b1.p, .ref b2.p])) := .new htp
    have htp7 : upd H6 tp (.tup [.ref b1.p, .ref b2.p]) tp = some (.tup [.ref b1.p, .ref b2.p]) := upd_same
    generalize upd H6 tp (.tup [.ref b1.p, .ref b2.p]) = H7 at *
    walk_at "go"
    refine lc_t [.ref b1.p, .ref b2.p] (fun D i H' => Kp No H7 H' ∧ H' D = some (.lst (([(laters N1.cells).length, (laters N2.cells).length].take i).map nt))) (fun D hD => ⟨.new hD, upd_same⟩) (fun D i H' _ z => SqT.of (z.1.at0 htp7)) ?_ ?_
    · rintro D j y H8 hD hy ⟨k8, g1⟩
      obtain ⟨na, Nx, rfl, hNx, hj2, few, hA0⟩ : ∃ (na : NAd) (Nx : Net), y = .ref na.p ∧ [(laters N1.cells).length, (laters N2.cells).length][j]? = some (laters Nx.cells).length ∧ j < 2 ∧ Nx.cells.length ≤ 1900 ∧ ∀ {H' : Hp}, Kp No H6 H' → NetAt K H' na Nx := by
        match j, hy with
        | 0, hy => cases hy; exact ⟨b1, N1, rfl, rfl, by decide, l1, fun k => n16.keep0 k⟩
        | 1, hy => cases hy; exact ⟨b2, N2, rfl, rfl, by decide, l2, fun k => n26.keep0 k⟩
      have hA := hA0 (k7.trans k8)
      have top := hA.top
      have cs := hA.cs
      have hlc := hA.cl.len
      walk_at "go"
      refine ⟨rfl, ?_⟩
      walk_at "go"
      refine lc_t (na.ca.map V.ref) (fun D2 m H' => Kp No H8 H' ∧ ∃ xs, H' D2 = some (.lst xs) ∧ xs.length = (latersTo Nx.cells m).length) (fun D2 hD2 => ⟨.new hD2, [], upd_same, rfl⟩) (fun D2 m H' _ z => Kp.sqt z.1 .no cs) ?_ ?_
      · rintro D2 m y H9 hD2 hy2 ⟨k9, xs, f1, f2⟩
        rw [List.getElem?_map, Option.map_eq_some_iff] at hy2
        obtain ⟨ad, had, rfl⟩ := hy2
        have hm : m < Nx.cells.length := by rw [← hlc]; exact (List.getElem?_eq_some_iff.mp had).1
        obtain ⟨c0, hc0⟩ : ∃ c0, Nx.cells[m]? = some c0 := ⟨Nx.cells[m], List.getElem?_eq_getElem hm⟩
        have hrow := k9.at0 (hA.cl.row m ad c0 had hc0)
        have z0 : atI c0.vals 0 = some (.str c0.nm) := atI_nat (j := 0) rfl
        have lt := latersTo_len Nx.cells m
        walk_at "go"
        refine ⟨rfl, ?_⟩
        walk_at "go"
        rcases isL_nm c0 with ⟨e2, e3⟩ | ⟨e2, e3⟩
        · refine x_yes (by simp [e3]) ?_
          walk_at "go"
          refine ⟨xs, f1, by rw [sizeLine_eq]; omega, k9.old hD2, xs ++ [.ref ad], upd_same, ?_⟩
          rw [laters_one hc0, e2, List.length_append, List.length_append, f2]
          rfl
        · refine x_no (by simp [e3]) ?_
          refine ⟨k9, xs, f1, ?_⟩
          rw [laters_one hc0, e2, f2]
          simp
      · rintro D2 H9 hD2 ⟨k9, xs, f1, f2⟩
        rw [List.length_map, hlc] at f2
        have g19 := k9.at0 g1
        walk_at "go"
        refine ⟨_, g19, by rw [List.length_map, List.length_take, sizeLine_eq]; simp; omega, (k8.trans k9).old hD, ?_⟩
        rw [upd_same, take_one hNx, List.map_append, f2]
        rfl
    rintro zs H8 hzsn ⟨k8, hz⟩
    replace hz : H8 zs = some (.lst [nt (laters N1.cells).length, nt (laters N2.cells).length]) := hz
    have k68 := k7.trans k8
    have R8 := R6.keep0 k68
    have T8 := tabs_kp0 T6 k68
    have hl8 := k68.at0 hl
    have ht8 := k68.at0 ht
    have hps8 := hps.keep0 k68
    have n18 := n16.keep0 k68
    have n28 := n26.keep0 k68
    have nz : zs ≠ r := R8.ne_two hz
    have ix1 : atI [v, V.ref l] 1 = some (.ref l) := rfl
    clear n1 n2 R5 T5 R6 T6 hl ht hps n16 n26 htp7 htp
    walk_at "go"
    refine fr_r (n := 3) (fun j σ H' => ∃ (o9 o10 o11 o12 o13 : Option V), σ = lawS sc r (some (nt i)) (some (.ref b1.p)) (some (.ref b2.p)) (some (.ref t)) (some (.ref zs)) o9 o10 o11 o12 o13 o14 o17 o18 o19 ∧ RowAt K H' r sc ns ∧ KR r H8 H') ⟨_, _, _, _, _, rfl, R8, .refl _⟩ ?_ ?_
    · rintro j σ H9 hj ⟨o9, o10, o11, o12, o13, rfl, R9, k9⟩
      have ht9 := Kp.tup k9 R8.noTup ht8
      have hl9 := k9.at hl8 nl
      walk_at "go"
      refine ⟨r, sc, ns, 4, rfl, rfl, by decide, by decide, R9, fun v4 H10 hv4 R10 k10 => ?_⟩
      have k810 := k9.trans k10
      walk_at "go"
      refine fr_r (n := v4) (fun m σ H' => ∃ (o11 : Option V) (pa : Addr) (pads : List Addr) (pus : List Two), σ = lawS sc r (some (nt i)) (some (.ref b1.p)) (some (.ref b2.p)) (some (.ref t)) (some (.ref zs)) (some (nt j)) (some (.ref pa)) o11 o12 o13 o14 o17 o18 o19 ∧ H' pa = some (.lst (pads.map V.ref)) ∧ PsAt K H' pads pus ∧ (∀ u ∈ pus, Sized N1 N2 u) ∧ pus.length ≤ 60 + m ∧ RowAt K H' r sc ns ∧ KR r H8 H') ⟨_, l, ads, us, rfl, k810.at hl8 nl, hps8.keep k810 R8.noTup, hsz, by omega, R10, k810⟩ ?_ ?_
      · rintro m σ H11 hm ⟨o11, pa, pads, pus, rfl, g1, g2, g3, g4, R11, k11⟩
        have hz11 := k11.at hz nz
        walk_at "go"
        refine ⟨r, sc, ns, pa, zs, pads, pus, N1, N2, rfl, rfl, rfl, R11, g1, g2, by omega, g3, hz11, b1900, b2900, fun F ads' us' H12 hF h1 h2 h3 h4 R12 k12 => ?_⟩
        walk_at "go"
        exact ⟨_, F, ads', us', rfl, h1, h2, h4, by omega, R12, k11.trans k12⟩
      · rintro σ H11 ⟨o11, pa, pads, pus, rfl, g1, g2, g3, g4, R11, k11⟩
        have n111 := n18.keep k11 R8.noTup
        have n211 := n28.keep k11 R8.noTup
        walk_at "go"
        intro ha hha
        have k12 : Kp No H11 (upd H11 ha (.lst (pads.map V.ref))) := .new hha
        have hh12 : upd H11 ha (.lst (pads.map V.ref)) ha = some (.lst (pads.map V.ref)) := upd_same
        generalize upd H11 ha (.lst (pads.map V.ref)) = H12 at *
        walk_at "go"
        refine ⟨S, ?_⟩
        walk_at "go"
        refine ⟨b1, b2, N1, N2, ha, pads, pus, rfl, rfl, rfl, n111.keep0 k12, n211.keep0 k12, fS, ok1, ok2, l1, l2, hh12, g2.keep0 k12, by omega, g3, fun r1 H13 hr1 k13 => ?_⟩
        have k1113 := k12.trans k13
        walk_at "go"
        refine ⟨S, ?_⟩
        walk_at "go"
        refine ⟨b1, b2, N1, N2, pa, pads, pus, rfl, rfl, rfl, n111.keep0 k1113, n211.keep0 k1113, fS, ok1, ok2, l1, l2, k1113.at0 g1, g2.keep0 k1113, by omega, g3, fun r2 H14 hr2 k14 => ?_⟩
        obtain rfl : r1 = r2 := by
          cases r1 <;> cases r2
          · rfl
          · exact absurd (hr1.mpr (hr2.mp rfl)) (by decide)
          · exact absurd (hr2.mpr (hr1.mp rfl)) (by decide)
          · rfl
        walk_at "go"
        refine x_no (by simp) ?_
        walk_at "go"
        obtain ⟨items, i1, i2, i3⟩ := (g2.keep0 (k1113.trans k14)).items
        refine x_neSameLev (SqL.of (by rw [i1]; exact (k13.trans k14).at0 hh12)) i3 (SqL.of (by rw [i1]; exact (k1113.trans k14).at0 g1)) ?_
        walk_at "go"
        exact ⟨_, _, _, _, _, rfl, R11.keep0 (k1113.trans k14), k11.trans (k1113.trans k14).of0⟩
    rintro σ H9 ⟨o9, o10, o11, o12, o13, rfl, R9, k9⟩
    have hz9 := k9.at hz nz
    walk_at "go"
    have T9 := R8.tabs T8 k9
    obtain ⟨m1, em1⟩ : ∃ m1, m1 = (laters N1.cells).length := ⟨_, rfl⟩
    obtain ⟨m2, em2⟩ : ∃ m2, m2 = (laters N2.cells).length := ⟨_, rfl⟩
    rw [← em1] at b1900
    rw [← em2] at b2900
    rw [← em1, ← em2] at hz9
    refine lc_l [nt m1, nt m2] (fun D i H' => RowAt K H' r sc ns ∧ KR r H9 H' ∧ D ≠ r ∧ ∃ nads : List Addr, H' D = some (.lst (nads.map V.ref)) ∧ nads.length = i ∧ ∀ (j m : Nat) (t : Addr), nads[j]? = some t → [m1, m2][j]? = some m → ∃ bs : List Bool, bs.length = m ∧ SqT K H' t (bs.map bt)) (fun D hD => ⟨R9.keep0 (.new hD), .new hD, R9.new hD, [], upd_same, rfl, fun j m t h => by simp at h⟩) (fun D i H' _ z => SqL.of (z.2.1.at hz9 nz)) ?_ ?_
    · rintro D j y H10 hD hy ⟨R10, k10, nD, nads, g1, g2, g3⟩
      have hj2 : j < 2 := (List.getElem?_eq_some_iff.mp hy).1
      obtain ⟨m, rfl, hm, hm2⟩ : ∃ m : Nat, y = nt m ∧ [m1, m2][j]? = some m ∧ m ≤ 1900 := by
        match j, hy with
        | 0, hy => cases hy; exact ⟨m1, rfl, rfl, b1900⟩
        | 1, hy => cases hy; exact ⟨m2, rfl, rfl, b2900⟩
      walk_at "go"
      refine ⟨rfl, ?_⟩
      walk_at "go"
      refine lc_r (n := m) (fun D2 k H' => RowAt K H' r sc ns ∧ KR r H10 H' ∧ D2 ≠ r ∧ ∃ bs : List Bool, H' D2 = some (.lst (bs.map bt)) ∧ bs.length = k) (fun D2 hD2 => ⟨R10.keep0 (.new hD2), .new hD2, R10.new hD2, [], upd_same, rfl⟩) ?_ ?_
      · rintro D2 k H11 hD2 hk ⟨R11, k11, nD2, bs, f1, f2⟩
        walk_at "go"
        refine ⟨rfl, ?_⟩
        walk_at "go"
        refine ⟨r, sc, ns, 2, rfl, rfl, by decide, by decide, R11, fun v2 H12 hv2 R12 k12 => ?_⟩
        have f14 := k12.at f1 nD2
        rw [bit_of hv2]
        refine ⟨_, f14, by rw [List.length_map, sizeLine_eq]; omega, RowAt.setF R10 hD2 R12 nD2, (k11.trans k12).old hD2, nD2, bs ++ [decide (v2 = 1)], by rw [upd_same, List.map_append]; rfl, by simp [f2]⟩
      · rintro D2 H11 hD2 ⟨R11, k11, nD2, bs, f1, f2⟩
        have g13 := k11.at g1 nD
        walk_at "go"
        intro tt htt
        have k12 : Kp No H11 (upd H11 tt (.tup (bs.map bt))) := .new htt
        have ht4 : SqT K (upd H11 tt (.tup (bs.map bt))) tt (bs.map bt) := SqT.of upd_same
        have g14 := k12.at0 g13
        have R12 := R11.keep0 k12
        have k24 := k11.trans k12.of0
        have ntr := R10.noTup
        generalize upd H11 tt (.tup (bs.map bt)) = H12 at *
        have kD : Kp (fun z => z = D) H12 (upd H12 D (.lst (nads.map V.ref ++ [.ref tt]))) := .set rfl
        refine ⟨_, g14, by rw [List.length_map, sizeLine_eq]; omega, RowAt.setF R9 hD R12 nD, (k10.trans k24).old hD, nD, nads ++ [tt], by rw [upd_same, List.map_append]; rfl, by simp [g2], fun j' m' t' h1 h2 => ?_⟩
        rcases Nat.lt_trichotomy j' j with z | z | z
        · rw [List.getElem?_append_left (by omega)] at h1
          obtain ⟨bs', c1, c2⟩ := g3 j' m' t' h1 h2
          exact ⟨bs', c1, Kp.sqt kD (noTup_lst g14) (Kp.sqt k24 ntr c2)⟩
        · subst z
          rw [List.getElem?_append_right (by omega), g2, Nat.sub_self] at h1
          cases h1
          rw [hm] at h2
          cases h2
          exact ⟨bs, f2, Kp.sqt kD (noTup_lst g14) ht4⟩
        · rw [List.getElem?_eq_none (by simp; omega)] at h1
          cases h1
    rintro Bl H10 hBl ⟨R10, k10, nBl, nads, g1, g2, g3⟩
    obtain ⟨t1, t2, rfl⟩ : ∃ t1 t2, nads = [t1, t2] := by
      match nads, g2 with
      | [t1, t2], _ => exact ⟨t1, t2, rfl⟩
    obtain ⟨bs1, e1l, c1⟩ := g3 0 m1 t1 rfl rfl
    obtain ⟨bs2, e2l, c2⟩ := g3 1 m2 t2 rfl rfl
    have hB : H10 Bl = some (.lst [.ref t1, .ref t2]) := g1
    have k810 := k9.trans k10
    clear g1 g2 g3 hz9
    have j0 : atI [V.ref t1, .ref t2] 0 = some (.ref t1) := rfl
    have j1 : atI [V.ref t1, .ref t2] 1 = some (.ref t2) := rfl
    walk_at "go"
    intro e0 he0
    have q0 : Kp No H10 (upd H10 e0 (.tup [.ref t1])) := .new he0
    have s0' : upd H10 e0 (.tup [.ref t1]) e0 = some (.tup [.ref t1]) := upd_same
    generalize upd H10 e0 (.tup [.ref t1]) = X0 at *
    have hB0 := q0.at0 hB
    walk_at "go"
    intro z1 hz1
    have q1 : Kp No X0 (upd X0 z1 (.tup [.int 0])) := .new hz1
    refine x_catA (Kp.sqt (q0.trans q1) .no c2) (SqT.of upd_same) (by rw [List.length_map]; simp; omega) fun p1 X1 hp1 y1 => ?_
    have q1' : Kp No X0 X1 := q1.trans fun x o e _ => y1 x o e
    clear q1
    have w1 := q0.trans q1'
    have hB1 := w1.at0 hB
    walk_at "go"
    intro e1 he1
    have q2 : Kp No X1 (upd X1 e1 (.tup [.ref t1, .ref p1])) := .new he1
    have s1 : upd X1 e1 (.tup [.ref t1, .ref p1]) e1 = some (.tup [.ref t1, .ref p1]) := upd_same
    generalize upd X1 e1 (.tup [.ref t1, .ref p1]) = X2 at *
    have w2 := w1.trans q2
    have hB2 := w2.at0 hB
    walk_at "go"
    intro z2 hz2
    have q3 : Kp No X2 (upd X2 z2 (.tup [.int 2])) := .new hz2
    refine x_catA (Kp.sqt (w2.trans q3) .no c1) (SqT.of upd_same) (by rw [List.length_map]; simp; omega) fun p2 X3 hp2 y3 => ?_
    have q3' : Kp No X2 X3 := q3.trans fun x o e _ => y3 x o e
    clear q3
    have w3 := w2.trans q3'
    have hB3 := w3.at0 hB
    walk_at "go"
    intro e2 he2
    have q4 : Kp No X3 (upd X3 e2 (.tup [.ref p2, .ref t2])) := .new he2
    have s2 : upd X3 e2 (.tup [.ref p2, .ref t2]) e2 = some (.tup [.ref p2, .ref t2]) := upd_same
    generalize upd X3 e2 (.tup [.ref p2, .ref t2]) = X4 at *
    have w4 := w3.trans q4
    have hB4 := w4.at0 hB
    walk_at "go"
    intro e3 he3
    have q5 : Kp No X4 (upd X4 e3 (.tup [.ref t1, .int 0])) := .new he3
    have s3 : upd X4 e3 (.tup [.ref t1, .int 0]) e3 = some (.tup [.ref t1, .int 0]) := upd_same
    generalize upd X4 e3 (.tup [.ref t1, .int 0]) = X5 at *
    walk_at "go"
    intro od0 hod0
    have q6 : Kp No X5 (upd X5 od0 (.lst [.ref e0, .ref e1, .ref e2, .ref e3, .int 0])) := .new hod0
    have so0 : upd X5 od0 (.lst [.ref e0, .ref e1, .ref e2, .ref e3, .int 0]) od0 = some (.lst [.ref e0, .ref e1, .ref e2, .ref e3, .int 0]) := upd_same
    generalize upd X5 od0 (.lst [.ref e0, .ref e1, .ref e2, .ref e3, .int 0]) = X6 at *
    have w6 := w4.trans (q5.trans q6)
    have hB6 := w6.at0 hB
    walk_at "go"
    intro z3 hz3
    have q7 : Kp No X6 (upd X6 z3 (.tup [.bl true])) := .new hz3
    have s7 : SqT K (upd X6 z3 (.tup [.bl true])) z3 [.bl true] := SqT.of upd_same
    generalize upd X6 z3 (.tup [.bl true]) = X7 at *
    have w7 := w6.trans q7
    have hB7 := w7.at0 hB
    walk_at "go"
    refine x_slTail (Kp.sqt w7 .no c1) fun p4 X8 hp4 q8 => ?_
    refine x_catA (Kp.sqt q8 .no s7) hp4 (by rw [List.length_drop, List.length_map]; simp; omega) fun p5 X9 hp5 y9 => ?_
    have q9 : Kp No X7 X9 := q8.trans fun x o e _ => y9 x o e
    clear hp4 q8 y9
    have w9 := w7.trans q9
    have hB9 := w9.at0 hB
    walk_at "go"
    intro e5 he5
    have q10 : Kp No X9 (upd X9 e5 (.tup [.ref p5, .ref t2])) := .new he5
    have s5 : upd X9 e5 (.tup [.ref p5, .ref t2]) e5 = some (.tup [.ref p5, .ref t2]) := upd_same
    generalize upd X9 e5 (.tup [.ref p5, .ref t2]) = X10 at *
    have w10 := w9.trans q10
    have hB10 := w10.at0 hB
    walk_at "go"
    intro z6 hz6
    have q11 : Kp No X10 (upd X10 z6 (.tup [])) := .new hz6
    have s11 : upd X10 z6 (.tup []) z6 = some (.tup []) := upd_same
    generalize upd X10 z6 (.tup []) = X11 at *
    walk_at "go"
    intro e6 he6
    have q12 : Kp No X11 (upd X11 e6 (.tup [.ref t1, .ref t2, .ref z6])) := .new he6
    have s6 : upd X11 e6 (.tup [.ref t1, .ref t2, .ref z6]) e6 = some (.tup [.ref t1, .ref t2, .ref z6]) := upd_same
    generalize upd X11 e6 (.tup [.ref t1, .ref t2, .ref z6]) = X12 at *
    have w12 := w10.trans (q11.trans q12)
    have hB12 := w12.at0 hB
    walk_at "go"
    intro z7 hz7
    have q13 : Kp No X12 (upd X12 z7 (.tup [.int 0])) := .new hz7
    refine x_catA (Kp.sqt (w12.trans q13) .no c1) (SqT.of upd_same) (by rw [List.length_map]; simp; omega) fun p7 X13 hp7 y13 => ?_
    have q13' : Kp No X12 X13 := q13.trans fun x o e _ => y13 x o e
    clear q13 y13
    have w13 := w12.trans q13'
    have hB13 := w13.at0 hB
    walk_at "go"
    intro e7 he7
    have q14 : Kp No X13 (upd X13 e7 (.tup [.ref p7, .ref t2])) := .new he7
    have s7' : upd X13 e7 (.tup [.ref p7, .ref t2]) e7 = some (.tup [.ref p7, .ref t2]) := upd_same
    generalize upd X13 e7 (.tup [.ref p7, .ref t2]) = X14 at *
    walk_at "go"
    intro ol hol
    have q15 : Kp No X14 (upd X14 ol (.lst [.ref e5, .ref e6, .ref e7])) := .new hol
    have so1 : upd X14 ol (.lst [.ref e5, .ref e6, .ref e7]) ol = some (.lst [.ref e5, .ref e6, .ref e7]) := upd_same
    generalize upd X14 ol (.lst [.ref e5, .ref e6, .ref e7]) = X15 at *
    have t14 := q15
    have t13 := q14.trans t14
    have t12 := q13'.trans t13
    have t11 := q12.trans t12
    have t10 := q11.trans t11
    have t9 := q10.trans t10
    have t7 := q9.trans t9
    have t6 := q7.trans t7
    refine ⟨od0, ol, _, _, rfl, rfl, t6.at0 so0, so1, by rw [sizeLine_eq]; simp, fun od hod => ?_⟩
    have q16 : Kp No X15 (upd X15 od (.lst ([.ref e0, .ref e1, .ref e2, .ref e3, .int 0] ++ [.ref e5, .ref e6, .ref e7]))) := .new hod
    have so : upd X15 od (.lst ([.ref e0, .ref e1, .ref e2, .ref e3, .int 0] ++ [.ref e5, .ref e6, .ref e7])) od = some (.lst [.ref e0, .ref e1, .ref e2, .ref e3, .int 0, .ref e5, .ref e6, .ref e7]) := upd_same
    have t5 := q6.trans t6
    have t4 := q5.trans t5
    have t3 := q4.trans t4
    have t2' := q3'.trans t3
    have t1' := q2.trans t2'
    have t0 := q1'.trans t1'
    have tt := q0.trans t0
    have R15 := R10.keep0 tt
    have nod : od ≠ r := R15.new hod
    generalize upd X15 od (.lst ([.ref e0, .ref e1, .ref e2, .ref e3, .int 0] ++ [.ref e5, .ref e6, .ref e7])) = X16 at *
    have R16 := R15.keep0 q16
    have kall := tt.trans q16
    have hodds : ∀ v ∈ [V.ref e0, .ref e1, .ref e2, .ref e3, .int 0, .ref e5, .ref e6, .ref e7], OddSh K X16 m1 m2 v :=
      odds e1l e2l b1900 b2900 (Kp.sqt kall .no c1) (Kp.sqt kall .no c2) (SqT.of ((t0.trans q16).at0 s0')) (SqT.of ((t2'.trans q16).at0 s1)) (Kp.sqt (t1'.trans q16) .no hp1) (SqT.of ((t4.trans q16).at0 s2)) (Kp.sqt (t3.trans q16) .no hp2) (SqT.of ((t5.trans q16).at0 s3))
        (SqT.of ((t10.trans q16).at0 s5)) (Kp.sqt (t9.trans q16) .no hp5) (SqT.of ((t12.trans q16).at0 s6)) (SqT.of ((t11.trans q16).at0 s11)) (SqT.of ((t14.trans q16).at0 s7')) (Kp.sqt (t13.trans q16) .no hp7)
    have hB16 := kall.at0 hB
    have c116 := Kp.sqt kall .no c1
    have k816 := k810.trans kall.of0
    clear t0 t1' t2' t3 t4 t5 t6 t7 t9 t10 t11 t12 t13 t14 tt kall hB0 hB1 hB2 hB3 hB4 hB6 hB7 hB9 hB10 hB12 hB13 w1 w2 w3 w4 w6 w7 w9 w10 w12 w13 hp1 hp2 hp5 hp7 s0' s1 s2 s3 s5 s6 s7' s11 so0 so1 s7 hB c1 c2 y1 y3
    obtain ⟨L8, hL8⟩ : ∃ L8, L8 = [V.ref e0, .ref e1, .ref e2, .ref e3, .int 0, .ref e5, .ref e6, .ref e7] := ⟨_, rfl⟩
    have hlen8 : L8.length = 8 := by rw [hL8]; rfl
    have h5 : atI L8 5 = some (.ref e5) := by rw [hL8]; rfl
    have h5m : V.ref e5 ∈ L8 := by rw [hL8]; simp
    rw [← hL8] at so hodds
    walk_at "go"
    refine ⟨r, sc, ns, 8, rfl, rfl, by decide, by decide, R16, fun v8 H18 hv8 R18 k18 => ?_⟩
    have hodds18 : ∀ v ∈ L8, OddSh K H18 m1 m2 v := fun v hv => (hodds v hv).keep k18 R16.noTup
    have so18 := k18.at so nod
    have hB18 := k18.at hB16 nBl
    have c118 := Kp.sqt k18 R16.noTup c116
    have k818 := k816.trans k18
    obtain ⟨vb, hvb⟩ : ∃ vb, L8[v8]? = some vb := ⟨L8[v8]'(by omega), List.getElem?_eq_getElem _⟩
    have hvm := List.mem_of_getElem? hvb
    have ixb : atI L8 (v8 : Int) = some vb := atI_nat (j := v8) hvb
    walk_at "go"
    refine x_cut (fun σ H' => ∃ vc : V, σ = lawS sc r (some (nt i)) (some (.ref b1.p)) (some (.ref b2.p)) (some (.ref t)) (some (.ref zs)) o9 o10 o11 o12 o13 (some (.ref Bl)) (some (.ref od)) (some vc) o19 ∧ BadP K H' m1 m2 vc ∧ RowAt K H' r sc ns ∧ KR r H8 H') ?_ ?_
    · obtain ⟨dd, hd1, hd2⟩ := (hodds18 vb hvm).dp
      obtain ⟨d5, hd3, hd4⟩ := (hodds18 _ h5m).dp
      have hbad18 := (hodds18 vb hvm).1
      have f1 : (bs1.map bt).all okF = true := ok_bt bs1
      walk_at "go"
      refine ⟨dd, d5, hd1, hd3, hd2, hd4, ?_⟩
      walk_at "go"
      refine x_ite (fun e => ?_) (fun e => ?_)
      · walk_at "go"
        intro z9 hz9
        have k19 : Kp No H18 (upd H18 z9 (.tup [])) := .new hz9
        refine x_eqNilT (Kp.sqt k19 .no c118) (SqT.of upd_same) f1 ?_
        walk_at "go"
        refine x_ite (fun e => ?_) (fun e => ?_)
        · walk_at "go"
          exact ⟨.int 0, rfl, .inl ⟨0, rfl⟩, R18.keep0 k19, k818.trans k19.of0⟩
        · walk_at "go"
          exact ⟨vb, rfl, hbad18.keep0 k19, R18.keep0 k19, k818.trans k19.of0⟩
      · walk_at "go"
        exact ⟨vb, rfl, hbad18, R18, k818⟩
    clear hodds hodds18 so so18 hB16 hB18 c116 c118 R18 k818 R16 k816 R10 k810
    rintro σ H19 ⟨vc, rfl, hbad, R19, k19⟩
    have ht19 := Kp.tup k19 R8.noTup ht8
    have hl19 := k19.at hl8 nl
    have hlen1 := hps8.len
    walk_at "go"
    refine ⟨r, sc, ns, us.length + 1, rfl, by rw [List.length_map, hlen1]; exact congrArg V.int (by omega), by omega, by omega, R19, fun at_ H20 hat R20 k20 => ?_⟩
    have k820 := k19.trans k20
    have T20 := R8.tabs T8 k820
    have hbad20 := hbad.keep k20 R19.noTup
    walk_at "go"
    refine ⟨T20, fun H21 ext T21 => ?_⟩
    have kx := ext_kp ext
    have nx := noTup_tb H20
    have n121 := (n18.keep k820 R8.noTup).keep kx nx
    have n221 := (n28.keep k820 R8.noTup).keep kx nx
    have hps21 := (hps8.keep k820 R8.noTup).keep kx nx
    have hbad21 := hbad20.keep kx nx
    have ht21 := ext_tup ext (Kp.tup k820 R8.noTup ht8)
    have hl21 := ext_lst ext (k820.at hl8 nl)
    have R21 := R20.ext ext
    have xl : (ads.map V.ref).length = us.length := by rw [List.length_map, hlen1]
    dsimp only [TWord]
    walk_at "go"
    intro s1 hs1
    rw [cut_take]
    have u1 : Kp No H21 (upd H21 s1 (.lst ((ads.map V.ref).take at_))) := .new hs1
    have v1 : upd H21 s1 (.lst ((ads.map V.ref).take at_)) s1 = some (.lst ((ads.map V.ref).take at_)) := upd_same
    generalize upd H21 s1 (.lst ((ads.map V.ref).take at_)) = Y1 at *
    walk_at "go"
    intro s2 hs2
    have u2 : Kp No Y1 (upd Y1 s2 (.lst [vc])) := .new hs2
    refine ⟨s1, s2, _, _, rfl, rfl, u2.at0 v1, upd_same, by rw [List.length_take, xl, sizeLine_eq]; show _ + 1 ≤ _; omega, fun s3 hs3 => ?_⟩
    have u3 : Kp No H21 (upd (upd Y1 s2 (.lst [vc])) s3 (.lst ((ads.map V.ref).take at_ ++ [vc]))) := (u1.trans u2).trans (.new hs3)
    have v3 : upd (upd Y1 s2 (.lst [vc])) s3 (.lst ((ads.map V.ref).take at_ ++ [vc])) s3 = some (.lst ((ads.map V.ref).take at_ ++ [vc])) := upd_same
    generalize upd (upd Y1 s2 (.lst [vc])) s3 (.lst ((ads.map V.ref).take at_ ++ [vc])) = Y3 at *
    have hl3 := u3.at0 hl21
    have ht3 := u3.at0 ht21
    walk_at "go"
    intro s4 hs4
    rw [cut_drop]
    have u4 : Kp No Y3 (upd Y3 s4 (.lst ((ads.map V.ref).drop at_))) := .new hs4
    refine ⟨s3, s4, _, _, rfl, rfl, u4.at0 v3, upd_same, by rw [List.length_append, List.length_take, List.length_drop, xl, sizeLine_eq]; simp; omega, fun s5 hs5 => ?_⟩
    have u5 : Kp No H21 (upd (upd Y3 s4 (.lst ((ads.map V.ref).drop at_))) s5 (.lst ((ads.map V.ref).take at_ ++ [vc] ++ (ads.map V.ref).drop at_))) := (u3.trans u4).trans (.new hs5)
    have v5 : upd (upd Y3 s4 (.lst ((ads.map V.ref).drop at_))) s5 (.lst ((ads.map V.ref).take at_ ++ [vc] ++ (ads.map V.ref).drop at_)) s5 = some (.lst ((ads.take at_).map V.ref ++ vc :: (ads.map V.ref).drop at_)) := by rw [upd_same, List.append_assoc, List.map_take]; rfl
    generalize upd (upd Y3 s4 (.lst ((ads.map V.ref).drop at_))) s5 (.lst ((ads.map V.ref).take at_ ++ [vc] ++ (ads.map V.ref).drop at_)) = Y5 at *
    refine ⟨S, ?_⟩
    walk_at "go"
    rw [em1, em2] at hbad21
    refine ⟨b1, b2, N1, N2, s5, ads.take at_, us.take at_, vc, (ads.map V.ref).drop at_, rfl, rfl, rfl, n121.keep0 u5, n221.keep0 u5, ok1, ok2, l1, l2, v5, (hps21.keep0 u5).take at_, fun u hu => hsz u (List.mem_of_mem_take hu), hbad21.keep0 u5, fun Y6 k6' => ⟨rfl, rfl, fun p Y7 k7' hp7 => ?_⟩⟩
    have u7 := u5.trans (k6'.trans k7')
    walk_at "go"
    intro tq htq
    have u8 : Kp No Y7 (upd Y7 tq (.tup [.str "pairs", .int 0])) := .new htq
    refine x_neSameT (SqT.of (u8.at0 hp7)) (SqT.of upd_same) (by decide +kernel) ?_
    walk_at "go"
    exact ⟨_, _, _, _, _, _, _, _, _, _, _, _, _, _, rfl, R21.keep0 (u7.trans u8), tabs_kp0 T21 (u7.trans u8)⟩
  · rintro σ H3 ⟨o2, o3, o4, o5, o6, o9, o10, o11, o12, o13, o14, o17, o18, o19, rfl, R3, T3⟩
    walk_at "go"
    exact q H3
end
end K7
namespace K7
open PySem PySem.Spec PyProof.Rows L2 B N7
/-! ### the join -/
section
variable {w : World} {K : PySem.W.Frag} {h : Heap} {mg : Str → Option Value} {C f dF dC dS : Addr} {od an : Option Addr} {sl : Array (Option Value)} {oc kV dc pm cd ct : Value}
theorem d_is_number (X : K.In h) (G : h.Ns mainGlobals mg) (a : PySem.W.nsIn K mainGlobals "is_number" = some (some (.ref f))) (l : K.lookup f = some ⟨oc, od, .func (PySem.W.fnOf "is_number" "is_number" (defArgs s_is_number) (defBody s_is_number) (defScope s_is_number) .none kV dc pm an cd ct), sl⟩) (c : PySem.W.codeIn K cd "is_number" = true) (k : PySem.W.keepIn K (.ref f) = true) : Df K mg "is_number" s_is_number ["part", "low", "high"] := by
  have F := fun_mk (st := s_is_number) l c k
  exact ⟨f, _, F, PySem.W.mg_of X G a, F.binds (ps := ["part", "low", "high"]) fun _ _ _ _ _ _ us hl => match us, hl with | [_, _, _], _ => rfl⟩
theorem d_is_part (X : K.In h) (G : h.Ns mainGlobals mg) (a : PySem.W.nsIn K mainGlobals "is_part" = some (some (.ref f))) (l : K.lookup f = some ⟨oc, od, .func (PySem.W.fnOf "is_part" "is_part" (defArgs s_is_part) (defBody s_is_part) (defScope s_is_part) .none kV dc pm an cd ct), sl⟩) (c : PySem.W.codeIn K cd "is_part" = true) (k : PySem.W.keepIn K (.ref f) = true) : Df K mg "is_part" s_is_part ["part", "sort", "rows"] := by
  have F := fun_mk (st := s_is_part) l c k
  exact ⟨f, _, F, PySem.W.mg_of X G a, F.binds (ps := ["part", "sort", "rows"]) fun _ _ _ _ _ _ us hl => match us, hl with | [_, _, _], _ => rfl⟩
theorem d_is_row (X : K.In h) (G : h.Ns mainGlobals mg) (a : PySem.W.nsIn K mainGlobals "is_row" = some (some (.ref f))) (l : K.lookup f = some ⟨oc, od, .func (PySem.W.fnOf "is_row" "is_row" (defArgs s_is_row) (defBody s_is_row) (defScope s_is_row) .none kV dc pm an cd ct), sl⟩) (c : PySem.W.codeIn K cd "is_row" = true) (k : PySem.W.keepIn K (.ref f) = true) : Df K mg "is_row" s_is_row ["row", "rows"] := by
  have F := fun_mk (st := s_is_row) l c k
  exact ⟨f, _, F, PySem.W.mg_of X G a, F.binds (ps := ["row", "rows"]) fun _ _ _ _ _ _ us hl => match us, hl with | [_, _], _ => rfl⟩
theorem d_need_program (X : K.In h) (G : h.Ns mainGlobals mg) (a : PySem.W.nsIn K mainGlobals "need_program" = some (some (.ref f))) (l : K.lookup f = some ⟨oc, od, .func (PySem.W.fnOf "need_program" "need_program" (defArgs s_need_program) (defBody s_need_program) (defScope s_need_program) .none kV dc pm an cd ct), sl⟩) (c : PySem.W.codeIn K cd "need_program" = true) (k : PySem.W.keepIn K (.ref f) = true) : Df K mg "need_program" s_need_program ["program"] := by
  have F := fun_mk (st := s_need_program) l c k
  exact ⟨f, _, F, PySem.W.mg_of X G a, F.binds (ps := ["program"]) fun _ _ _ _ _ _ us hl => match us, hl with | [_], _ => rfl⟩
theorem d_made (X : K.In h) (G : h.Ns mainGlobals mg) (a : PySem.W.nsIn K mainGlobals "made" = some (some (.ref f))) (l : K.lookup f = some ⟨oc, od, .func (PySem.W.fnOf "made" "made" (defArgs s_made) (defBody s_made) (defScope s_made) .none kV dc pm an cd ct), sl⟩) (c : PySem.W.codeIn K cd "made" = true) (k : PySem.W.keepIn K (.ref f) = true) : Df K mg "made" s_made ["program"] := by
  have F := fun_mk (st := s_made) l c k
  exact ⟨f, _, F, PySem.W.mg_of X G a, F.binds (ps := ["program"]) fun _ _ _ _ _ _ us hl => match us, hl with | [_], _ => rfl⟩
theorem d_is_cell (X : K.In h) (G : h.Ns mainGlobals mg) (a : PySem.W.nsIn K mainGlobals "is_cell" = some (some (.ref f))) (l : K.lookup f = some ⟨oc, od, .func (PySem.W.fnOf "is_cell" "is_cell" (defArgs s_is_cell) (defBody s_is_cell) (defScope s_is_cell) .none kV dc pm an cd ct), sl⟩) (c : PySem.W.codeIn K cd "is_cell" = true) (k : PySem.W.keepIn K (.ref f) = true) : Df K mg "is_cell" s_is_cell ["cell", "number", "many"] := by
  have F := fun_mk (st := s_is_cell) l c k
  exact ⟨f, _, F, PySem.W.mg_of X G a, F.binds (ps := ["cell", "number", "many"]) fun _ _ _ _ _ _ us hl => match us, hl with | [_, _, _], _ => rfl⟩
theorem d_are_told (X : K.In h) (G : h.Ns mainGlobals mg) (a : PySem.W.nsIn K mainGlobals "are_told" = some (some (.ref f))) (l : K.lookup f = some ⟨oc, od, .func (PySem.W.fnOf "are_told" "are_told" (defArgs s_are_told) (defBody s_are_told) (defScope s_are_told) .none kV dc pm an cd ct), sl⟩) (c : PySem.W.codeIn K cd "are_told" = true) (k : PySem.W.keepIn K (.ref f) = true) : Df K mg "are_told" s_are_told ["pairs", "most", "many"] := by
  have F := fun_mk (st := s_are_told) l c k
  exact ⟨f, _, F, PySem.W.mg_of X G a, F.binds (ps := ["pairs", "most", "many"]) fun _ _ _ _ _ _ us hl => match us, hl with | [_, _, _], _ => rfl⟩
theorem d_need_net (X : K.In h) (G : h.Ns mainGlobals mg) (a : PySem.W.nsIn K mainGlobals "need_net" = some (some (.ref f))) (l : K.lookup f = some ⟨oc, od, .func (PySem.W.fnOf "need_net" "need_net" (defArgs s_need_net) (defBody s_need_net) (defScope s_need_net) .none kV dc pm an cd ct), sl⟩) (c : PySem.W.codeIn K cd "need_net" = true) (k : PySem.W.keepIn K (.ref f) = true) : Df K mg "need_net" s_need_net ["net"] := by
  have F := fun_mk (st := s_need_net) l c k
  exact ⟨f, _, F, PySem.W.mg_of X G a, F.binds (ps := ["net"]) fun _ _ _ _ _ _ us hl => match us, hl with | [_], _ => rfl⟩
theorem d_renumbered (X : K.In h) (G : h.Ns mainGlobals mg) (a : PySem.W.nsIn K mainGlobals "renumbered" = some (some (.ref f))) (l : K.lookup f = some ⟨oc, od, .func (PySem.W.fnOf "renumbered" "renumbered" (defArgs s_renumbered) (defBody s_renumbered) (defScope s_renumbered) .none kV dc pm an cd ct), sl⟩) (c : PySem.W.codeIn K cd "renumbered" = true) (k : PySem.W.keepIn K (.ref f) = true) : Df K mg "renumbered" s_renumbered ["net", "numbers"] := by
  have F := fun_mk (st := s_renumbered) l c k
  exact ⟨f, _, F, PySem.W.mg_of X G a, F.binds (ps := ["net", "numbers"]) fun _ _ _ _ _ _ us hl => match us, hl with | [_, _], _ => rfl⟩
theorem d_without (X : K.In h) (G : h.Ns mainGlobals mg) (a : PySem.W.nsIn K mainGlobals "without" = some (some (.ref f))) (l : K.lookup f = some ⟨oc, od, .func (PySem.W.fnOf "without" "without" (defArgs s_without) (defBody s_without) (defScope s_without) .none kV dc pm an cd ct), sl⟩) (c : PySem.W.codeIn K cd "without" = true) (k : PySem.W.keepIn K (.ref f) = true) : Df K mg "without" s_without ["net", "stay"] := by
  have F := fun_mk (st := s_without) l c k
  exact ⟨f, _, F, PySem.W.mg_of X G a, F.binds (ps := ["net", "stay"]) fun _ _ _ _ _ _ us hl => match us, hl with | [_, _], _ => rfl⟩
theorem d_merged (X : K.In h) (G : h.Ns mainGlobals mg) (a : PySem.W.nsIn K mainGlobals "merged" = some (some (.ref f))) (l : K.lookup f = some ⟨oc, od, .func (PySem.W.fnOf "merged" "merged" (defArgs s_merged) (defBody s_merged) (defScope s_merged) .none kV dc pm an cd ct), sl⟩) (c : PySem.W.codeIn K cd "merged" = true) (k : PySem.W.keepIn K (.ref f) = true) : Df K mg "merged" s_merged ["net"] := by
  have F := fun_mk (st := s_merged) l c k
  exact ⟨f, _, F, PySem.W.mg_of X G a, F.binds (ps := ["net"]) fun _ _ _ _ _ _ us hl => match us, hl with | [_], _ => rfl⟩
theorem d_needed (X : K.In h) (G : h.Ns mainGlobals mg) (a : PySem.W.nsIn K mainGlobals "needed" = some (some (.ref f))) (l : K.lookup f = some ⟨oc, od, .func (PySem.W.fnOf "needed" "needed" (defArgs s_needed) (defBody s_needed) (defScope s_needed) .none kV dc pm an cd ct), sl⟩) (c : PySem.W.codeIn K cd "needed" = true) (k : PySem.W.keepIn K (.ref f) = true) : Df K mg "needed" s_needed ["net"] := by
  have F := fun_mk (st := s_needed) l c k
  exact ⟨f, _, F, PySem.W.mg_of X G a, F.binds (ps := ["net"]) fun _ _ _ _ _ _ us hl => match us, hl with | [_], _ => rfl⟩
theorem d_trimmed (X : K.In h) (G : h.Ns mainGlobals mg) (a : PySem.W.nsIn K mainGlobals "trimmed" = some (some (.ref f))) (l : K.lookup f = some ⟨oc, od, .func (PySem.W.fnOf "trimmed" "trimmed" (defArgs s_trimmed) (defBody s_trimmed) (defScope s_trimmed) .none kV dc pm an cd ct), sl⟩) (c : PySem.W.codeIn K cd "trimmed" = true) (k : PySem.W.keepIn K (.ref f) = true) : Df K mg "trimmed" s_trimmed ["net"] := by
  have F := fun_mk (st := s_trimmed) l c k
  exact ⟨f, _, F, PySem.W.mg_of X G a, F.binds (ps := ["net"]) fun _ _ _ _ _ _ us hl => match us, hl with | [_], _ => rfl⟩
theorem d_memories (X : K.In h) (G : h.Ns mainGlobals mg) (a : PySem.W.nsIn K mainGlobals "memories" = some (some (.ref f))) (l : K.lookup f = some ⟨oc, od, .func (PySem.W.fnOf "memories" "memories" (defArgs s_memories) (defBody s_memories) (defScope s_memories) .none kV dc pm an cd ct), sl⟩) (c : PySem.W.codeIn K cd "memories" = true) (k : PySem.W.keepIn K (.ref f) = true) : Df K mg "memories" s_memories ["net"] := by
  have F := fun_mk (st := s_memories) l c k
  exact ⟨f, _, F, PySem.W.mg_of X G a, F.binds (ps := ["net"]) fun _ _ _ _ _ _ us hl => match us, hl with | [_], _ => rfl⟩
theorem d_used (X : K.In h) (G : h.Ns mainGlobals mg) (a : PySem.W.nsIn K mainGlobals "used" = some (some (.ref f))) (l : K.lookup f = some ⟨oc, od, .func (PySem.W.fnOf "used" "used" (defArgs s_used) (defBody s_used) (defScope s_used) .none kV dc pm an cd ct), sl⟩) (c : PySem.W.codeIn K cd "used" = true) (k : PySem.W.keepIn K (.ref f) = true) : Df K mg "used" s_used ["net"] := by
  have F := fun_mk (st := s_used) l c k
  exact ⟨f, _, F, PySem.W.mg_of X G a, F.binds (ps := ["net"]) fun _ _ _ _ _ _ us hl => match us, hl with | [_], _ => rfl⟩
theorem d_gate (X : K.In h) (G : h.Ns mainGlobals mg) (a : PySem.W.nsIn K mainGlobals "gate" = some (some (.ref f))) (l : K.lookup f = some ⟨oc, od, .func (PySem.W.fnOf "gate" "gate" (defArgs s_gate) (defBody s_gate) (defScope s_gate) .none kV dc pm an cd ct), sl⟩) (c : PySem.W.codeIn K cd "gate" = true) (k : PySem.W.keepIn K (.ref f) = true) : Df K mg "gate" s_gate ["word", "one", "other"] := by
  have F := fun_mk (st := s_gate) l c k
  exact ⟨f, _, F, PySem.W.mg_of X G a, F.binds (ps := ["word", "one", "other"]) fun _ _ _ _ _ _ us hl => match us, hl with | [_, _, _], _ => rfl⟩
theorem d_beat_of (X : K.In h) (G : h.Ns mainGlobals mg) (a : PySem.W.nsIn K mainGlobals "beat_of" = some (some (.ref f))) (l : K.lookup f = some ⟨oc, od, .func (PySem.W.fnOf "beat_of" "beat_of" (defArgs s_beat_of) (defBody s_beat_of) (defScope s_beat_of) .none kV dc pm an cd ct), sl⟩) (c : PySem.W.codeIn K cd "beat_of" = true) (k : PySem.W.keepIn K (.ref f) = true) : Df K mg "beat_of" s_beat_of ["cells", "kept", "bits", "is_first"] := by
  have F := fun_mk (st := s_beat_of) l c k
  exact ⟨f, _, F, PySem.W.mg_of X G a, F.binds (ps := ["cells", "kept", "bits", "is_first"]) fun _ _ _ _ _ _ us hl => match us, hl with | [_, _, _, _], _ => rfl⟩
theorem d_are_bits (X : K.In h) (G : h.Ns mainGlobals mg) (a : PySem.W.nsIn K mainGlobals "are_bits" = some (some (.ref f))) (l : K.lookup f = some ⟨oc, od, .func (PySem.W.fnOf "are_bits" "are_bits" (defArgs s_are_bits) (defBody s_are_bits) (defScope s_are_bits) .none kV dc pm an cd ct), sl⟩) (c : PySem.W.codeIn K cd "are_bits" = true) (k : PySem.W.keepIn K (.ref f) = true) : Df K mg "are_bits" s_are_bits ["part", "many"] := by
  have F := fun_mk (st := s_are_bits) l c k
  exact ⟨f, _, F, PySem.W.mg_of X G a, F.binds (ps := ["part", "many"]) fun _ _ _ _ _ _ us hl => match us, hl with | [_, _], _ => rfl⟩
theorem d_need_pairs (X : K.In h) (G : h.Ns mainGlobals mg) (a : PySem.W.nsIn K mainGlobals "need_pairs" = some (some (.ref f))) (l : K.lookup f = some ⟨oc, od, .func (PySem.W.fnOf "need_pairs" "need_pairs" (defArgs s_need_pairs) (defBody s_need_pairs) (defScope s_need_pairs) .none kV dc pm an cd ct), sl⟩) (c : PySem.W.codeIn K cd "need_pairs" = true) (k : PySem.W.keepIn K (.ref f) = true) : Df K mg "need_pairs" s_need_pairs ["one", "other", "pairs"] := by
  have F := fun_mk (st := s_need_pairs) l c k
  exact ⟨f, _, F, PySem.W.mg_of X G a, F.binds (ps := ["one", "other", "pairs"]) fun _ _ _ _ _ _ us hl => match us, hl with | [_, _, _], _ => rfl⟩
theorem d_shows (X : K.In h) (G : h.Ns mainGlobals mg) (a : PySem.W.nsIn K mainGlobals "shows" = some (some (.ref f))) (l : K.lookup f = some ⟨oc, od, .func (PySem.W.fnOf "shows" "shows" (defArgs s_shows) (defBody s_shows) (defScope s_shows) .none kV dc pm an cd ct), sl⟩) (c : PySem.W.codeIn K cd "shows" = true) (k : PySem.W.keepIn K (.ref f) = true) : Df K mg "shows" s_shows ["one", "other", "pairs"] := by
  have F := fun_mk (st := s_shows) l c k
  exact ⟨f, _, F, PySem.W.mg_of X G a, F.binds (ps := ["one", "other", "pairs"]) fun _ _ _ _ _ _ us hl => match us, hl with | [_, _, _], _ => rfl⟩
theorem d_law_taken (X : K.In h) (G : h.Ns mainGlobals mg) (a : PySem.W.nsIn K mainGlobals "_law_taken" = some (some (.ref f))) (l : K.lookup f = some ⟨oc, od, .func (PySem.W.fnOf "_law_taken" "_law_taken" (defArgs s_law_taken) (defBody s_law_taken) (defScope s_law_taken) .none kV dc pm an cd ct), sl⟩) (c : PySem.W.codeIn K cd "_law_taken" = true) (k : PySem.W.keepIn K (.ref f) = true) : Df K mg "_law_taken" s_law_taken ["_law_row", "_law_many"] := by
  have F := fun_mk (st := s_law_taken) l c k
  exact ⟨f, _, F, PySem.W.mg_of X G a, F.binds (ps := ["_law_row", "_law_many"]) fun _ _ _ _ _ _ us hl => match us, hl with | [_, _], _ => rfl⟩
theorem d_law_loop (X : K.In h) (G : h.Ns mainGlobals mg) (a : PySem.W.nsIn K mainGlobals "_law_loop" = some (some (.ref f))) (l : K.lookup f = some ⟨oc, od, .func (PySem.W.fnOf "_law_loop" "_law_loop" (defArgs s_law_loop) (defBody s_law_loop) (defScope s_law_loop) .none kV dc pm an cd ct), sl⟩) (c : PySem.W.codeIn K cd "_law_loop" = true) (k : PySem.W.keepIn K (.ref f) = true) : Df K mg "_law_loop" s_law_loop ["_law_row"] := by
  have F := fun_mk (st := s_law_loop) l c k
  exact ⟨f, _, F, PySem.W.mg_of X G a, F.binds (ps := ["_law_row"]) fun _ _ _ _ _ _ us hl => match us, hl with | [_], _ => rfl⟩
theorem d_law_constant (X : K.In h) (G : h.Ns mainGlobals mg) (a : PySem.W.nsIn K mainGlobals "_law_constant" = some (some (.ref f))) (l : K.lookup f = some ⟨oc, od, .func (PySem.W.fnOf "_law_constant" "_law_constant" (defArgs s_law_constant) (defBody s_law_constant) (defScope s_law_constant) .none kV dc pm an cd ct), sl⟩) (c : PySem.W.codeIn K cd "_law_constant" = true) (k : PySem.W.keepIn K (.ref f) = true) : Df K mg "_law_constant" s_law_constant ["_law_row"] := by
  have F := fun_mk (st := s_law_constant) l c k
  exact ⟨f, _, F, PySem.W.mg_of X G a, F.binds (ps := ["_law_row"]) fun _ _ _ _ _ _ us hl => match us, hl with | [_], _ => rfl⟩
theorem d_law_plain (X : K.In h) (G : h.Ns mainGlobals mg) (a : PySem.W.nsIn K mainGlobals "_law_plain" = some (some (.ref f))) (l : K.lookup f = some ⟨oc, od, .func (PySem.W.fnOf "_law_plain" "_law_plain" (defArgs s_law_plain) (defBody s_law_plain) (defScope s_law_plain) .none kV dc pm an cd ct), sl⟩) (c : PySem.W.codeIn K cd "_law_plain" = true) (k : PySem.W.keepIn K (.ref f) = true) : Df K mg "_law_plain" s_law_plain ["_law_row"] := by
  have F := fun_mk (st := s_law_plain) l c k
  exact ⟨f, _, F, PySem.W.mg_of X G a, F.binds (ps := ["_law_row"]) fun _ _ _ _ _ _ us hl => match us, hl with | [_], _ => rfl⟩
theorem d_law_few (X : K.In h) (G : h.Ns mainGlobals mg) (a : PySem.W.nsIn K mainGlobals "_law_few" = some (some (.ref f))) (l : K.lookup f = some ⟨oc, od, .func (PySem.W.fnOf "_law_few" "_law_few" (defArgs s_law_few) (defBody s_law_few) (defScope s_law_few) .none kV dc pm an cd ct), sl⟩) (c : PySem.W.codeIn K cd "_law_few" = true) (k : PySem.W.keepIn K (.ref f) = true) : Df K mg "_law_few" s_law_few ["_law_row"] := by
  have F := fun_mk (st := s_law_few) l c k
  exact ⟨f, _, F, PySem.W.mg_of X G a, F.binds (ps := ["_law_row"]) fun _ _ _ _ _ _ us hl => match us, hl with | [_], _ => rfl⟩
theorem d_law_same (X : K.In h) (G : h.Ns mainGlobals mg) (a : PySem.W.nsIn K mainGlobals "_law_same" = some (some (.ref f))) (l : K.lookup f = some ⟨oc, od, .func (PySem.W.fnOf "_law_same" "_law_same" (defArgs s_law_same) (defBody s_law_same) (defScope s_law_same) .none kV dc pm an cd ct), sl⟩) (c : PySem.W.codeIn K cd "_law_same" = true) (k : PySem.W.keepIn K (.ref f) = true) : Df K mg "_law_same" s_law_same ["_law_row", "_law_one"] := by
  have F := fun_mk (st := s_law_same) l c k
  exact ⟨f, _, F, PySem.W.mg_of X G a, F.binds (ps := ["_law_row", "_law_one"]) fun _ _ _ _ _ _ us hl => match us, hl with | [_, _], _ => rfl⟩
theorem d_law_moved (X : K.In h) (G : h.Ns mainGlobals mg) (a : PySem.W.nsIn K mainGlobals "_law_moved" = some (some (.ref f))) (l : K.lookup f = some ⟨oc, od, .func (PySem.W.fnOf "_law_moved" "_law_moved" (defArgs s_law_moved) (defBody s_law_moved) (defScope s_law_moved) .none kV dc pm an cd ct), sl⟩) (c : PySem.W.codeIn K cd "_law_moved" = true) (k : PySem.W.keepIn K (.ref f) = true) : Df K mg "_law_moved" s_law_moved ["_law_one", "_law_far"] := by
  have F := fun_mk (st := s_law_moved) l c k
  exact ⟨f, _, F, PySem.W.mg_of X G a, F.binds (ps := ["_law_one", "_law_far"]) fun _ _ _ _ _ _ us hl => match us, hl with | [_, _], _ => rfl⟩
theorem d_law_two (X : K.In h) (G : h.Ns mainGlobals mg) (a : PySem.W.nsIn K mainGlobals "_law_two" = some (some (.ref f))) (l : K.lookup f = some ⟨oc, od, .func (PySem.W.fnOf "_law_two" "_law_two" (defArgs s_law_two) (defBody s_law_two) (defScope s_law_two) .none kV dc pm an cd ct), sl⟩) (c : PySem.W.codeIn K cd "_law_two" = true) (k : PySem.W.keepIn K (.ref f) = true) : Df K mg "_law_two" s_law_two ["_law_row"] := by
  have F := fun_mk (st := s_law_two) l c k
  exact ⟨f, _, F, PySem.W.mg_of X G a, F.binds (ps := ["_law_row"]) fun _ _ _ _ _ _ us hl => match us, hl with | [_], _ => rfl⟩
theorem d_law_net (X : K.In h) (G : h.Ns mainGlobals mg) (a : PySem.W.nsIn K mainGlobals "_law_net" = some (some (.ref f))) (l : K.lookup f = some ⟨oc, od, .func (PySem.W.fnOf "_law_net" "_law_net" (defArgs s_law_net) (defBody s_law_net) (defScope s_law_net) .none kV dc pm an cd ct), sl⟩) (c : PySem.W.codeIn K cd "_law_net" = true) (k : PySem.W.keepIn K (.ref f) = true) : Df K mg "_law_net" s_law_net ["_law_row", "_law_most", "_law_loops"] := by
  have F := fun_mk (st := s_law_net) l c k
  exact ⟨f, _, F, PySem.W.mg_of X G a, F.binds (ps := ["_law_row", "_law_most", "_law_loops"]) fun _ _ _ _ _ _ us hl => match us, hl with | [_, _, _], _ => rfl⟩
theorem d_law_start (X : K.In h) (G : h.Ns mainGlobals mg) (a : PySem.W.nsIn K mainGlobals "_law_start" = some (some (.ref f))) (l : K.lookup f = some ⟨oc, od, .func (PySem.W.fnOf "_law_start" "_law_start" (defArgs s_law_start) (defBody s_law_start) (defScope s_law_start) .none kV dc pm an cd ct), sl⟩) (c : PySem.W.codeIn K cd "_law_start" = true) (k : PySem.W.keepIn K (.ref f) = true) : Df K mg "_law_start" s_law_start ["_law_one", "_law_other"] := by
  have F := fun_mk (st := s_law_start) l c k
  exact ⟨f, _, F, PySem.W.mg_of X G a, F.binds (ps := ["_law_one", "_law_other"]) fun _ _ _ _ _ _ us hl => match us, hl with | [_, _], _ => rfl⟩
theorem d_law_letters (X : K.In h) (G : h.Ns mainGlobals mg) (a : PySem.W.nsIn K mainGlobals "_law_letters" = some (some (.ref f))) (l : K.lookup f = some ⟨oc, od, .func (PySem.W.fnOf "_law_letters" "_law_letters" (defArgs s_law_letters) (defBody s_law_letters) (defScope s_law_letters) .none kV dc pm an cd ct), sl⟩) (c : PySem.W.codeIn K cd "_law_letters" = true) (k : PySem.W.keepIn K (.ref f) = true) : Df K mg "_law_letters" s_law_letters ["_law_loops"] := by
  have F := fun_mk (st := s_law_letters) l c k
  exact ⟨f, _, F, PySem.W.mg_of X G a, F.binds (ps := ["_law_loops"]) fun _ _ _ _ _ _ us hl => match us, hl with | [_], _ => rfl⟩
theorem d_law_beat (X : K.In h) (G : h.Ns mainGlobals mg) (a : PySem.W.nsIn K mainGlobals "_law_beat" = some (some (.ref f))) (l : K.lookup f = some ⟨oc, od, .func (PySem.W.fnOf "_law_beat" "_law_beat" (defArgs s_law_beat) (defBody s_law_beat) (defScope s_law_beat) .none kV dc pm an cd ct), sl⟩) (c : PySem.W.codeIn K cd "_law_beat" = true) (k : PySem.W.keepIn K (.ref f) = true) : Df K mg "_law_beat" s_law_beat ["_law_net_here", "_law_places", "_law_kept", "_law_bits"] := by
  have F := fun_mk (st := s_law_beat) l c k
  exact ⟨f, _, F, PySem.W.mg_of X G a, F.binds (ps := ["_law_net_here", "_law_places", "_law_kept", "_law_bits"]) fun _ _ _ _ _ _ us hl => match us, hl with | [_, _, _, _], _ => rfl⟩
theorem d_law_both (X : K.In h) (G : h.Ns mainGlobals mg) (a : PySem.W.nsIn K mainGlobals "_law_both" = some (some (.ref f))) (l : K.lookup f = some ⟨oc, od, .func (PySem.W.fnOf "_law_both" "_law_both" (defArgs s_law_both) (defBody s_law_both) (defScope s_law_both) .none kV dc pm an cd ct), sl⟩) (c : PySem.W.codeIn K cd "_law_both" = true) (k : PySem.W.keepIn K (.ref f) = true) : Df K mg "_law_both" s_law_both ["_law_case", "_law_pair", "_law_bits"] := by
  have F := fun_mk (st := s_law_both) l c k
  exact ⟨f, _, F, PySem.W.mg_of X G a, F.binds (ps := ["_law_case", "_law_pair", "_law_bits"]) fun _ _ _ _ _ _ us hl => match us, hl with | [_, _, _], _ => rfl⟩
theorem d_law_held (X : K.In h) (G : h.Ns mainGlobals mg) (a : PySem.W.nsIn K mainGlobals "_law_held" = some (some (.ref f))) (l : K.lookup f = some ⟨oc, od, .func (PySem.W.fnOf "_law_held" "_law_held" (defArgs s_law_held) (defBody s_law_held) (defScope s_law_held) .none kV dc pm an cd ct), sl⟩) (c : PySem.W.codeIn K cd "_law_held" = true) (k : PySem.W.keepIn K (.ref f) = true) : Df K mg "_law_held" s_law_held ["_law_one", "_law_other", "_law_most"] := by
  have F := fun_mk (st := s_law_held) l c k
  exact ⟨f, _, F, PySem.W.mg_of X G a, F.binds (ps := ["_law_one", "_law_other", "_law_most"]) fun _ _ _ _ _ _ us hl => match us, hl with | [_, _, _], _ => rfl⟩
theorem d_law_shows (X : K.In h) (G : h.Ns mainGlobals mg) (a : PySem.W.nsIn K mainGlobals "_law_shows" = some (some (.ref f))) (l : K.lookup f = some ⟨oc, od, .func (PySem.W.fnOf "_law_shows" "_law_shows" (defArgs s_law_shows) (defBody s_law_shows) (defScope s_law_shows) .none kV dc pm an cd ct), sl⟩) (c : PySem.W.codeIn K cd "_law_shows" = true) (k : PySem.W.keepIn K (.ref f) = true) : Df K mg "_law_shows" s_law_shows ["_law_one", "_law_other", "_law_pairs"] := by
  have F := fun_mk (st := s_law_shows) l c k
  exact ⟨f, _, F, PySem.W.mg_of X G a, F.binds (ps := ["_law_one", "_law_other", "_law_pairs"]) fun _ _ _ _ _ _ us hl => match us, hl with | [_, _, _], _ => rfl⟩
theorem d_law_bent (X : K.In h) (G : h.Ns mainGlobals mg) (a : PySem.W.nsIn K mainGlobals "_law_bent" = some (some (.ref f))) (l : K.lookup f = some ⟨oc, od, .func (PySem.W.fnOf "_law_bent" "_law_bent" (defArgs s_law_bent) (defBody s_law_bent) (defScope s_law_bent) .none kV dc pm an cd ct), sl⟩) (c : PySem.W.codeIn K cd "_law_bent" = true) (k : PySem.W.keepIn K (.ref f) = true) : Df K mg "_law_bent" s_law_bent ["_law_row", "_law_pairs", "_law_sizes"] := by
  have F := fun_mk (st := s_law_bent) l c k
  exact ⟨f, _, F, PySem.W.mg_of X G a, F.binds (ps := ["_law_row", "_law_pairs", "_law_sizes"]) fun _ _ _ _ _ _ us hl => match us, hl with | [_, _, _], _ => rfl⟩
theorem d_law_are_apart (X : K.In h) (G : h.Ns mainGlobals mg) (a : PySem.W.nsIn K mainGlobals "_law_are_apart" = some (some (.ref f))) (l : K.lookup f = some ⟨oc, od, .func (PySem.W.fnOf "_law_are_apart" "_law_are_apart" (defArgs s_law_are_apart) (defBody s_law_are_apart) (defScope s_law_are_apart) .none kV dc pm an cd ct), sl⟩) (c : PySem.W.codeIn K cd "_law_are_apart" = true) (k : PySem.W.keepIn K (.ref f) = true) : Df K mg "_law_are_apart" s_law_are_apart [] := by
  have F := fun_mk (st := s_law_are_apart) l c k
  exact ⟨f, _, F, PySem.W.mg_of X G a, F.binds (ps := []) fun _ _ _ _ _ _ us hl => match us, hl with | [], _ => rfl⟩
theorem d_law_word (X : K.In h) (G : h.Ns mainGlobals mg) (a : PySem.W.nsIn K mainGlobals "_law_word" = some (some (.ref f))) (l : K.lookup f = some ⟨oc, od, .func (PySem.W.fnOf "_law_word" "_law_word" (defArgs s_law_word) (defBody s_law_word) (defScope s_law_word) .none kV dc pm an cd ct), sl⟩) (c : PySem.W.codeIn K cd "_law_word" = true) (k : PySem.W.keepIn K (.ref f) = true) : Df K mg "_law_word" s_law_word ["_law_work"] := by
  have F := fun_mk (st := s_law_word) l c k
  exact ⟨f, _, F, PySem.W.mg_of X G a, F.binds (ps := ["_law_work"]) fun _ _ _ _ _ _ us hl => match us, hl with | [_], _ => rfl⟩
theorem d_Maker_get (X : K.In h) (cl : Cls K C) (a : PySem.W.findIn K (.ref C) "get" = some (some (.ref f))) (i : PySem.W.isFn K (.ref f) = true) (l : K.lookup f = some ⟨oc, od, .func (PySem.W.fnOf "get" "Maker.get" (defArgs s_Maker_get) (defBody s_Maker_get) (defScope s_Maker_get) .none kV dc pm an cd ct), sl⟩) (c : PySem.W.codeIn K cd "Maker.get" = true) (k : PySem.W.keepIn K (.ref f) = true) : Mf K C "get" "Maker.get" s_Maker_get ["self", "parts"] := by
  have F := fun_mk (st := s_Maker_get) l c k
  exact ⟨f, _, F, cl, ⟨a, i, k⟩, F.binds (ps := ["self", "parts"]) fun _ _ _ _ _ _ us hl => match us, hl with | [_, _], _ => rfl⟩
theorem d_Maker_loop (X : K.In h) (cl : Cls K C) (a : PySem.W.findIn K (.ref C) "loop" = some (some (.ref f))) (i : PySem.W.isFn K (.ref f) = true) (l : K.lookup f = some ⟨oc, od, .func (PySem.W.fnOf "loop" "Maker.loop" (defArgs s_Maker_loop) (defBody s_Maker_loop) (defScope s_Maker_loop) .none kV dc pm an cd ct), sl⟩) (c : PySem.W.codeIn K cd "Maker.loop" = true) (k : PySem.W.keepIn K (.ref f) = true) : Mf K C "loop" "Maker.loop" s_Maker_loop ["self", "number"] := by
  have F := fun_mk (st := s_Maker_loop) l c k
  exact ⟨f, _, F, cl, ⟨a, i, k⟩, F.binds (ps := ["self", "number"]) fun _ _ _ _ _ _ us hl => match us, hl with | [_, _], _ => rfl⟩
theorem d_Maker_memory (X : K.In h) (cl : Cls K C) (a : PySem.W.findIn K (.ref C) "memory" = some (some (.ref f))) (i : PySem.W.isFn K (.ref f) = true) (l : K.lookup f = some ⟨oc, od, .func (PySem.W.fnOf "memory" "Maker.memory" (defArgs s_Maker_memory) (defBody s_Maker_memory) (defScope s_Maker_memory) .none kV dc pm an cd ct), sl⟩) (c : PySem.W.codeIn K cd "Maker.memory" = true) (k : PySem.W.keepIn K (.ref f) = true) : Mf K C "memory" "Maker.memory" s_Maker_memory ["self"] := by
  have F := fun_mk (st := s_Maker_memory) l c k
  exact ⟨f, _, F, cl, ⟨a, i, k⟩, F.binds (ps := ["self"]) fun _ _ _ _ _ _ us hl => match us, hl with | [_], _ => rfl⟩
theorem d_Maker_added (X : K.In h) (cl : Cls K C) (a : PySem.W.findIn K (.ref C) "added" = some (some (.ref f))) (i : PySem.W.isFn K (.ref f) = true) (l : K.lookup f = some ⟨oc, od, .func (PySem.W.fnOf "added" "Maker.added" (defArgs s_Maker_added) (defBody s_Maker_added) (defScope s_Maker_added) .none kV dc pm an cd ct), sl⟩) (c : PySem.W.codeIn K cd "Maker.added" = true) (k : PySem.W.keepIn K (.ref f) = true) : Mf K C "added" "Maker.added" s_Maker_added ["self", "one", "other"] := by
  have F := fun_mk (st := s_Maker_added) l c k
  exact ⟨f, _, F, cl, ⟨a, i, k⟩, F.binds (ps := ["self", "one", "other"]) fun _ _ _ _ _ _ us hl => match us, hl with | [_, _, _], _ => rfl⟩
theorem d_Maker_taken (X : K.In h) (cl : Cls K C) (a : PySem.W.findIn K (.ref C) "taken" = some (some (.ref f))) (i : PySem.W.isFn K (.ref f) = true) (l : K.lookup f = some ⟨oc, od, .func (PySem.W.fnOf "taken" "Maker.taken" (defArgs s_Maker_taken) (defBody s_Maker_taken) (defScope s_Maker_taken) .none kV dc pm an cd ct), sl⟩) (c : PySem.W.codeIn K cd "Maker.taken" = true) (k : PySem.W.keepIn K (.ref f) = true) : Mf K C "taken" "Maker.taken" s_Maker_taken ["self", "one", "other"] := by
  have F := fun_mk (st := s_Maker_taken) l c k
  exact ⟨f, _, F, cl, ⟨a, i, k⟩, F.binds (ps := ["self", "one", "other"]) fun _ _ _ _ _ _ us hl => match us, hl with | [_, _, _], _ => rfl⟩
theorem d_Maker_alike (X : K.In h) (cl : Cls K C) (a : PySem.W.findIn K (.ref C) "alike" = some (some (.ref f))) (i : PySem.W.isFn K (.ref f) = true) (l : K.lookup f = some ⟨oc, od, .func (PySem.W.fnOf "alike" "Maker.alike" (defArgs s_Maker_alike) (defBody s_Maker_alike) (defScope s_Maker_alike) .none kV dc pm an cd ct), sl⟩) (c : PySem.W.codeIn K cd "Maker.alike" = true) (k : PySem.W.keepIn K (.ref f) = true) : Mf K C "alike" "Maker.alike" s_Maker_alike ["self", "one", "other"] := by
  have F := fun_mk (st := s_Maker_alike) l c k
  exact ⟨f, _, F, cl, ⟨a, i, k⟩, F.binds (ps := ["self", "one", "other"]) fun _ _ _ _ _ _ us hl => match us, hl with | [_, _, _], _ => rfl⟩
theorem d_Maker_single (X : K.In h) (cl : Cls K C) (a : PySem.W.findIn K (.ref C) "single" = some (some (.ref f))) (i : PySem.W.isFn K (.ref f) = true) (l : K.lookup f = some ⟨oc, od, .func (PySem.W.fnOf "single" "Maker.single" (defArgs s_Maker_single) (defBody s_Maker_single) (defScope s_Maker_single) .none kV dc pm an cd ct), sl⟩) (c : PySem.W.codeIn K cd "Maker.single" = true) (k : PySem.W.keepIn K (.ref f) = true) : Mf K C "single" "Maker.single" s_Maker_single ["self", "word", "one"] := by
  have F := fun_mk (st := s_Maker_single) l c k
  exact ⟨f, _, F, cl, ⟨a, i, k⟩, F.binds (ps := ["self", "word", "one"]) fun _ _ _ _ _ _ us hl => match us, hl with | [_, _, _], _ => rfl⟩
theorem d_Maker_double (X : K.In h) (cl : Cls K C) (a : PySem.W.findIn K (.ref C) "double" = some (some (.ref f))) (i : PySem.W.isFn K (.ref f) = true) (l : K.lookup f = some ⟨oc, od, .func (PySem.W.fnOf "double" "Maker.double" (defArgs s_Maker_double) (defBody s_Maker_double) (defScope s_Maker_double) .none kV dc pm an cd ct), sl⟩) (c : PySem.W.codeIn K cd "Maker.double" = true) (k : PySem.W.keepIn K (.ref f) = true) : Mf K C "double" "Maker.double" s_Maker_double ["self", "word", "one", "other"] := by
  have F := fun_mk (st := s_Maker_double) l c k
  exact ⟨f, _, F, cl, ⟨a, i, k⟩, F.binds (ps := ["self", "word", "one", "other"]) fun _ _ _ _ _ _ us hl => match us, hl with | [_, _, _, _], _ => rfl⟩
theorem d_Maker_constant (X : K.In h) (cl : Cls K C) (a : PySem.W.findIn K (.ref C) "constant" = some (some (.ref f))) (i : PySem.W.isFn K (.ref f) = true) (l : K.lookup f = some ⟨oc, od, .func (PySem.W.fnOf "constant" "Maker.constant" (defArgs s_Maker_constant) (defBody s_Maker_constant) (defScope s_Maker_constant) .none kV dc pm an cd ct), sl⟩) (c : PySem.W.codeIn K cd "Maker.constant" = true) (k : PySem.W.keepIn K (.ref f) = true) : Mf K C "constant" "Maker.constant" s_Maker_constant ["self", "number"] := by
  have F := fun_mk (st := s_Maker_constant) l c k
  exact ⟨f, _, F, cl, ⟨a, i, k⟩, F.binds (ps := ["self", "number"]) fun _ _ _ _ _ _ us hl => match us, hl with | [_, _], _ => rfl⟩
theorem d_Maker_lay (X : K.In h) (cl : Cls K C) (a : PySem.W.findIn K (.ref C) "lay" = some (some (.ref f))) (i : PySem.W.isFn K (.ref f) = true) (l : K.lookup f = some ⟨oc, od, .func (PySem.W.fnOf "lay" "Maker.lay" (defArgs s_Maker_lay) (defBody s_Maker_lay) (defScope s_Maker_lay) .none kV dc pm an cd ct), sl⟩) (c : PySem.W.codeIn K cd "Maker.lay" = true) (k : PySem.W.keepIn K (.ref f) = true) : Mf K C "lay" "Maker.lay" s_Maker_lay ["self", "row"] := by
  have F := fun_mk (st := s_Maker_lay) l c k
  exact ⟨f, _, F, cl, ⟨a, i, k⟩, F.binds (ps := ["self", "row"]) fun _ _ _ _ _ _ us hl => match us, hl with | [_, _], _ => rfl⟩
theorem d_Maker_net (X : K.In h) (cl : Cls K C) (a : PySem.W.findIn K (.ref C) "net" = some (some (.ref f))) (i : PySem.W.isFn K (.ref f) = true) (l : K.lookup f = some ⟨oc, od, .func (PySem.W.fnOf "net" "Maker.net" (defArgs s_Maker_net) (defBody s_Maker_net) (defScope s_Maker_net) .none kV dc pm an cd ct), sl⟩) (c : PySem.W.codeIn K cd "Maker.net" = true) (k : PySem.W.keepIn K (.ref f) = true) : Mf K C "net" "Maker.net" s_Maker_net ["self"] := by
  have F := fun_mk (st := s_Maker_net) l c k
  exact ⟨f, _, F, cl, ⟨a, i, k⟩, F.binds (ps := ["self"]) fun _ _ _ _ _ _ us hl => match us, hl with | [_], _ => rfl⟩
theorem d_Pairs_letters (X : K.In h) (cl : Cls K C) (a : PySem.W.findIn K (.ref C) "letters" = some (some (.ref f))) (i : PySem.W.isFn K (.ref f) = true) (l : K.lookup f = some ⟨oc, od, .func (PySem.W.fnOf "letters" "Pairs.letters" (defArgs s_Pairs_letters) (defBody s_Pairs_letters) (defScope s_Pairs_letters) .none kV dc pm an cd ct), sl⟩) (c : PySem.W.codeIn K cd "Pairs.letters" = true) (k : PySem.W.keepIn K (.ref f) = true) : Mf K C "letters" "Pairs.letters" s_Pairs_letters ["self"] := by
  have F := fun_mk (st := s_Pairs_letters) l c k
  exact ⟨f, _, F, cl, ⟨a, i, k⟩, F.binds (ps := ["self"]) fun _ _ _ _ _ _ us hl => match us, hl with | [_], _ => rfl⟩
theorem d_Pairs_half (X : K.In h) (cl : Cls K C) (a : PySem.W.findIn K (.ref C) "half" = some (some (.ref f))) (i : PySem.W.isFn K (.ref f) = true) (l : K.lookup f = some ⟨oc, od, .func (PySem.W.fnOf "half" "Pairs.half" (defArgs s_Pairs_half) (defBody s_Pairs_half) (defScope s_Pairs_half) .none kV dc pm an cd ct), sl⟩) (c : PySem.W.codeIn K cd "Pairs.half" = true) (k : PySem.W.keepIn K (.ref f) = true) : Mf K C "half" "Pairs.half" s_Pairs_half ["self", "which", "kept", "bits"] := by
  have F := fun_mk (st := s_Pairs_half) l c k
  exact ⟨f, _, F, cl, ⟨a, i, k⟩, F.binds (ps := ["self", "which", "kept", "bits"]) fun _ _ _ _ _ _ us hl => match us, hl with | [_, _, _, _], _ => rfl⟩
theorem d_Pairs_step (X : K.In h) (cl : Cls K C) (a : PySem.W.findIn K (.ref C) "step" = some (some (.ref f))) (i : PySem.W.isFn K (.ref f) = true) (l : K.lookup f = some ⟨oc, od, .func (PySem.W.fnOf "step" "Pairs.step" (defArgs s_Pairs_step) (defBody s_Pairs_step) (defScope s_Pairs_step) .none kV dc pm an cd ct), sl⟩) (c : PySem.W.codeIn K cd "Pairs.step" = true) (k : PySem.W.keepIn K (.ref f) = true) : Mf K C "step" "Pairs.step" s_Pairs_step ["self", "pair", "bits"] := by
  have F := fun_mk (st := s_Pairs_step) l c k
  exact ⟨f, _, F, cl, ⟨a, i, k⟩, F.binds (ps := ["self", "pair", "bits"]) fun _ _ _ _ _ _ us hl => match us, hl with | [_, _, _], _ => rfl⟩
theorem d_Maker_init (X : K.In h) (G : h.Ns mainGlobals mg) (aC : PySem.W.nsIn K mainGlobals "Maker" = some (some (.ref C))) (mk : PySem.W.makesIn K C = true) (kc : PySem.W.keepIn K (.ref C) = true) (a : PySem.W.findIn K (.ref C) "__init__" = some (some (.ref f))) (i : PySem.W.isFn K (.ref f) = true) (l : K.lookup f = some ⟨oc, od, .func (PySem.W.fnOf "__init__" "Maker.__init__" (defArgs s_Maker_init) (defBody s_Maker_init) (defScope s_Maker_init) .none kV dc pm an cd ct), sl⟩) (c : PySem.W.codeIn K cd "Maker.__init__" = true) (k : PySem.W.keepIn K (.ref f) = true) : If K mg C "Maker" "Maker.__init__" s_Maker_init ["self"] := by
  have F := fun_mk (st := s_Maker_init) l c k
  exact ⟨f, _, F, ⟨mk, a, i, kc⟩, PySem.W.mg_of X G aC, F.binds (ps := ["self"]) fun _ _ _ _ _ _ us hl => match us, hl with | [_], _ => rfl⟩
theorem d_Pairs_init (X : K.In h) (G : h.Ns mainGlobals mg) (aC : PySem.W.nsIn K mainGlobals "Pairs" = some (some (.ref C))) (mk : PySem.W.makesIn K C = true) (kc : PySem.W.keepIn K (.ref C) = true) (a : PySem.W.findIn K (.ref C) "__init__" = some (some (.ref f))) (i : PySem.W.isFn K (.ref f) = true) (l : K.lookup f = some ⟨oc, od, .func (PySem.W.fnOf "__init__" "Pairs.__init__" (defArgs s_Pairs_init) (defBody s_Pairs_init) (defScope s_Pairs_init) .none kV dc pm an cd ct), sl⟩) (c : PySem.W.codeIn K cd "Pairs.__init__" = true) (k : PySem.W.keepIn K (.ref f) = true) : If K mg C "Pairs" "Pairs.__init__" s_Pairs_init ["self", "one", "other"] := by
  have F := fun_mk (st := s_Pairs_init) l c k
  exact ⟨f, _, F, ⟨mk, a, i, kc⟩, PySem.W.mg_of X G aC, F.binds (ps := ["self", "one", "other"]) fun _ _ _ _ _ _ us hl => match us, hl with | [_, _, _], _ => rfl⟩
theorem cls_mk (pg : PySem.W.plainGet K C Str.empty = true) (hd : PySem.W.hasDictIn K C = true) (po : PySem.W.plainOver K C = true) (sa : PySem.W.findIn K (.ref C) "__setattr__" = some (some (.builtin "object.__setattr__"))) : Cls K C := ⟨pg, hd, po, sa⟩
theorem mtxt_mk (cl : Cls K C) (n0 : PySem.W.findIn K (.ref C) "cells" = some none) (n1 : PySem.W.findIn K (.ref C) "loops" = some none) (n2 : PySem.W.findIn K (.ref C) "flags" = some none) (n3 : PySem.W.findIn K (.ref C) "known" = some none) : MTxt K C := ⟨cl, fun f hf => by
  rcases hf with rfl | rfl | rfl | rfl
  · exact n0
  · exact n1
  · exact n2
  · exact n3⟩
theorem ptxt_mk (cl : Cls K C) (n0 : PySem.W.findIn K (.ref C) "nets" = some none) (n1 : PySem.W.findIn K (.ref C) "loops" = some none) : PTxt K C := ⟨cl, fun f hf => by
  rcases hf with rfl | rfl
  · exact n0
  · exact n1⟩
theorem txt_mk {es ec : Array DictEntry} {n nc ns : Nat} {os : Option Addr} {ss : Array (Option Value)} {t0 t1 t2 t3 t4 u0 u1 u2 u3 u4 u5 u6 u7 u8 u9 u10 u11 u12 u13 u14 u15 u16 u17 v0 v1 v2 v3 v4 v5 v6 v7 s0 s1 s2 s3 s4 s5 s6 s7 s8 s9 s10 : Tok} (X : K.In h) (G : h.Ns mainGlobals mg) (b0 : PySem.W.nsIn K mainGlobals "isinstance" = some none) (b1 : PySem.W.nsIn K mainGlobals "int" = some none) (b2 : PySem.W.nsIn K mainGlobals "bool" = some none) (b3 : PySem.W.nsIn K mainGlobals "str" = some none) (b4 : PySem.W.nsIn K mainGlobals "tuple" = some none) (b5 : PySem.W.nsIn K mainGlobals "list" = some none) (b6 : PySem.W.nsIn K mainGlobals "len" = some none) (b7 : PySem.W.nsIn K mainGlobals "range" = some none) (b8 : PySem.W.nsIn K mainGlobals "max" = some none) (b9 : PySem.W.nsIn K mainGlobals "sorted" = some none) (b10 : PySem.W.nsIn K mainGlobals "set" = some none) (b11 : PySem.W.nsIn K mainGlobals "dict" = some none) (b12 : PySem.W.nsIn K mainGlobals "sum" = some none) (b13 : PySem.W.nsIn K mainGlobals "zip" = some none) (c0 : PySem.W.nsIn K mainGlobals "LOOPS" = some (some (.int 8 t0))) (c1 : PySem.W.nsIn K mainGlobals "FLAGS" = some (some (.int 4 t1))) (c2 : PySem.W.nsIn K mainGlobals "MOST_ROWS" = some (some (.int 60 t2))) (c3 : PySem.W.nsIn K mainGlobals "WORDS" = some (some (.int 16777216 t3))) (c4 : PySem.W.nsIn K mainGlobals "MOST_CELLS" = some (some (.int 3000 t4))) (aF : PySem.W.nsIn K mainGlobals "FORMS" = some (some (.ref dF))) (lF : K.lookup dF = some ⟨.type "dict", none, .dict es n, #[]⟩) (kF : PySem.W.KeysLit w.params es.toList) (low : (dF == sysModules) = false) (aC : PySem.W.nsIn K mainGlobals "CELLS" = some (some (.ref dC))) (lC : K.lookup dC = some ⟨.type "dict", none, .dict ec nc, #[]⟩) (kC : PySem.W.KeysLit w.params ec.toList) (lowC : (dC == sysModules) = false) (aS : PySem.W.nsIn K mainGlobals "STRAIGHT" = some (some (.ref dS))) (lS : K.lookup dS = some ⟨.type "tuple", os, .seq #[.str "put" s0, .str "move" s1, .str "not" s2, .str "twice" s3, .str "add" s4, .str "take" s5, .str "and" s6, .str "or" s7, .str "odd" s8, .str "less" s9, .str "same" s10] ns, ss⟩) (f0 : PySem.W.nsIn K dF "put" = some (some (.str "rn" u0))) (f1 : PySem.W.nsIn K dF "move" = some (some (.str "rr" u1))) (f2 : PySem.W.nsIn K dF "not" = some (some (.str "rr" u2))) (f3 : PySem.W.nsIn K dF "twice" = some (some (.str "rr" u3))) (f4 : PySem.W.nsIn K dF "half" = some (some (.str "rr" u4))) (f5 : PySem.W.nsIn K dF "add" = some (some (.str "rrr" u5))) (f6 : PySem.W.nsIn K dF "take" = some (some (.str "rrr" u6))) (f7 : PySem.W.nsIn K dF "and" = some (some (.str "rrr" u7))) (f8 : PySem.W.nsIn K dF "or" = some (some (.str "rrr" u8))) (f9 : PySem.W.nsIn K dF "odd" = some (some (.str "rrr" u9))) (f10 : PySem.W.nsIn K dF "less" = some (some (.str "frr" u10))) (f11 : PySem.W.nsIn K dF "same" = some (some (.str "frr" u11))) (f12 : PySem.W.nsIn K dF "pick" = some (some (.str "rfrr" u12))) (f13 : PySem.W.nsIn K dF "in" = some (some (.str "r" u13))) (f14 : PySem.W.nsIn K dF "out" = some (some (.str "r" u14))) (f15 : PySem.W.nsIn K dF "jump" = some (some (.str "j" u15))) (f16 : PySem.W.nsIn K dF "when" = some (some (.str "fj" u16))) (f17 : PySem.W.nsIn K dF "end" = some (some (.str "" u17))) (g0 : PySem.W.nsIn K dC "none" = some (some (.str "" v0))) (g1 : PySem.W.nsIn K dC "first" = some (some (.str "" v1))) (g2 : PySem.W.nsIn K dC "bit" = some (some (.str "r" v2))) (g3 : PySem.W.nsIn K dC "not" = some (some (.str "c" v3))) (g4 : PySem.W.nsIn K dC "and" = some (some (.str "cc" v4))) (g5 : PySem.W.nsIn K dC "or" = some (some (.str "cc" v5))) (g6 : PySem.W.nsIn K dC "odd" = some (some (.str "cc" v6))) (g7 : PySem.W.nsIn K dC "later" = some (some (.str "l" v7))) : Txt K w mg ⟨dF, dC, dS⟩ :=
  ⟨PySem.W.mg_none_of X G b0, PySem.W.mg_none_of X G b1, PySem.W.mg_none_of X G b2, PySem.W.mg_none_of X G b3, PySem.W.mg_none_of X G b4, PySem.W.mg_none_of X G b5, PySem.W.mg_none_of X G b6, PySem.W.mg_none_of X G b7, PySem.W.mg_none_of X G b8, PySem.W.mg_none_of X G b9, PySem.W.mg_none_of X G b10, PySem.W.mg_none_of X G b11, PySem.W.mg_none_of X G b12, PySem.W.mg_none_of X G b13, ⟨_, PySem.W.mg_of X G c0, ⟨_, rfl⟩⟩, ⟨_, PySem.W.mg_of X G c1, ⟨_, rfl⟩⟩, ⟨_, PySem.W.mg_of X G c2, ⟨_, rfl⟩⟩, ⟨_, PySem.W.mg_of X G c3, ⟨_, rfl⟩⟩, ⟨_, PySem.W.mg_of X G c4, ⟨_, rfl⟩⟩,
    ⟨_, PySem.W.mg_of X G aS, rfl⟩, ⟨_, PySem.W.mg_of X G aF, rfl⟩, ⟨_, PySem.W.mg_of X G aC, rfl⟩, ⟨es, n, ⟨lF, kF, low⟩⟩, ⟨ec, nc, ⟨lC, kC, lowC⟩⟩, fun i => by
    cases i with
    | put _ _ => exact ⟨_, f0⟩
    | less _ _ _ => exact ⟨_, f10⟩
    | same _ _ _ => exact ⟨_, f11⟩
    | pick _ _ _ _ => exact ⟨_, f12⟩
    | inn _ => exact ⟨_, f13⟩
    | out _ => exact ⟨_, f14⟩
    | jump _ => exact ⟨_, f15⟩
    | when _ _ => exact ⟨_, f16⟩
    | fin => exact ⟨_, f17⟩
    | one o _ _ => cases o with
      | move => exact ⟨_, f1⟩
      | inv => exact ⟨_, f2⟩
      | twice => exact ⟨_, f3⟩
      | half => exact ⟨_, f4⟩
    | two o _ _ _ => cases o with
      | add => exact ⟨_, f5⟩
      | take => exact ⟨_, f6⟩
      | and => exact ⟨_, f7⟩
      | or => exact ⟨_, f8⟩
      | odd => exact ⟨_, f9⟩
    , fun i => by
    cases i with
    | none => exact ⟨_, g0⟩
    | first => exact ⟨_, g1⟩
    | bit _ => exact ⟨_, g2⟩
    | inv _ => exact ⟨_, g3⟩
    | later _ => exact ⟨_, g7⟩
    | gate o _ _ => cases o with
      | and => exact ⟨_, g4⟩
      | or => exact ⟨_, g5⟩
      | odd => exact ⟨_, g6⟩
    , fun H => .inr ⟨_, _, _, lS, rfl, rfl, (show (11 : Nat) ≤ sizeLine by decide), .cons ⟨_, rfl⟩ (.cons ⟨_, rfl⟩ (.cons ⟨_, rfl⟩ (.cons ⟨_, rfl⟩ (.cons ⟨_, rfl⟩ (.cons ⟨_, rfl⟩ (.cons ⟨_, rfl⟩ (.cons ⟨_, rfl⟩ (.cons ⟨_, rfl⟩ (.cons ⟨_, rfl⟩ (.cons ⟨_, rfl⟩ (.nil)))))))))))⟩⟩
theorem xtxt_mk {SE PR WI IN NE BP TM TE : Addr} (X : K.In h) (G : h.Ns mainGlobals mg) (a : PySem.W.nsIn K mainGlobals "BadPairs" = some (some (.ref BP))) (k : PySem.W.keepIn K (.ref BP) = true) (xp : PySem.W.excIn K BP [.type "ValueError", .type "Exception", .type "BaseException", .type "object"] "ValueError.__new__" = true) (b : PySem.W.subIn K (.ref BP) (.type "BaseException") = some true) (t : PySem.W.typeIn K (.ref BP) = some (.type "type")) : XTxt K mg ⟨SE, PR, WI, IN, NE, BP, TM, TE⟩ := ⟨PySem.W.mg_of X G a, k, xp, b, t⟩
theorem ytxt_mk {SE PR WI IN NE BP TM TE : Addr} (X : K.In h) (G : h.Ns mainGlobals mg) (aSE : PySem.W.nsIn K mainGlobals "SerialError" = some (some (.ref SE))) (aPR : PySem.W.nsIn K mainGlobals "BadProgram" = some (some (.ref PR))) (aWI : PySem.W.nsIn K mainGlobals "BadWidth" = some (some (.ref WI))) (aIN : PySem.W.nsIn K mainGlobals "BadInput" = some (some (.ref IN))) (aNE : PySem.W.nsIn K mainGlobals "BadNet" = some (some (.ref NE))) (aBP : PySem.W.nsIn K mainGlobals "BadPairs" = some (some (.ref BP))) (aTM : PySem.W.nsIn K mainGlobals "TooMany" = some (some (.ref TM))) (aTE : PySem.W.nsIn K mainGlobals "BadText" = some (some (.ref TE))) (ve : PySem.W.nsIn K mainGlobals "ValueError" = some none) (hg : PySem.W.findIn K (.ref BP) "__getattribute__" = some (some (.builtin "BaseException.__getattribute__"))) (hk : PySem.W.findIn K (.ref BP) "__getattr__" = some none) (hs : PySem.W.subIn K (.ref BP) (.type "BaseException") = some true) (hd : PySem.W.hasDictIn K BP = true) (ha : PySem.W.findIn K (.ref BP) "__class__" = some (some (.builtin "object.__class__"))) (hn : PySem.W.specialIn K (.builtin "object.__class__") "__get__" = some (some (.builtin "getset_descriptor.__get__"))) (ht : PySem.W.takesIn K (.builtin "object.__class__") = some true) (hm : PySem.W.mroIn K BP (.type "object") = some true) (em : PySem.W.exmOne K (.ref BP) (.ref SE) = some true) (i1 : PySem.W.kitOne K (.ref BP) (.ref PR) = some false) (i2 : PySem.W.kitOne K (.ref BP) (.ref WI) = some false) (i3 : PySem.W.kitOne K (.ref BP) (.ref IN) = some false) (i4 : PySem.W.kitOne K (.ref BP) (.ref NE) = some false) (i5 : PySem.W.kitOne K (.ref BP) (.ref BP) = some true) (i6 : PySem.W.kitOne K (.ref BP) (.ref TM) = some false) (i7 : PySem.W.kitOne K (.ref BP) (.ref TE) = some false) (i8 : PySem.W.kitOne K (.ref BP) (.type "ValueError") = some true) : YTxt K mg ⟨SE, PR, WI, IN, NE, BP, TM, TE⟩ := ⟨⟨hg, hk, hs, hd, ha, hn, ht, hm⟩, PySem.W.mg_of X G aSE, em, ⟨_, PySem.W.mg_of X G aPR, rfl⟩, ⟨_, PySem.W.mg_of X G aWI, rfl⟩, ⟨_, PySem.W.mg_of X G aIN, rfl⟩, ⟨_, PySem.W.mg_of X G aNE, rfl⟩, ⟨_, PySem.W.mg_of X G aBP, rfl⟩, ⟨_, PySem.W.mg_of X G aTM, rfl⟩, ⟨_, PySem.W.mg_of X G aTE, rfl⟩, PySem.W.mg_none_of X G ve, i1, i2, i3, i4, i5, i6, i7, i8⟩
end
section
variable {P : Program} {w : World} {K : PySem.W.Frag} {mg : Str → Option Value} {base : Heap} {d : Ads} {CM CP f c Pt : Addr} {od an : Option Addr} {sl : Array (Option Value)} {oc kV dc pm ct : Value} {x : XAds}
theorem all_ok (G : Txt K w mg d) (TM : MTxt K CM) (TP : PTxt K CP) (TX : XTxt K mg x) (TY : YTxt K mg x) (d_is_number : Df K mg "is_number" s_is_number ["part", "low", "high"]) (d_is_part : Df K mg "is_part" s_is_part ["part", "sort", "rows"]) (d_is_row : Df K mg "is_row" s_is_row ["row", "rows"]) (d_need_program : Df K mg "need_program" s_need_program ["program"]) (d_made : Df K mg "made" s_made ["program"]) (d_is_cell : Df K mg "is_cell" s_is_cell ["cell", "number", "many"]) (d_are_told : Df K mg "are_told" s_are_told ["pairs", "most", "many"]) (d_need_net : Df K mg "need_net" s_need_net ["net"]) (d_renumbered : Df K mg "renumbered" s_renumbered ["net", "numbers"]) (d_without : Df K mg "without" s_without ["net", "stay"]) (d_merged : Df K mg "merged" s_merged ["net"]) (d_needed : Df K mg "needed" s_needed ["net"]) (d_trimmed : Df K mg "trimmed" s_trimmed ["net"]) (d_memories : Df K mg "memories" s_memories ["net"]) (d_used : Df K mg "used" s_used ["net"]) (d_gate : Df K mg "gate" s_gate ["word", "one", "other"]) (d_beat_of : Df K mg "beat_of" s_beat_of ["cells", "kept", "bits", "is_first"]) (d_are_bits : Df K mg "are_bits" s_are_bits ["part", "many"]) (d_need_pairs : Df K mg "need_pairs" s_need_pairs ["one", "other", "pairs"]) (d_shows : Df K mg "shows" s_shows ["one", "other", "pairs"]) (d_law_taken : Df K mg "_law_taken" s_law_taken ["_law_row", "_law_many"]) (d_law_loop : Df K mg "_law_loop" s_law_loop ["_law_row"]) (d_law_constant : Df K mg "_law_constant" s_law_constant ["_law_row"]) (d_law_plain : Df K mg "_law_plain" s_law_plain ["_law_row"]) (d_law_few : Df K mg "_law_few" s_law_few ["_law_row"]) (d_law_same : Df K mg "_law_same" s_law_same ["_law_row", "_law_one"]) (d_law_moved : Df K mg "_law_moved" s_law_moved ["_law_one", "_law_far"]) (d_law_two : Df K mg "_law_two" s_law_two ["_law_row"]) (d_law_net : Df K mg "_law_net" s_law_net ["_law_row", "_law_most", "_law_loops"]) (d_law_start : Df K mg "_law_start" s_law_start ["_law_one", "_law_other"]) (d_law_letters : Df K mg "_law_letters" s_law_letters ["_law_loops"]) (d_law_beat : Df K mg "_law_beat" s_law_beat ["_law_net_here", "_law_places", "_law_kept", "_law_bits"]) (d_law_both : Df K mg "_law_both" s_law_both ["_law_case", "_law_pair", "_law_bits"]) (d_law_held : Df K mg "_law_held" s_law_held ["_law_one", "_law_other", "_law_most"]) (d_law_shows : Df K mg "_law_shows" s_law_shows ["_law_one", "_law_other", "_law_pairs"]) (d_law_bent : Df K mg "_law_bent" s_law_bent ["_law_row", "_law_pairs", "_law_sizes"]) (d_law_are_apart : Df K mg "_law_are_apart" s_law_are_apart []) (d_law_word : Df K mg "_law_word" s_law_word ["_law_work"]) (d_Maker_get : Mf K CM "get" "Maker.get" s_Maker_get ["self", "parts"]) (d_Maker_loop : Mf K CM "loop" "Maker.loop" s_Maker_loop ["self", "number"]) (d_Maker_memory : Mf K CM "memory" "Maker.memory" s_Maker_memory ["self"]) (d_Maker_added : Mf K CM "added" "Maker.added" s_Maker_added ["self", "one", "other"]) (d_Maker_taken : Mf K CM "taken" "Maker.taken" s_Maker_taken ["self", "one", "other"]) (d_Maker_alike : Mf K CM "alike" "Maker.alike" s_Maker_alike ["self", "one", "other"]) (d_Maker_single : Mf K CM "single" "Maker.single" s_Maker_single ["self", "word", "one"]) (d_Maker_double : Mf K CM "double" "Maker.double" s_Maker_double ["self", "word", "one", "other"]) (d_Maker_constant : Mf K CM "constant" "Maker.constant" s_Maker_constant ["self", "number"]) (d_Maker_lay : Mf K CM "lay" "Maker.lay" s_Maker_lay ["self", "row"]) (d_Maker_net : Mf K CM "net" "Maker.net" s_Maker_net ["self"]) (d_Pairs_letters : Mf K CP "letters" "Pairs.letters" s_Pairs_letters ["self"]) (d_Pairs_half : Mf K CP "half" "Pairs.half" s_Pairs_half ["self", "which", "kept", "bits"]) (d_Pairs_step : Mf K CP "step" "Pairs.step" s_Pairs_step ["self", "pair", "bits"]) (d_Maker_init : If K mg CM "Maker" "Maker.__init__" s_Maker_init ["self"]) (d_Pairs_init : If K mg CP "Pairs" "Pairs.__init__" s_Pairs_init ["self", "one", "other"]) (lk : K.lookup f = some ⟨oc, od, .func (PySem.W.fnOf "law" "law" (defArgs s_law) (defBody s_law) (defScope s_law) .none kV dc pm an (.ref c) ct), sl⟩) (hcd : PySem.W.codeIn K (.ref c) "law" = true) (TB : LamX.TabB base mg c Pt) :
    FnOk P w K mg base CX0 8 f (PySem.W.fnOf "law" "law" (defArgs s_law) (defBody s_law) (defScope s_law) .none kV dc pm an (.ref c) ct) ["_law_script"] (sp1 (pLaw K Pt)) := by
  have h_is_number := ok_is_number (P := P) (base := base) G d_is_number
  have h_is_part := ok_is_part (P := P) (base := base) G d_is_part h_is_number
  have h_is_row := ok_is_row (P := P) (base := base) G d_is_row h_is_part
  have h_need_program := ok_need_program (P := P) (base := base) G d_need_program h_is_row
  have h_Maker_get := ok_get (P := P) (base := base) G TM d_Maker_get
  have h_Maker_loop := ok_loopM (P := P) (base := base) G TM d_Maker_loop h_Maker_get
  have h_Maker_memory := ok_memory (P := P) (base := base) G TM d_Maker_memory
  have h_Maker_added := ok_added (P := P) (base := base) G TM d_Maker_added h_Maker_get h_Maker_memory
  have h_Maker_taken := ok_taken2 (P := P) (base := base) G TM d_Maker_taken h_Maker_get h_Maker_memory
  have h_Maker_alike := ok_alike (P := P) (base := base) G TM d_Maker_alike h_Maker_get h_Maker_memory
  have h_Maker_single := ok_single (P := P) (base := base) G TM d_Maker_single h_Maker_get
  have h_Maker_double := ok_double (P := P) (base := base) G TM d_Maker_double h_Maker_get h_Maker_added h_Maker_taken
  have h_Maker_constant := ok_const (P := P) (base := base) G TM d_Maker_constant h_Maker_get
  have h_Maker_lay := ok_lay (P := P) (base := base) G TM d_Maker_lay h_Maker_loop h_Maker_constant h_Maker_taken h_Maker_alike h_Maker_single h_Maker_double
  have h_Maker_init := ok_init (P := P) (base := base) G TM d_Maker_init
  have h_Maker_net := ok_net (P := P) (base := base) G TM d_Maker_net
  have h_made := ok_made (P := P) (base := base) G TM d_made h_need_program h_Maker_init h_Maker_lay h_Maker_net
  have h_is_cell := ok_is_cell (P := P) (base := base) G d_is_cell h_is_number
  have h_are_told := ok_are_told (P := P) (base := base) G d_are_told h_is_number
  have h_need_net := ok_need_net (P := P) (base := base) G d_need_net h_is_cell h_are_told
  have h_renumbered := ok_ren (P := P) (base := base) G d_renumbered
  have h_without := ok_without (P := P) (base := base) G d_without h_renumbered
  have h_merged := ok_merged (P := P) (base := base) G d_merged h_renumbered h_without
  have h_needed := ok_needed (P := P) (base := base) G d_needed
  have h_trimmed := ok_trimmed (P := P) (base := base) G d_trimmed h_need_net h_needed h_without h_merged
  have h_memories := ok_memories (P := P) (base := base) G d_memories
  have h_used := ok_used (P := P) (base := base) G d_used
  have h_Pairs_init := ok_pinit (P := P) (base := base) G TP d_Pairs_init h_used
  have h_Pairs_letters := ok_letters (P := P) (base := base) G TP d_Pairs_letters
  have h_gate := ok_gate (P := P) (base := base) G d_gate
  have h_beat_of := ok_beat_of (P := P) (base := base) G d_beat_of h_gate
  have h_Pairs_half := ok_half (P := P) (base := base) G TP d_Pairs_half h_memories h_beat_of
  have h_Pairs_step := ok_step (P := P) (base := base) G TP d_Pairs_step h_Pairs_half
  have h_are_bits := ok_are_bits (P := P) (base := base) G d_are_bits
  have h_need_pairs := ok_need_pairs (P := P) (base := base) G d_need_pairs h_memories h_are_bits
  have h_shows := ok_shows (P := P) (base := base) G TP d_shows h_need_net h_need_pairs h_Pairs_init h_Pairs_letters h_Pairs_step
  have h_law_taken := ok_taken (P := P) (base := base) G d_law_taken
  have h_law_loop := ok_loop (P := P) (base := base) G d_law_loop h_law_taken
  have h_law_constant := ok_constant (P := P) (base := base) G d_law_constant h_law_taken
  have h_law_plain := ok_plain (P := P) (base := base) G d_law_plain h_law_taken h_law_loop h_law_constant
  have h_law_few := ok_few (P := P) (base := base) G d_law_few h_law_taken h_law_plain
  have h_law_same := ok_same (P := P) (base := base) G d_law_same h_law_taken
  have h_law_moved := ok_moved (P := P) (base := base) G d_law_moved
  have h_law_two := ok_two (P := P) (base := base) G d_law_two h_law_taken h_law_few h_law_same h_law_moved h_made h_trimmed
  have h_law_net := ok_netL (P := P) (base := base) G d_law_net h_law_taken
  have h_law_start := ok_start (P := P) (base := base) G d_law_start
  have h_law_letters := ok_lettersL (P := P) (base := base) G d_law_letters
  have h_law_beat := ok_beatL (P := P) (base := base) G d_law_beat
  have h_law_both := ok_both (P := P) (base := base) G d_law_both h_law_beat
  have h_law_held := ok_held (P := P) (base := base) G d_law_held h_law_start h_law_letters h_law_both
  have h_law_shows := ok_showsL (P := P) (base := base) G d_law_shows h_law_start h_law_letters h_law_both
  have h_law_bent := ok_bent (P := P) (base := base) G d_law_bent h_law_taken
  have h_need_pairs_bad := ok_need_bad (P := P) (base := base) G TX d_need_pairs h_memories h_are_bits
  have h_shows_bad := ok_shows_bad (P := P) (base := base) G TP TX d_shows h_need_net h_need_pairs_bad h_Pairs_init h_Pairs_letters h_Pairs_step
  have h_law_are_apart := ok_apart (P := P) (base := base) G d_law_are_apart h_shows
  exact ok_law G TY TB d_law_word lk hcd h_law_are_apart h_law_two h_law_taken h_law_net h_law_held h_law_bent h_shows h_law_shows h_shows_bad
end
theorem walk {l : PySem.W.OpenLaw} {q : Program} {loose : List Str} {XP : (Str → Option Value) → Heap → Prop} {YP : World → Heap → Prop} {d : DefRec} {K : Params → PySem.W.Frag} (hn : l.most = some 63) (hdf : d.params.defaults = [])
    (hY : ∀ (w : World) (h : Heap), YP w h → (K w.params).In h)
    (F : ∀ (w : World) (mg : Str → Option Value) (fa : Addr) (h : Heap), YP w h → (K w.params).In h → h.Ns mainGlobals mg → mg d.name = some (.ref fa) → LamX.LawAtS l w (K w.params) CX0 8 63 "_law_script" mg fa h) :
    PySem.W.WalkO q loose XP YP l.row.toRowW d [] (fun f vs => PySem.call f vs) :=
  LamX.walk_ofTs (n := 63) (k := 8) (x := "_law_script") (CX := fun _ => CX0) hn (by decide) hdf ⟨rfl, by decide, by decide⟩ hY F fun _ _ _ _ _ z => z
theorem law_at {l : PySem.W.OpenLaw} {w : World} {K : PySem.W.Frag} {mg : Str → Option Value} {fa f c Pt : Addr} {od an : Option Addr} {sl : Array (Option Value)} {oc kV dc pm ct : Value} {h : Heap} (X : K.In h) (Gn : h.Ns mainGlobals mg) (hfa : mg "law" = some (.ref fa)) (hT : h.get? Pt = some { cls := .none, data := .fields #[] })
    (a : PySem.W.nsIn K mainGlobals "law" = some (some (.ref f))) (lk : K.lookup f = some ⟨oc, od, .func (PySem.W.fnOf "law" "law" (defArgs s_law) (defBody s_law) (defScope s_law) .none kV dc pm an (.ref c) ct), sl⟩) (hcd : PySem.W.codeIn K (.ref c) "law" = true) (hd : PySem.W.codeHdIn K c Pt = true) (nT : K.lookup Pt = none)
    (hc : ∀ base : Heap, LamX.TabB base mg c Pt → FnOk l.prog w K mg base CX0 8 f (PySem.W.fnOf "law" "law" (defArgs s_law) (defBody s_law) (defScope s_law) .none kV dc pm an (.ref c) ct) ["_law_script"] (sp1 (pLaw K Pt))) : LamX.LawAtS l w K CX0 8 63 "_law_script" mg fa h := by
  have e := hfa.symm.trans (PySem.W.mg_of X Gn a)
  cases e
  refine ⟨_, [(c, Pt)], sp1 (pLaw K Pt), ?_, ?_, ?_, fun s v => .of_eq rfl, fun H b ns hl _ hP hS => ⟨_, rfl, b, ns, rfl, hS, ?_, fun _ => rfl⟩, fun base _ _ tb => hc base (tb _ (List.mem_singleton.mpr rfl))⟩
  · intro p hp
    rw [List.mem_singleton.mp hp]
    exact hT
  · intro p hp
    rw [List.mem_singleton.mp hp]
    exact nT
  · intro p hp
    rw [List.mem_singleton.mp hp]
    exact PySem.W.codeHd_of_K X hd
  · intro p hp
    rw [List.mem_singleton.mp hp]
    exact .nil (hP _ (List.mem_singleton.mpr rfl))
end K7
open PySem PySem.W PyProof.Rows in
set_option maxRecDepth 100000 in
set_option maxHeartbeats 0 in
theorem PySem.Challenge.cw_bitserial_k17_pairs_judged_holds : PySem.Challenge.rw_bitserial_k17_pairs_judged.Holds := by
  refine k17head ?_
  k_fill
  refine K7.walk (l := PySem.Challenge.rw_bitserial_k17_pairs_judged) rfl rfl (fun w h Y => km_in_of Y) ?F
  case F =>
    intro w mg fa h Y KX G hmg
    have hT8 := km_tabs_of Y
    clear Y
    refine' K7.law_at KX G hmg (hT8 _ (List.mem_cons_self ..)) ?a ?lk ?hcd ?hd ?nT ?hLaw
    (case a => k_is)
    (case lk => k_is)
    (case hcd => k_is)
    (case hd => kernel_rfl)
    (case nT => kernel_rfl)
    case hLaw =>
      intro base tb
      refine' K7.all_ok ?G ?TM ?TP ?TX ?TY ?d_is_number ?d_is_part ?d_is_row ?d_need_program ?d_made ?d_is_cell ?d_are_told ?d_need_net ?d_renumbered ?d_without ?d_merged ?d_needed ?d_trimmed ?d_memories ?d_used ?d_gate ?d_beat_of ?d_are_bits ?d_need_pairs ?d_shows ?d_law_taken ?d_law_loop ?d_law_constant ?d_law_plain ?d_law_few ?d_law_same ?d_law_moved ?d_law_two ?d_law_net ?d_law_start ?d_law_letters ?d_law_beat ?d_law_both ?d_law_held ?d_law_shows ?d_law_bent ?d_law_are_apart ?d_law_word ?d_Maker_get ?d_Maker_loop ?d_Maker_memory ?d_Maker_added ?d_Maker_taken ?d_Maker_alike ?d_Maker_single ?d_Maker_double ?d_Maker_constant ?d_Maker_lay ?d_Maker_net ?d_Pairs_letters ?d_Pairs_half ?d_Pairs_step ?d_Maker_init ?d_Pairs_init ?lk ?hcd tb
      (case lk => k_is)
      (case hcd => k_is)
      (case d_Maker_init =>
        refine' K7.d_Maker_init KX G ?aC ?mk ?kc ?a ?i ?l ?c ?k
        (case aC => k_is)
        (case mk => k_is)
        (case kc => k_is)
        (case a => k_is)
        (case i => k_is)
        (case l => k_is)
        (case c => k_is)
        (case k => k_is))
      (case d_Pairs_init =>
        refine' K7.d_Pairs_init KX G ?aC ?mk ?kc ?a ?i ?l ?c ?k
        (case aC => k_is)
        (case mk => k_is)
        (case kc => k_is)
        (case a => k_is)
        (case i => k_is)
        (case l => k_is)
        (case c => k_is)
        (case k => k_is))
      (case G =>
        refine' K7.txt_mk KX G ?b0 ?b1 ?b2 ?b3 ?b4 ?b5 ?b6 ?b7 ?b8 ?b9 ?b10 ?b11 ?b12 ?b13 ?c0 ?c1 ?c2 ?c3 ?c4 ?aF ?lF ?kF ?low ?aC ?lC ?kC ?lowC ?aS ?lS ?f0 ?f1 ?f2 ?f3 ?f4 ?f5 ?f6 ?f7 ?f8 ?f9 ?f10 ?f11 ?f12 ?f13 ?f14 ?f15 ?f16 ?f17 ?ze0 ?ze1 ?ze2 ?ze3 ?ze4 ?ze5 ?ze6 ?ze7
        (case b0 => k_is)
        (case b1 => k_is)
        (case b2 => k_is)
        (case b3 => k_is)
        (case b4 => k_is)
        (case b5 => k_is)
        (case b6 => k_is)
        (case b7 => k_is)
        (case b8 => k_is)
        (case b9 => k_is)
        (case b10 => k_is)
        (case b11 => k_is)
        (case b12 => k_is)
        (case b13 => k_is)
        (case c0 => k_is)
        (case c1 => k_is)
        (case c2 => k_is)
        (case c3 => k_is)
        (case c4 => k_is)
        (case aF => k_is)
        (case lF => k_is)
        (case kF => ((repeat refine ⟨⟨_, _, rfl, rfl⟩, ?_⟩); exact True.intro))
        (case low => rfl)
        (case aC => k_is)
        (case lC => k_is)
        (case kC => ((repeat refine ⟨⟨_, _, rfl, rfl⟩, ?_⟩); exact True.intro))
        (case lowC => rfl)
        (case aS => k_is)
        (case lS => k_is)
        (case f0 => k_is)
        (case f1 => k_is)
        (case f2 => k_is)
        (case f3 => k_is)
        (case f4 => k_is)
        (case f5 => k_is)
        (case f6 => k_is)
        (case f7 => k_is)
        (case f8 => k_is)
        (case f9 => k_is)
        (case f10 => k_is)
        (case f11 => k_is)
        (case f12 => k_is)
        (case f13 => k_is)
        (case f14 => k_is)
        (case f15 => k_is)
        (case f16 => k_is)
        (case f17 => k_is)
        (case ze0 => k_is)
        (case ze1 => k_is)
        (case ze2 => k_is)
        (case ze3 => k_is)
        (case ze4 => k_is)
        (case ze5 => k_is)
        (case ze6 => k_is)
        (case ze7 => k_is))
      (case TM =>
        refine' K7.mtxt_mk (K7.cls_mk ?pg ?hd ?po ?sa) ?n0 ?n1 ?n2 ?n3
        (case pg => k_is)
        (case hd => k_is)
        (case po => k_is)
        (case sa => k_is)
        (case n0 => k_is)
        (case n1 => k_is)
        (case n2 => k_is)
        (case n3 => k_is))
      (case TP =>
        refine' K7.ptxt_mk (K7.cls_mk ?pg ?hd ?po ?sa) ?n0 ?n1
        (case pg => k_is)
        (case hd => k_is)
        (case po => k_is)
        (case sa => k_is)
        (case n0 => k_is)
        (case n1 => k_is))
      (case TY =>
        refine' K7.ytxt_mk KX G ?aSE ?aPR ?aWI ?aIN ?aNE ?aBP ?aTM ?aTE ?ve ?hg ?hk ?hs ?hd ?ha ?hn ?ht ?hm ?em ?i1 ?i2 ?i3 ?i4 ?i5 ?i6 ?i7 ?i8
        (case aSE => k_is)
        (case aPR => k_is)
        (case aWI => k_is)
        (case aIN => k_is)
        (case aNE => k_is)
        (case aBP => k_is)
        (case aTM => k_is)
        (case aTE => k_is)
        (case ve => k_is)
        (case hg => k_is)
        (case hk => k_is)
        (case hs => k_is)
        (case hd => k_is)
        (case ha => k_is)
        (case hn => k_is)
        (case ht => k_is)
        (case hm => k_is)
        (case em => kernel_rfl)
        (case i1 => kernel_rfl)
        (case i2 => kernel_rfl)
        (case i3 => kernel_rfl)
        (case i4 => kernel_rfl)
        (case i5 => kernel_rfl)
        (case i6 => kernel_rfl)
        (case i7 => kernel_rfl)
        (case i8 => kernel_rfl))
      (case TX =>
        refine' K7.xtxt_mk KX G ?a ?k ?xp ?b ?t
        (case a => k_is)
        (case k => k_is)
        (case xp => k_exc)
        (case b => k_is)
        (case t => k_is))
      (case d_is_number =>
        refine' K7.d_is_number KX G ?a ?l ?c ?k
        (case a => k_is)
        (case l => k_is)
        (case c => k_is)
        (case k => k_is))
      (case d_is_part =>
        refine' K7.d_is_part KX G ?a ?l ?c ?k
        (case a => k_is)
        (case l => k_is)
        (case c => k_is)
        (case k => k_is))
      (case d_is_row =>
        refine' K7.d_is_row KX G ?a ?l ?c ?k
        (case a => k_is)
        (case l => k_is)
        (case c => k_is)
        (case k => k_is))
      (case d_need_program =>
        refine' K7.d_need_program KX G ?a ?l ?c ?k
        (case a => k_is)
        (case l => k_is)
        (case c => k_is)
        (case k => k_is))
      (case d_made =>
        refine' K7.d_made KX G ?a ?l ?c ?k
        (case a => k_is)
        (case l => k_is)
        (case c => k_is)
        (case k => k_is))
      (case d_is_cell =>
        refine' K7.d_is_cell KX G ?a ?l ?c ?k
        (case a => k_is)
        (case l => k_is)
        (case c => k_is)
        (case k => k_is))
      (case d_are_told =>
        refine' K7.d_are_told KX G ?a ?l ?c ?k
        (case a => k_is)
        (case l => k_is)
        (case c => k_is)
        (case k => k_is))
      (case d_need_net =>
        refine' K7.d_need_net KX G ?a ?l ?c ?k
        (case a => k_is)
        (case l => k_is)
        (case c => k_is)
        (case k => k_is))
      (case d_renumbered =>
        refine' K7.d_renumbered KX G ?a ?l ?c ?k
        (case a => k_is)
        (case l => k_is)
        (case c => k_is)
        (case k => k_is))
      (case d_without =>
        refine' K7.d_without KX G ?a ?l ?c ?k
        (case a => k_is)
        (case l => k_is)
        (case c => k_is)
        (case k => k_is))
      (case d_merged =>
        refine' K7.d_merged KX G ?a ?l ?c ?k
        (case a => k_is)
        (case l => k_is)
        (case c => k_is)
        (case k => k_is))
      (case d_needed =>
        refine' K7.d_needed KX G ?a ?l ?c ?k
        (case a => k_is)
        (case l => k_is)
        (case c => k_is)
        (case k => k_is))
      (case d_trimmed =>
        refine' K7.d_trimmed KX G ?a ?l ?c ?k
        (case a => k_is)
        (case l => k_is)
        (case c => k_is)
        (case k => k_is))
      (case d_memories =>
        refine' K7.d_memories KX G ?a ?l ?c ?k
        (case a => k_is)
        (case l => k_is)
        (case c => k_is)
        (case k => k_is))
      (case d_used =>
        refine' K7.d_used KX G ?a ?l ?c ?k
        (case a => k_is)
        (case l => k_is)
        (case c => k_is)
        (case k => k_is))
      (case d_gate =>
        refine' K7.d_gate KX G ?a ?l ?c ?k
        (case a => k_is)
        (case l => k_is)
        (case c => k_is)
        (case k => k_is))
      (case d_beat_of =>
        refine' K7.d_beat_of KX G ?a ?l ?c ?k
        (case a => k_is)
        (case l => k_is)
        (case c => k_is)
        (case k => k_is))
      (case d_are_bits =>
        refine' K7.d_are_bits KX G ?a ?l ?c ?k
        (case a => k_is)
        (case l => k_is)
        (case c => k_is)
        (case k => k_is))
      (case d_need_pairs =>
        refine' K7.d_need_pairs KX G ?a ?l ?c ?k
        (case a => k_is)
        (case l => k_is)
        (case c => k_is)
        (case k => k_is))
      (case d_shows =>
        refine' K7.d_shows KX G ?a ?l ?c ?k
        (case a => k_is)
        (case l => k_is)
        (case c => k_is)
        (case k => k_is))
      (case d_law_taken =>
        refine' K7.d_law_taken KX G ?a ?l ?c ?k
        (case a => k_is)
        (case l => k_is)
        (case c => k_is)
        (case k => k_is))
      (case d_law_loop =>
        refine' K7.d_law_loop KX G ?a ?l ?c ?k
        (case a => k_is)
        (case l => k_is)
        (case c => k_is)
        (case k => k_is))
      (case d_law_constant =>
        refine' K7.d_law_constant KX G ?a ?l ?c ?k
        (case a => k_is)
        (case l => k_is)
        (case c => k_is)
        (case k => k_is))
      (case d_law_plain =>
        refine' K7.d_law_plain KX G ?a ?l ?c ?k
        (case a => k_is)
        (case l => k_is)
        (case c => k_is)
        (case k => k_is))
      (case d_law_few =>
        refine' K7.d_law_few KX G ?a ?l ?c ?k
        (case a => k_is)
        (case l => k_is)
        (case c => k_is)
        (case k => k_is))
      (case d_law_same =>
        refine' K7.d_law_same KX G ?a ?l ?c ?k
        (case a => k_is)
        (case l => k_is)
        (case c => k_is)
        (case k => k_is))
      (case d_law_moved =>
        refine' K7.d_law_moved KX G ?a ?l ?c ?k
        (case a => k_is)
        (case l => k_is)
        (case c => k_is)
        (case k => k_is))
      (case d_law_two =>
        refine' K7.d_law_two KX G ?a ?l ?c ?k
        (case a => k_is)
        (case l => k_is)
        (case c => k_is)
        (case k => k_is))
      (case d_law_net =>
        refine' K7.d_law_net KX G ?a ?l ?c ?k
        (case a => k_is)
        (case l => k_is)
        (case c => k_is)
        (case k => k_is))
      (case d_law_start =>
        refine' K7.d_law_start KX G ?a ?l ?c ?k
        (case a => k_is)
        (case l => k_is)
        (case c => k_is)
        (case k => k_is))
      (case d_law_letters =>
        refine' K7.d_law_letters KX G ?a ?l ?c ?k
        (case a => k_is)
        (case l => k_is)
        (case c => k_is)
        (case k => k_is))
      (case d_law_beat =>
        refine' K7.d_law_beat KX G ?a ?l ?c ?k
        (case a => k_is)
        (case l => k_is)
        (case c => k_is)
        (case k => k_is))
      (case d_law_both =>
        refine' K7.d_law_both KX G ?a ?l ?c ?k
        (case a => k_is)
        (case l => k_is)
        (case c => k_is)
        (case k => k_is))
      (case d_law_held =>
        refine' K7.d_law_held KX G ?a ?l ?c ?k
        (case a => k_is)
        (case l => k_is)
        (case c => k_is)
        (case k => k_is))
      (case d_law_shows =>
        refine' K7.d_law_shows KX G ?a ?l ?c ?k
        (case a => k_is)
        (case l => k_is)
        (case c => k_is)
        (case k => k_is))
      (case d_law_bent =>
        refine' K7.d_law_bent KX G ?a ?l ?c ?k
        (case a => k_is)
        (case l => k_is)
        (case c => k_is)
        (case k => k_is))
      (case d_law_are_apart =>
        refine' K7.d_law_are_apart KX G ?a ?l ?c ?k
        (case a => k_is)
        (case l => k_is)
        (case c => k_is)
        (case k => k_is))
      (case d_law_word =>
        refine' K7.d_law_word KX G ?a ?l ?c ?k
        (case a => k_is)
        (case l => k_is)
        (case c => k_is)
        (case k => k_is))
      (case d_Maker_get =>
        refine' K7.d_Maker_get KX (K7.cls_mk ?pg ?hd ?po ?sa) ?a ?i ?l ?c ?k
        (case pg => k_is)
        (case hd => k_is)
        (case po => k_is)
        (case sa => k_is)
        (case a => k_is)
        (case i => k_is)
        (case l => k_is)
        (case c => k_is)
        (case k => k_is))
      (case d_Maker_loop =>
        refine' K7.d_Maker_loop KX (K7.cls_mk ?pg ?hd ?po ?sa) ?a ?i ?l ?c ?k
        (case pg => k_is)
        (case hd => k_is)
        (case po => k_is)
        (case sa => k_is)
        (case a => k_is)
        (case i => k_is)
        (case l => k_is)
        (case c => k_is)
        (case k => k_is))
      (case d_Maker_memory =>
        refine' K7.d_Maker_memory KX (K7.cls_mk ?pg ?hd ?po ?sa) ?a ?i ?l ?c ?k
        (case pg => k_is)
        (case hd => k_is)
        (case po => k_is)
        (case sa => k_is)
        (case a => k_is)
        (case i => k_is)
        (case l => k_is)
        (case c => k_is)
        (case k => k_is))
      (case d_Maker_added =>
        refine' K7.d_Maker_added KX (K7.cls_mk ?pg ?hd ?po ?sa) ?a ?i ?l ?c ?k
        (case pg => k_is)
        (case hd => k_is)
        (case po => k_is)
        (case sa => k_is)
        (case a => k_is)
        (case i => k_is)
        (case l => k_is)
        (case c => k_is)
        (case k => k_is))
      (case d_Maker_taken =>
        refine' K7.d_Maker_taken KX (K7.cls_mk ?pg ?hd ?po ?sa) ?a ?i ?l ?c ?k
        (case pg => k_is)
        (case hd => k_is)
        (case po => k_is)
        (case sa => k_is)
        (case a => k_is)
        (case i => k_is)
        (case l => k_is)
        (case c => k_is)
        (case k => k_is))
      (case d_Maker_alike =>
        refine' K7.d_Maker_alike KX (K7.cls_mk ?pg ?hd ?po ?sa) ?a ?i ?l ?c ?k
        (case pg => k_is)
        (case hd => k_is)
        (case po => k_is)
        (case sa => k_is)
        (case a => k_is)
        (case i => k_is)
        (case l => k_is)
        (case c => k_is)
        (case k => k_is))
      (case d_Maker_single =>
        refine' K7.d_Maker_single KX (K7.cls_mk ?pg ?hd ?po ?sa) ?a ?i ?l ?c ?k
        (case pg => k_is)
        (case hd => k_is)
        (case po => k_is)
        (case sa => k_is)
        (case a => k_is)
        (case i => k_is)
        (case l => k_is)
        (case c => k_is)
        (case k => k_is))
      (case d_Maker_double =>
        refine' K7.d_Maker_double KX (K7.cls_mk ?pg ?hd ?po ?sa) ?a ?i ?l ?c ?k
        (case pg => k_is)
        (case hd => k_is)
        (case po => k_is)
        (case sa => k_is)
        (case a => k_is)
        (case i => k_is)
        (case l => k_is)
        (case c => k_is)
        (case k => k_is))
      (case d_Maker_constant =>
        refine' K7.d_Maker_constant KX (K7.cls_mk ?pg ?hd ?po ?sa) ?a ?i ?l ?c ?k
        (case pg => k_is)
        (case hd => k_is)
        (case po => k_is)
        (case sa => k_is)
        (case a => k_is)
        (case i => k_is)
        (case l => k_is)
        (case c => k_is)
        (case k => k_is))
      (case d_Maker_lay =>
        refine' K7.d_Maker_lay KX (K7.cls_mk ?pg ?hd ?po ?sa) ?a ?i ?l ?c ?k
        (case pg => k_is)
        (case hd => k_is)
        (case po => k_is)
        (case sa => k_is)
        (case a => k_is)
        (case i => k_is)
        (case l => k_is)
        (case c => k_is)
        (case k => k_is))
      (case d_Maker_net =>
        refine' K7.d_Maker_net KX (K7.cls_mk ?pg ?hd ?po ?sa) ?a ?i ?l ?c ?k
        (case pg => k_is)
        (case hd => k_is)
        (case po => k_is)
        (case sa => k_is)
        (case a => k_is)
        (case i => k_is)
        (case l => k_is)
        (case c => k_is)
        (case k => k_is))
      (case d_Pairs_letters =>
        refine' K7.d_Pairs_letters KX (K7.cls_mk ?pg ?hd ?po ?sa) ?a ?i ?l ?c ?k
        (case pg => k_is)
        (case hd => k_is)
        (case po => k_is)
        (case sa => k_is)
        (case a => k_is)
        (case i => k_is)
        (case l => k_is)
        (case c => k_is)
        (case k => k_is))
      (case d_Pairs_half =>
        refine' K7.d_Pairs_half KX (K7.cls_mk ?pg ?hd ?po ?sa) ?a ?i ?l ?c ?k
        (case pg => k_is)
        (case hd => k_is)
        (case po => k_is)
        (case sa => k_is)
        (case a => k_is)
        (case i => k_is)
        (case l => k_is)
        (case c => k_is)
        (case k => k_is))
      (case d_Pairs_step =>
        refine' K7.d_Pairs_step KX (K7.cls_mk ?pg ?hd ?po ?sa) ?a ?i ?l ?c ?k
        (case pg => k_is)
        (case hd => k_is)
        (case po => k_is)
        (case sa => k_is)
        (case a => k_is)
        (case i => k_is)
        (case l => k_is)
        (case c => k_is)
        (case k => k_is))
