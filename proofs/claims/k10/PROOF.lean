import PyProof.Rows.All
import Wide.All
import OpenK.AllK
import Wide.FinOn
import HandS.ForMost
import HandS.ForExc
import HandS.TryMany
import HandS.IsInst
import HandS.ExcIs
import HandS.EndBits
import HandS.HotCalls
import HandS.SetFor
import HandS.Style
import PySem.Challenge.RW_guardrows_k10_rows_under_guard
set_option Elab.async false
set_option linter.all false
set_option maxRecDepth 100000
set_option maxHeartbeats 4000000
namespace G
open PySem PySem.Spec PyProof.Rows L2
abbrev St := L2.St
/-! ### callees -/
/-- a def that may be called by its name -/
structure Cl (P : Program) (w : World) (K : PySem.W.Frag) (mg : Str → Option Value) (base : Heap) (k : Nat) (x : Str) (ps : List Str) (sp : Sp) : Prop where
  ex : ∃ (f : Addr) (fd : FuncData), FnOk P w K mg base (L2.CX P w) k f fd ps sp ∧ mg x = some (.ref f) ∧ PySem.W.keepIn K (.ref f) = true ∧ Binds K fd ps []
/-- a method -/
structure Mt (P : Program) (w : World) (K : PySem.W.Frag) (mg : Str → Option Value) (base : Heap) (k : Nat) (C : Addr) (m : Str) (ps : List Str) (sp : Sp) : Prop where
  ex : ∃ (f : Addr) (fd : FuncData), Cls K C ∧ Meth K C m f ∧ FnOk P w K mg base (L2.CX P w) k f fd ps sp ∧ Binds K fd ps []
/-- a class that is made -/
structure Mr (P : Program) (w : World) (K : PySem.W.Frag) (mg : Str → Option Value) (base : Heap) (k : Nat) (x : Str) (C : Addr) (ps : List Str) (sp : Sp) : Prop where
  ex : ∃ (f : Addr) (fd : FuncData), Mk K C f ∧ FnOk P w K mg base (L2.CX P w) k f fd ps sp ∧ mg x = some (.ref C) ∧ Binds K fd ps []
section
variable {P : Program} {w : World} {K : PySem.W.Frag} {mg : Str → Option Value} {base : Heap}
theorem Cl.of {x : Str} {st : Stmt} {f : Addr} {fd : FuncData} {N ps : List Str} {k : Nat} {sp : Sp} (F : Fun K x x st f fd) (hm : mg x = some (.ref f)) (hb : Binds K fd ps []) (S : FnScope N ps (defScope st)) (len : ∀ vs H Q E, sp vs H Q E → vs.length = ps.length)
    (hbody : ∀ (cdv : Value) (A : Around) (outer : List Env) (s : Shared) (H : Hp) (vs : List V) (Q : VK) (E : XK), Room k (A.deeper (envOfC x (defScope st) s.heap.objs.size f cdv)) → sp vs H Q E →
      ∃ t, PSs (cxOf (L2.CX P w) P w K mg base N x (defScope st) f cdv A outer s H E) (defBody st) t ∧ t { nx := fun _ H' => Q .non H', rt := Q } (start N vs) H) : Cl P w K mg base (k + 1) x ps sp :=
  ⟨f, fd, F.okX S len hbody, hm, F.kp, hb⟩
theorem Mt.of {m qual : Str} {C : Addr} {st : Stmt} {f : Addr} {fd : FuncData} {N ps : List Str} {k : Nat} {sp : Sp} (F : Fun K m qual st f fd) (c : Cls K C) (hm : Meth K C m f) (hb : Binds K fd ps []) (S : FnScope N ps (defScope st)) (len : ∀ vs H Q E, sp vs H Q E → vs.length = ps.length)
    (hbody : ∀ (cdv : Value) (A : Around) (outer : List Env) (s : Shared) (H : Hp) (vs : List V) (Q : VK) (E : XK), Room k (A.deeper (envOfC qual (defScope st) s.heap.objs.size f cdv)) → sp vs H Q E →
      ∃ t, PSs (cxOf (L2.CX P w) P w K mg base N qual (defScope st) f cdv A outer s H E) (defBody st) t ∧ t { nx := fun _ H' => Q .non H', rt := Q } (start N vs) H) : Mt P w K mg base (k + 1) C m ps sp :=
  ⟨f, fd, c, hm, F.okX S len hbody, hb⟩
theorem Mr.of {x qual : Str} {C : Addr} {st : Stmt} {f : Addr} {fd : FuncData} {N ps : List Str} {k : Nat} {sp : Sp} (F : Fun K "__init__" qual st f fd) (c : Mk K C f) (hm : mg x = some (.ref C)) (hb : Binds K fd ps []) (S : FnScope N ps (defScope st)) (len : ∀ vs H Q E, sp vs H Q E → vs.length = ps.length)
    (hbody : ∀ (cdv : Value) (A : Around) (outer : List Env) (s : Shared) (H : Hp) (vs : List V) (Q : VK) (E : XK), Room k (A.deeper (envOfC qual (defScope st) s.heap.objs.size f cdv)) → sp vs H Q E →
      ∃ t, PSs (cxOf (L2.CX P w) P w K mg base N qual (defScope st) f cdv A outer s H E) (defBody st) t ∧ t { nx := fun _ H' => Q .non H', rt := Q } (start N vs) H) : Mr P w K mg base (k + 1) x C ps sp :=
  ⟨f, fd, c, F.okX S len hbody, hm, hb⟩
end
section
variable {X : Cx} {k j : Nat} {C : Addr} {ps : List Str} {sp : Sp} {W : WX} {x m : Str} {p pos apos : Pos} {e o : Expr} {es : List Expr} {ta : TE} {t : TA}
theorem pe_cl (c : Cl X.prog X.w X.K X.mg X.base k x ps sp) (hr : Room j X.A) (hk : k ≤ j) (tk : Takes X W) (hg : Gl X x) (ha : PA X (e :: es) t)
    (hdb : (x == ("__debug__" : Str)) = false := by decide) (he : starEach (e :: es) X.env = (false, eval e X.env) :: starEach es X.env := by rfl) (hpl : (backTo pos (starEach es X.env)).any (·.1) = false := by rfl) :
    PE X (.Call (.Name x p) (e :: es) [] pos) (tCallS sp (WE W) t) := by
  obtain ⟨f, fd, F, hm, kp, b⟩ := c.ex
  exact pe_callS F (hr.mono hk) hg hm kp b (fun σ => passAt tk σ) ha hdb he hpl
def tMethS (C : Addr) (m : Str) (sp : Sp) (E : St → XK) (ta : TE) (t : TA) : TE := fun σ H Q => ta σ H fun x H1 => ∃ a dx fs, x = .ref a ∧ H1 a = some (.ins C dx fs) ∧ fs.lookup m = none ∧
  t σ H1 fun vs H2 => sp (x :: vs) H2 Q (E σ)
theorem pe_mt {pl : Sem Bool} (c : Mt X.prog X.w X.K X.mg X.base k C m ps sp) (hr : Room j X.A) (hk : k ≤ j) (tk : Takes X W) (he : PE X o ta) (ha : PA X (e :: es) t)
    (hst : starEach (e :: es) X.env = (false, eval e X.env) :: starEach es X.env := by rfl) (hpl : (backTo pos (starEach es X.env)).any (·.1) = false := by rfl)
    (ht : eval (.Call (.Attribute o m apos) (e :: es) [] pos) X.env = (do
      let ov ← eval o X.env
      standAt apos.atName
      let (f, first) ← holding [ov] (getMethod ov m pl)
      callWith pos f first (backTo pos (starEach (e :: es) X.env)) (backToKw pos (keywordEach [] X.env))) := by rfl) :
    PE X (.Call (.Attribute o m apos) (e :: es) [] pos) (tMethS C m sp (WE W) ta t) := by
  obtain ⟨f, fd, hc, hm, F, b⟩ := c.ex
  refine ⟨fun pins s σ H Q I h => ?_⟩
  refine PySem.W.methodCall_KW (pl := pl) (thn (he.run pins s σ H _ I h) fun u s1 ⟨x, H1, I1, rx, a, dx, fs, ex, ea, l, q⟩ => ?_) ht
  subst ex
  obtain rfl : u = Value.ref a := rx
  refine getmeth_ok I1 ea hc hm l ?_
  refine PySem.W.callWith_K (first := [.ref a]) (h₀ := X.base) I.ok.mod.kin hm.kp (thn (ha.run pos pins s1 σ H1 _ I1 q) fun us s2 ⟨vs, H2, I2, r, q2⟩ => ⟨I2.kIn, ?_⟩) hst hpl
  exact run_fnS (us := .ref a :: us) (vs := .ref a :: vs) F (hr.mono hk) b (passAt tk σ) I2 (.cons rfl r) q2
theorem pe_mt0 {pl : Sem Bool} (c : Mt X.prog X.w X.K X.mg X.base k C m ps sp) (hr : Room j X.A) (hk : k ≤ j) (tk : Takes X W) (he : PE X o ta)
    (ht : eval (.Call (.Attribute o m apos) [] [] pos) X.env = (do
      let ov ← eval o X.env
      standAt apos.atName
      let (f, first) ← holding [ov] (getMethod ov m pl)
      callWith pos f first (backTo pos (starEach [] X.env)) (backToKw pos (keywordEach [] X.env))) := by rfl) :
    PE X (.Call (.Attribute o m apos) [] [] pos) (tMethS C m sp (WE W) ta tNil) := by
  obtain ⟨f, fd, hc, hm, F, b⟩ := c.ex
  refine ⟨fun pins s σ H Q I h => ?_⟩
  refine PySem.W.methodCall_KW (pl := pl) (thn (he.run pins s σ H _ I h) fun u s1 ⟨x, H1, I1, rx, a, dx, fs, ex, ea, l, q⟩ => ?_) ht
  subst ex
  obtain rfl : u = Value.ref a := rx
  refine getmeth_ok I1 ea hc hm l ?_
  exact PySem.W.callWith_K0 (first := [.ref a]) I1.kIn hm.kp (run_fnS (us := [.ref a]) (vs := [.ref a]) F (hr.mono hk) b (passAt tk σ) I1 (.cons rfl .nil) q)
def tMakeS (C : Addr) (sp : Sp) (E : St → XK) (t : TA) : TE := fun σ H Q => t σ H fun vs H1 => ∀ x dx, H1 x = none → H1 dx = none → dx ≠ x →
  sp (.ref x :: vs) (upd (upd H1 dx (.own x)) x (.ins C dx [])) (fun v H2 => v = .non ∧ Q (.ref x) H2) (E σ)
theorem run_makeS {f : Addr} {fd : FuncData} {pins : List (Addr × Obj)} {σ : St} {H : Hp} {s : Shared} {Q : VK} {us : List Value} {vs : List V} (M : Mk X.K C f) (F : FnOk X.prog X.w X.K X.mg X.base (L2.CX X.prog X.w) k f fd ps sp) (hr : Room (k + 1) X.A) (hb : Binds X.K fd ps [])
    (tk : Takes X W) (I : Inv X pins σ H s) (r : Vals vs us)
    (h : ∀ x dx, H x = none → H dx = none → dx ≠ x → sp (.ref x :: vs) (upd (upd H dx (.own x)) x (.ins C dx [])) (fun v H2 => v = .non ∧ Q (.ref x) H2) (WE W σ)) :
    wpAny (model X.prog X.w) X.A (call (.ref C) us) (EP X pins σ Q) X.xe s := by
  have hq := h (s.heap.objs.size + 1) s.heap.objs.size (I.hok.fresh (Nat.le_succ _)) (I.hok.fresh (Nat.le_refl _)) (Nat.ne_of_lt (Nat.lt_succ_self _))
  have I2 := Inv.made (C := C) I
  have r2 : Vals (V.ref (s.heap.objs.size + 1) :: vs) (Value.ref (s.heap.objs.size + 1) :: us) := .cons rfl r
  have hl : (Value.ref (s.heap.objs.size + 1) :: us).length = ps.length := by
    have e := r2.length
    rw [F.len _ _ _ _ hq] at e
    exact e.symm
  have b := hb _ (Value.ref (s.heap.objs.size + 1) :: us) I2.kIn (by rw [List.append_nil]; exact hl)
  rw [List.append_nil] at b
  refine wpAny_call (make_map (f := f) I.kIn M.makes M.init (beq_iff_eq.mp M.fn) (codeAny_mono (F.run _ X.stack _ _ ⟨Value.ref (s.heap.objs.size + 1) :: us, []⟩ (Value.ref (s.heap.objs.size + 1) :: us) _ _ (WE W σ) (hr.make C us [])
    (I2.env0.make C us []) b r2 hq) fun r s' hq' => ?_))
  cases r with
  | error e => exact passAt tk σ pins _ _ e s' I2 hq'
  | ok fl =>
    cases fl with
    | ret u =>
      obtain ⟨v, H', I3, rv, ev, q3⟩ := I2.after hq'
      subst ev
      exact ⟨rv, ⟨V.ref (s.heap.objs.size + 1), H', I3, rfl, q3⟩⟩
    | next => exact False.elim hq'
    | brk => exact False.elim hq'
    | cont => exact False.elim hq'
theorem pe_mr (c : Mr X.prog X.w X.K X.mg X.base k x C ps sp) (hr : Room j X.A) (hk : k + 1 ≤ j) (tk : Takes X W) (hg : Gl X x) (ha : PA X (e :: es) t)
    (hdb : (x == ("__debug__" : Str)) = false := by decide) (he : starEach (e :: es) X.env = (false, eval e X.env) :: starEach es X.env := by rfl) (hpl : (backTo pos (starEach es X.env)).any (·.1) = false := by rfl) :
    PE X (.Call (.Name x p) (e :: es) [] pos) (tMakeS C sp (WE W) t) := by
  obtain ⟨f, fd, M, F, hm, b⟩ := c.ex
  refine ⟨fun pins s σ H Q I h => ?_⟩
  refine wpAny_Call_Name_kw (ld_glob I hg hm ?_ hdb)
  refine PySem.W.callWith_K (h₀ := X.base) I.ok.mod.kin M.kp (thn (ha.run pos pins s σ H _ I h) fun us s1 ⟨vs, H1, I1, r, q⟩ => ⟨I1.kIn, ?_⟩) he hpl
  exact run_makeS M F (hr.mono hk) b tk I1 r q
end
end G
namespace G
open PySem PySem.Spec PyProof.Rows L2
/-! ### slots -/
class SAt (i : Nat) (σ : St) (v : outParam V) : Prop where
  h : σ[i]? = some (some v)
instance SAt0 {v : V} {r : St} : SAt 0 (some v :: r) v := ⟨rfl⟩
instance SAtS {i : Nat} {y : Option V} {r : St} {v : V} [a : SAt i r v] : SAt (i + 1) (y :: r) v := ⟨by simpa using a.h⟩
class SSet (i : Nat) (x : Option V) (σ : St) (σ' : outParam St) : Prop where
  h : σ.set i x = σ'
instance SSet0 {x y : Option V} {r : St} : SSet 0 x (y :: r) (x :: r) := ⟨rfl⟩
instance SSetS {i : Nat} {x y : Option V} {r r' : St} [a : SSet i x r r'] : SSet (i + 1) x (y :: r) (y :: r') := ⟨by rw [List.set_cons_succ, a.h]⟩
class SWipe (σ : St) (vs : List Nat) (σ' : outParam St) : Prop where
  h : wipe σ vs = σ'
instance SWipe0 {σ : St} : SWipe σ [] σ := ⟨rfl⟩
instance SWipeS {σ σ1 σ2 : St} {v : Nat} {vs : List Nat} [a : SWipe σ vs σ1] [b : SSet v none σ1 σ2] : SWipe σ (v :: vs) σ2 := ⟨by show (wipe σ vs).set v none = σ2; rw [a.h, b.h]⟩
/-! ### heaps -/
def isTup : HO → Bool
  | .tup _ => true | _ => false
/-- a new place (no bare equation: no unifier may take it for another heap's) -/
structure Fre (H : Hp) (p : Addr) : Prop where
  h : H p = none
/-- what stood stands, but for the objects at W; a tuple stands for ever; what is tracked stays tracked -/
structure Kp (W : List Addr) (H H' : Hp) : Prop where
  keep : ∀ b o, H b = some o → (b ∈ W → isTup o = true) → H' b = some o
  dom : ∀ b o, H b = some o → ∃ o', H' b = some o'
theorem Kp.get {W : List Addr} {H H' : Hp} {a : Addr} {o : HO} (k : Kp W H H') (h : H a = some o) (n : a ∉ W) : H' a = some o := k.keep a o h fun z => absurd z n
theorem Kp.getT {W : List Addr} {H H' : Hp} {a : Addr} {xs : List V} (k : Kp W H H') (h : H a = some (.tup xs)) : H' a = some (.tup xs) := k.keep a _ h fun _ => rfl
theorem Kp.get0 {H H' : Hp} {a : Addr} {o : HO} (k : Kp [] H H') (h : H a = some o) : H' a = some o := k.keep a o h fun z => by cases z
theorem Kp.getW {w : Addr} {W : List Addr} {H H' : Hp} {a : Addr} {o : HO} (k : Kp (w :: W) H H') (h : H a = some o) (n : isTup o = true ∨ a ∉ w :: W) : H' a = some o := k.keep a o h fun z => n.elim id fun n => absurd z n
theorem Kp.refl {W : List Addr} {H : Hp} : Kp W H H := ⟨fun _ _ h _ => h, fun _ o h => ⟨o, h⟩⟩
theorem Kp.trans {W : List Addr} {H H1 H2 : Hp} (a : Kp W H H1) (b : Kp W H1 H2) : Kp W H H2 := ⟨fun c o h n => b.keep c o (a.keep c o h n) n, fun c o h => by obtain ⟨o', h'⟩ := a.dom c o h; exact b.dom c o' h'⟩
theorem Kp.mono {W W' : List Addr} {H H' : Hp} (k : Kp W H H') (s : ∀ a, a ∈ W → a ∈ W') : Kp W' H H' := ⟨fun b o h n => k.keep b o h fun z => n (s b z), k.dom⟩
theorem Kp.of0 {W : List Addr} {H H' : Hp} (k : Kp [] H H') : Kp W H H' := k.mono fun _ h => by cases h
theorem Kp.same {H H' : Hp} (k : Kp [] H H') : Same H H' := fun b o h => k.keep b o h fun z => by cases z
theorem Kp.ofSame {W : List Addr} {H H' : Hp} (k : Same H H') : Kp W H H' := ⟨fun b o h _ => k b o h, fun b o h => ⟨o, k b o h⟩⟩
theorem Kp.free {W : List Addr} {H H' : Hp} {a : Addr} (k : Kp W H H') (h : H' a = none) : H a = none := by
  cases e : H a with
  | none => rfl
  | some o =>
    obtain ⟨o', e'⟩ := k.dom a o e
    rw [h] at e'; cases e'
theorem Kp.seq {K : PySem.W.Frag} {H H' : Hp} {a : Addr} {xs : List V} (k : Kp [] H H') (h : SqL K H a xs) : SqL K H' a xs := k.same.seq h
theorem Kp.new {H : Hp} {p : Addr} {o : HO} (h : H p = none) : Kp [] H (upd H p o) := Kp.ofSame fun b u e => by rw [upd_ne (ne_of_none e h)]; exact e
theorem Kp.wr {H : Hp} {p : Addr} {o u : HO} (h : H p = some u) (hu : isTup u = false := by rfl) : Kp [p] H (upd H p o) := by
  refine ⟨fun b v e n => ?_, fun b v e => ?_⟩
  · have nb : b ≠ p := fun z => by
      subst z
      rw [h] at e; cases e
      have q := n (by simp)
      rw [hu] at q; cases q
    rw [upd_ne nb]; exact e
  · by_cases hb : b = p
    · subst hb; exact ⟨_, upd_same⟩
    · exact ⟨v, by rw [upd_ne hb]; exact e⟩
/-- a list is only read where it is frozen or of the module: writes do not touch it -/
theorem Kp.seqW {K : PySem.W.Frag} {W : List Addr} {H H' : Hp} {a : Addr} {xs : List V} (k : Kp W H H') (h : SqL K H a xs) (n : a ∉ W) : SqL K H' a xs := by
  rcases h with (h | ⟨o, h⟩) | h
  · exact .inl (.inl (k.get h n))
  · exact .inl (.inr ⟨o, k.get h n⟩)
  · exact .inr h
/-- one more step: what it writes is W's, or new since H -/
theorem Kp.step {W W1 : List Addr} {H H1 H' : Hp} (p : Kp W H H1) (k : Kp W1 H1 H') (s : ∀ a ∈ W1, a ∈ W ∨ Fre H a) : Kp W H H' :=
  ⟨fun b o e n => k.keep b o (p.keep b o e n) (fun z => (s b z).elim n (fun q => by have q := q.h; rw [e] at q; cases q)), fun b o e => by
    obtain ⟨o', e'⟩ := p.dom b o e
    exact k.dom b o' e'⟩
theorem Kp.step0 {W : List Addr} {H H1 H' : Hp} (p : Kp W H H1) (k : Kp [] H1 H') : Kp W H H' := p.step k fun _ h => by cases h
theorem Kp.stepW {W W1 : List Addr} {w : Addr} {H H1 H' : Hp} (p : Kp W H H1) (k : Kp (w :: W1) H1 H') (s : ∀ a ∈ w :: W1, a ∈ W ∨ Fre H a) : Kp W H H' := p.step k s
theorem Kp.seq0 {K : PySem.W.Frag} {H H' : Hp} {a : Addr} {xs : List V} (k : Kp [] H H') (h : SqL K H a xs) : SqL K H' a xs := k.seqW h (by simp)
theorem Kp.seqS {K : PySem.W.Frag} {w : Addr} {W : List Addr} {H H' : Hp} {a : Addr} {xs : List V} (k : Kp (w :: W) H H') (h : SqL K H a xs) (n : a ∉ w :: W) : SqL K H' a xs := k.seqW h n
theorem sub_nil {P : Addr → Prop} : ∀ a ∈ ([] : List Addr), P a := fun _ h => by cases h
theorem sub_cons {P : Addr → Prop} {a : Addr} {l : List Addr} (h : P a) (t : ∀ b ∈ l, P b) : ∀ b ∈ a :: l, P b := fun b hb => (List.mem_cons.mp hb).elim (fun e => e ▸ h) (t b)
theorem Fre.free {W : List Addr} {H H1 : Hp} {a : Addr} (f : Fre H1 a) (k : Kp W H H1) : H a = none := k.free f.h
theorem Fre.fwd {W : List Addr} {H H1 : Hp} {a : Addr} (k : Kp W H H1) (f : Fre H1 a) : Fre H a := ⟨k.free f.h⟩
theorem Fre.back {W : List Addr} {H H1 : Hp} {a : Addr} (f : Fre H1 a) (k : Kp W H H1) : Fre H a := ⟨k.free f.h⟩
theorem nin_nil {a : Addr} : a ∉ ([] : List Addr) := by simp
theorem nin_cons {a p : Addr} {l : List Addr} (h : a ≠ p) (h2 : a ∉ l) : a ∉ p :: l := by simp [h, h2]
theorem ne_fr {H : Hp} {a p : Addr} {o : HO} (hn : Fre H p) (ha : H a = some o) : a ≠ p := ne_of_none ha hn.h
theorem ne_kind {H : Hp} {a p : Addr} {o u : HO} (ha : H a = some o) (hp : H p = some u) (d : o ≠ u) : a ≠ p := ne_of ha hp d
theorem len_ok {xs : List V} (h : xs.length ≤ 1000) : xs.length ≤ sizeLine := Nat.le_trans h (by decide)
theorem len_lt {n : Nat} (h : n ≤ 1000) : n < sizeLine := small1000 h
/-! ### readings, one lemma each -/
section
variable {σ σ' : St} {H : Hp} {Q : VK} {QT : Bool → Hp → Prop} {QA : List V → Hp → Prop} {v x y : V} {i j : Nat} {K : PySem.W.Frag}
variable {n b c : St → Hp → Prop} {r : VK} {t u : TS} {te ta tb tc : TE} {tt tt' : TT} {g : TG} {tA : TA} {D : Ends}
theorem vVar [h : SAt i σ v] (q : Q v H) : tVar i σ H Q := ⟨v, h.h, q⟩
theorem vC (q : Q v H) : tC v σ H Q := q
theorem vName [h : SSet i (some x) σ σ'] {q : St → Hp → Prop} (k : q σ' H) : gName i x σ H q := by unfold gName; rw [h.h]; exact k
theorem vSeq (h : t ⟨u ⟨n, r, b, c⟩, r, b, c⟩ σ H) : tSeq t u ⟨n, r, b, c⟩ σ H := h
theorem vAsg (h : te σ H fun x H1 => g x σ H1 n) : tAsg te g ⟨n, r, b, c⟩ σ H := h
theorem vRet (h : te σ H r) : tRet te ⟨n, r, b, c⟩ σ H := h
theorem vRetN (h : r .non H) : tRetN ⟨n, r, b, c⟩ σ H := h
theorem vDrop (h : te σ H fun _ H1 => n σ H1) : tDrop te ⟨n, r, b, c⟩ σ H := h
theorem vIfS (h : tt σ H fun k H1 => if k = true then t D σ H1 else u D σ H1) : tIfS tt t u D σ H := h
theorem vNext (h : n σ H) : tNext ⟨n, r, b, c⟩ σ H := h
theorem vBreak (h : b σ H) : tBreak ⟨n, r, b, c⟩ σ H := h
theorem vCont (h : c σ H) : tCont ⟨n, r, b, c⟩ σ H := h
/-- a bool handed on -/
def rBl (QT : Bool → Hp → Prop) : VK := fun x H => ∃ k, x = .bl k ∧ QT k H
theorem vrBl {k : Bool} (q : QT k H) : rBl QT (.bl k) H := ⟨k, rfl, q⟩
theorem vTest (h : te σ H (rBl QT)) : tTest te σ H QT := h
theorem vB (h : te σ H (rBl QT)) : tB te σ H QT := h
theorem vAnd (h : tt σ H fun k H1 => if k = true then tt' σ H1 QT else QT false H1) : tAnd tt tt' σ H QT := h
theorem vOr (h : tt σ H fun k H1 => if k = true then QT true H1 else tt' σ H1 QT) : tOr tt tt' σ H QT := h
theorem vNot (h : tt σ H fun k H1 => QT (!k) H1) : tNot tt σ H QT := h
theorem vAndV (h : ta σ H (rBl fun k H1 => if k = true then tb σ H1 Q else Q (.bl false) H1)) : tAndV ta tb σ H Q := h
theorem vOrV (h : ta σ H (rBl fun k H1 => if k = true then Q (.bl true) H1 else tb σ H1 Q)) : tOrV ta tb σ H Q := h
theorem vNotV (h : ta σ H (rBl fun k H1 => Q (.bl (!k)) H1)) : tNotV ta σ H Q := h
theorem vIfE (h : tt σ H fun k H1 => if k = true then ta σ H1 Q else tb σ H1 Q) : tIf tt ta tb σ H Q := h
theorem vOp {rr : R2} (h : ta σ H fun x H1 => tb σ H1 fun y H2 => rr x y H2 Q) : tOp rr ta tb σ H Q := h
theorem vChain {rr rr' : R2} (h : ta σ H fun x H1 => tb σ H1 fun y H2 => rr x y H2 (rBl fun k H3 => if k = true then tc σ H3 fun z H4 => rr' y z H4 Q else Q (.bl false) H3)) : tChain rr rr' ta tb tc σ H Q := h
theorem vUn {rr : V → Hp → VK → Prop} (h : ta σ H fun x H1 => rr x H1 Q) : tUn rr ta σ H Q := h
theorem vNil (q : QA [] H) : tNil σ H QA := q
theorem vCons (h : te σ H fun x H1 => tA σ H1 fun xs H2 => QA (x :: xs) H2) : tCons te tA σ H QA := h
/-- a new object -/
def rNewL : List V → Hp → VK → Prop := fun xs H Q => xs.length ≤ sizeLine ∧ ∀ p, H p = none → Q (.ref p) (upd H p (.lst xs))
def rNewT : List V → Hp → VK → Prop := fun xs H Q => xs.length ≤ sizeLine ∧ ∀ p, H p = none → Q (.ref p) (upd H p (.tup xs))
theorem vLst (h : tA σ H fun xs H1 => rNewL xs H1 Q) : tLst tA σ H Q := h
theorem vTup (h : tA σ H fun xs H1 => rNewT xs H1 Q) : tTup tA σ H Q := h
theorem vNewL {xs : List V} (z : xs.length ≤ sizeLine) (h : ∀ p H', Fre H p → Kp [] H H' → H' p = some (.lst xs) → Q (.ref p) H') : rNewL xs H Q := ⟨z, fun p hp => h p _ ⟨hp⟩ (Kp.new hp) upd_same⟩
theorem vNewT {xs : List V} (z : xs.length ≤ sizeLine) (h : ∀ p H', Fre H p → Kp [] H H' → H' p = some (.tup xs) → Q (.ref p) H') : rNewT xs H Q := ⟨z, fun p hp => h p _ ⟨hp⟩ (Kp.new hp) upd_same⟩
/-- operators -/
theorem vI0 {f : Int → Int → V} {i j : Int} (q : Q (f i j) H) : rI0 f (.int i) (.int j) H Q := ⟨i, j, rfl, rfl, q⟩
theorem vI {C : Int → Int → Prop} {f : Int → Int → V} {i j : Int} (h : C i j) (q : Q (f i j) H) : rI C f (.int i) (.int j) H Q := ⟨i, j, rfl, rfl, h, q⟩
theorem vU {f : Int → V} {i : Int} (q : Q (f i) H) : rU f (.int i) H Q := ⟨i, rfl, q⟩
theorem vEq (h : scal x y = true) (q : Q (.bl (decide (x = y))) H) : rEq x y H Q := ⟨h, q⟩
theorem vNe (h : scal x y = true) (q : Q (.bl (!decide (x = y))) H) : rNe x y H Q := ⟨h, q⟩
theorem dI {i j : Int} : decide (V.int i = V.int j) = decide (i = j) := decide_eq_decide.mpr ⟨fun h => V.int.inj h, fun h => by rw [h]⟩
theorem dS {i j : Str} : decide (V.str i = V.str j) = decide (i = j) := decide_eq_decide.mpr ⟨fun h => V.str.inj h, fun h => by rw [h]⟩
theorem dB {i j : Bool} : decide (V.bl i = V.bl j) = decide (i = j) := decide_eq_decide.mpr ⟨fun h => V.bl.inj h, fun h => by rw [h]⟩
theorem vEqI {i j : Int} (q : Q (.bl (decide (i = j))) H) : rEq (.int i) (.int j) H Q := vEq rfl (by rw [dI]; exact q)
theorem vNeI {i j : Int} (q : Q (.bl (!decide (i = j))) H) : rNe (.int i) (.int j) H Q := vNe rfl (by rw [dI]; exact q)
theorem vEqS {i j : Str} (q : Q (.bl (decide (i = j))) H) : rEq (.str i) (.str j) H Q := vEq rfl (by rw [dS]; exact q)
theorem vNeS {i j : Str} (q : Q (.bl (!decide (i = j))) H) : rNe (.str i) (.str j) H Q := vNe rfl (by rw [dS]; exact q)
theorem vEqB {i j : Bool} (q : Q (.bl (decide (i = j))) H) : rEq (.bl i) (.bl j) H Q := vEq rfl (by rw [dB]; exact q)
theorem vNeB {i j : Bool} (q : Q (.bl (!decide (i = j))) H) : rNe (.bl i) (.bl j) H Q := vNe rfl (by rw [dB]; exact q)
def rIsN : R2 := fun x y H Q => y = .non ∧ Q (.bl (decide (x = .non))) H
def rNotN : R2 := fun x y H Q => y = .non ∧ Q (.bl (!decide (x = .non))) H
theorem vIsN (q : Q (.bl (decide (x = .non))) H) : rIsN x .non H Q := ⟨rfl, q⟩
theorem vNotN (q : Q (.bl (!decide (x = .non))) H) : rNotN x .non H Q := ⟨rfl, q⟩
theorem vIxL {p : Addr} {xs : List V} {i : Int} (h : SqL K H p xs) (e : atI xs i = some v) (q : Q v H) : rIxL K (.ref p) (.int i) H Q := ⟨p, xs, i, v, rfl, rfl, h, e, q⟩
theorem vIxT {p : Addr} {xs : List V} {i : Int} (h : SqT K H p xs) (e : atI xs i = some v) (q : Q v H) : rIxT K (.ref p) (.int i) H Q := ⟨p, xs, i, v, rfl, rfl, h, e, q⟩
theorem vIn {neg : Bool} {p : Addr} {xs : List V} (h : SqL K H p xs ∨ SqT K H p xs) (f1 : flatV x = true) (f2 : xs.all flatV = true) (q : Q (.bl (if neg then !inV x xs else inV x xs)) H) : rIn K neg x (.ref p) H Q := ⟨p, xs, rfl, h, f1, f2, q⟩
theorem vInP {p : Addr} {xs : List V} (h : SqL K H p xs ∨ SqT K H p xs) (f1 : flatV x = true) (f2 : xs.all flatV = true) (q : Q (.bl (inV x xs)) H) : rIn K false x (.ref p) H Q := ⟨p, xs, rfl, h, f1, f2, q⟩
theorem vInN {p : Addr} {xs : List V} (h : SqL K H p xs ∨ SqT K H p xs) (f1 : flatV x = true) (f2 : xs.all flatV = true) (q : Q (.bl (!inV x xs)) H) : rIn K true x (.ref p) H Q := ⟨p, xs, rfl, h, f1, f2, q⟩
theorem vCat {l m : Addr} {xs zs : List V} (h1 : H l = some (.lst xs)) (h2 : H m = some (.lst zs)) (z : xs.length + zs.length ≤ sizeLine) (q : ∀ p H', Fre H p → Kp [] H H' → H' p = some (.lst (xs ++ zs)) → Q (.ref p) H') : rCat (.ref l) (.ref m) H Q :=
  ⟨l, m, xs, zs, rfl, rfl, h1, h2, z, fun p hp => q p _ ⟨hp⟩ (Kp.new hp) upd_same⟩
theorem vEqD {d e : PyData} (h1 : Dp K H x d) (h2 : Dp K H y e) (s1 : SeqAt.shaped d = true) (s2 : SeqAt.shaped e = true) (q : Q (.bl (PyData.eqv d e)) H) : rEqD K x y H Q := ⟨d, e, h1, h2, s1, s2, q⟩
theorem vNeD {d e : PyData} (h1 : Dp K H x d) (h2 : Dp K H y e) (s1 : SeqAt.shaped d = true) (s2 : SeqAt.shaped e = true) (q : Q (.bl (!PyData.eqv d e)) H) : rNeD K x y H Q := ⟨d, e, h1, h2, s1, s2, q⟩
/-- builtins -/
theorem vCB {rr : List V → Hp → VK → Prop} (h : tA σ H fun vs H1 => rr vs H1 Q) : tCB rr tA σ H Q := h
def rLen (K : PySem.W.Frag) : List V → Hp → VK → Prop := fun xs H Q => ∃ p ys, xs = [.ref p] ∧ (SqL K H p ys ∨ SqT K H p ys) ∧ Q (.int ys.length) H
theorem vLen {p : Addr} {ys : List V} (h : SqL K H p ys ∨ SqT K H p ys) (q : Q (.int ys.length) H) : rLen K [.ref p] H Q := ⟨p, ys, rfl, h, q⟩
theorem vIsi {t : Value} {s : String} {b : Bool} (ty : TyX K H x t) (e : PySem.W.kitOne K t (.type s) = some b) (q : Q (.bl b) H) : rIsi K [x, .ty s] H Q := ⟨x, .ty s, t, .type s, b, rfl, .ty s, ty, e, q⟩
def rInt1 : List V → Hp → VK → Prop := fun xs H Q => (∃ i, xs = [.int i] ∧ Q (.int i) H) ∨ (∃ k, xs = [.bl k] ∧ Q (.int (b2i k)) H)
theorem vIntB {k : Bool} (q : Q (.int (b2i k)) H) : rInt1 [.bl k] H Q := .inr ⟨k, rfl, q⟩
theorem vIntI {k : Int} (q : Q (.int k) H) : rInt1 [.int k] H Q := .inl ⟨k, rfl, q⟩
def rListOf (K : PySem.W.Frag) : List V → Hp → VK → Prop := fun xs H Q => ∃ p ys, xs = [.ref p] ∧ (SqL K H p ys ∨ SqT K H p ys) ∧ ∀ l, H l = none → Q (.ref l) (upd H l (.lst ys))
theorem vListOf {p : Addr} {ys : List V} (h : SqL K H p ys ∨ SqT K H p ys) (q : ∀ l H', Fre H l → Kp [] H H' → H' l = some (.lst ys) → Q (.ref l) H') : rListOf K [.ref p] H Q := ⟨p, ys, rfl, h, fun l hl => q l _ ⟨hl⟩ (Kp.new hl) upd_same⟩
def rTupOf (K : PySem.W.Frag) : List V → Hp → VK → Prop := fun xs H Q => ∃ p ys, xs = [.ref p] ∧ ((SqL K H p ys ∧ ∀ l, H l = none → Q (.ref l) (upd H l (.tup ys))) ∨ (SqT K H p ys ∧ Q (.ref p) H))
theorem vTupOf {p : Addr} {ys : List V} (h : SqL K H p ys) (q : ∀ l H', Fre H l → Kp [] H H' → H' l = some (.tup ys) → Q (.ref l) H') : rTupOf K [.ref p] H Q := ⟨p, ys, rfl, .inl ⟨h, fun l hl => q l _ ⟨hl⟩ (Kp.new hl) upd_same⟩⟩
/-- methods of lists -/
theorem vBM {T : String} {rr : V → List V → Hp → VK → Prop} (h : te σ H fun x H1 => tyV K T x H1 ∧ tA σ H1 fun xs H2 => rr x xs H2 Q) : tBM K T rr te tA σ H Q := h
theorem vAppend {l : Addr} {xs : List V} (h : H l = some (.lst xs)) (z : xs.length < sizeLine) (q : ∀ H', Kp [l] H H' → H' l = some (.lst (xs ++ [y])) → Q .non H') : rAppend (.ref l) [y] H Q := ⟨l, xs, y, rfl, rfl, h, z, q _ (Kp.wr h) upd_same⟩
theorem tyL {l : Addr} {xs : List V} (h : H l = some (.lst xs)) : tyV K "list" (.ref l) H := Or.inl ⟨rfl, _, SqL.of h⟩
theorem tySq {l : Addr} {xs : List V} (h : SqL K H l xs) : tyV K "list" (.ref l) H := Or.inl ⟨rfl, _, h⟩
/-- fields -/
def rFld (K : PySem.W.Frag) (f : Str) : V → Hp → VK → Prop := fun x H1 Q => ∃ a C dx fs v, x = .ref a ∧ H1 a = some (.ins C dx fs) ∧ Cls K C ∧ NoAttr K C f ∧ fs.lookup f = some v ∧ Q v H1
theorem vFld {f : Str} (h : te σ H fun x H1 => rFld K f x H1 Q) : tFld K te f σ H Q := h
theorem vrFld {f : Str} {a C dx : Addr} {fs : List (Str × V)} (h : H a = some (.ins C dx fs)) (c : Cls K C) (na : NoAttr K C f) (l : fs.lookup f = some v) (q : Q v H) : rFld K f (.ref a) H Q := ⟨a, C, dx, fs, v, rfl, h, c, na, l, q⟩
def rSF (K : PySem.W.Frag) (f : Str) (q : Hp → Prop) : V → V → Hp → Prop := fun y x H2 => ∃ a C dx fs, x = .ref a ∧ H2 a = some (.ins C dx fs) ∧ Cls K C ∧ NoAttr K C f ∧ fs.length < 1000 ∧ q (upd H2 a (.ins C dx (putF f y fs)))
theorem vSF {f : Str} (h : tb σ H fun y H1 => ta σ H1 fun x H2 => rSF K f (fun H3 => n σ H3) y x H2) : sFld K ta tb f ⟨n, r, b, c⟩ σ H := h
theorem vrSF {f : Str} {a C dx : Addr} {fs : List (Str × V)} {q : Hp → Prop} (h : H a = some (.ins C dx fs)) (cl : Cls K C) (na : NoAttr K C f) (l : fs.length < 1000) (k : ∀ H', Kp [a] H H' → H' a = some (.ins C dx (putF f y fs)) → q H') : rSF K f q y (.ref a) H :=
  ⟨a, C, dx, fs, rfl, h, cl, na, l, k _ (Kp.wr h) upd_same⟩
/-- o[i] = v -/
theorem vSub {to ti : TE} {ts : TSet} {q : St → Hp → Prop} (h : to σ H fun o H1 => ti σ H1 fun i H2 => ts o i v H2 fun H3 => q σ H3) : gSub to ti ts v σ H q := h
theorem vSetL {p : Addr} {xs : List V} {k : Int} {q : Hp → Prop} (h : H p = some (.lst xs)) (e : ixN xs.length k = some j) (z : ∀ H', Kp [p] H H' → H' p = some (.lst (xs.set j v)) → q H') : rSetL (.ref p) (.int k) v H q := ⟨p, xs, k, j, rfl, rfl, h, e, z _ (Kp.wr h) upd_same⟩
/-- slices -/
theorem vSl {rr : V → Option Int → Option Int → Hp → VK → Prop} {tl th : TO} (h : te σ H fun x H1 => tl σ H1 fun l H2 => th σ H2 fun u H3 => rr x l u H3 Q) : tSl rr te tl th σ H Q := h
theorem vNoPart {q : Option Int → Hp → Prop} (h : q none H) : tNoPart σ H q := h
def rPart (q : Option Int → Hp → Prop) : VK := fun x H1 => ∃ i, x = .int i ∧ q (some i) H1
theorem vPart {q : Option Int → Hp → Prop} (h : te σ H (rPart q)) : tPart te σ H q := h
theorem vrPart {q : Option Int → Hp → Prop} {i : Int} (h : q (some i) H) : rPart q (.int i) H := ⟨i, rfl, h⟩
theorem vSlL {a : Addr} {xs : List V} {lo hi : Option Int} (h : SqL K H a xs) (q : ∀ p H', Fre H p → Kp [] H H' → H' p = some (.lst (cutV xs lo hi)) → Q (.ref p) H') : rSlL K (.ref a) lo hi H Q := ⟨a, xs, rfl, h, fun p hp => q p _ ⟨hp⟩ (Kp.new hp) upd_same⟩
/-- calls -/
theorem vCall {sp : Sp} {E : St → XK} (h : tA σ H fun vs H1 => sp vs H1 Q (E σ)) : tCallS sp E tA σ H Q := h
def rMeth (C : Addr) (m : Str) (k : List V → Hp → Prop) (tA : TA) (σ : St) : V → Hp → Prop := fun x H1 => ∃ a dx fs, x = .ref a ∧ H1 a = some (.ins C dx fs) ∧ fs.lookup m = none ∧ tA σ H1 fun vs H2 => k (x :: vs) H2
theorem vMeth {C : Addr} {m : Str} {sp : Sp} {E : St → XK} (h : te σ H (rMeth C m (fun vs H2 => sp vs H2 Q (E σ)) tA σ)) : tMethS C m sp E te tA σ H Q := h
theorem vrMeth {C a dx : Addr} {fs : List (Str × V)} {m : Str} {k : List V → Hp → Prop} (h : H a = some (.ins C dx fs)) (l : fs.lookup m = none) (q : tA σ H fun vs H2 => k (.ref a :: vs) H2) : rMeth C m k tA σ (.ref a) H := ⟨a, dx, fs, rfl, h, l, q⟩
theorem vMake {C : Addr} {sp : Sp} {E : St → XK} (h : tA σ H fun vs H1 => ∀ x dx, H1 x = none → H1 dx = none → dx ≠ x → sp (.ref x :: vs) (upd (upd H1 dx (.own x)) x (.ins C dx [])) (fun v H2 => v = .non ∧ Q (.ref x) H2) (E σ)) : tMakeS C sp E tA σ H Q := h
end
end G
namespace G
open PySem PySem.Spec PyProof.Rows L2
theorem b_len : bootBuiltins "len" = some (.builtin "len") := by decide +kernel
theorem b_isinstance : bootBuiltins "isinstance" = some (.builtin "isinstance") := by decide +kernel
theorem b_min : bootBuiltins "min" = some (.builtin "min") := by decide +kernel
theorem b_max : bootBuiltins "max" = some (.builtin "max") := by decide +kernel
theorem b_all : bootBuiltins "all" = some (.builtin "all") := by decide +kernel
theorem b_int : bootBuiltins "int" = some (.type "int") := by decide +kernel
theorem b_str : bootBuiltins "str" = some (.type "str") := by decide +kernel
theorem b_bool : bootBuiltins "bool" = some (.type "bool") := by decide +kernel
theorem b_list : bootBuiltins "list" = some (.type "list") := by decide +kernel
theorem b_tuple : bootBuiltins "tuple" = some (.type "tuple") := by decide +kernel
theorem b_ValueError : bootBuiltins "ValueError" = some (.type "ValueError") := by decide +kernel
section
variable {X : Cx}
theorem pe_gref {x : Str} {a : Addr} {pos : Pos} (hg : Gl X x) (hm : X.mg x = some (.ref a)) (hd : (x == ("__debug__" : Str)) = false := by decide) : PE X (.Name x pos) (tC (.ref a)) := pe_glob hg hm rfl hd
theorem pe_gint {x : Str} {n : Int} {pos : Pos} (hg : Gl X x) (hm : ∃ t, X.mg x = some (.int n t)) (hd : (x == ("__debug__" : Str)) = false := by decide) : PE X (.Name x pos) (tC (.int n)) := by
  obtain ⟨t, hm⟩ := hm
  exact pe_glob hg hm ⟨t, rfl⟩ hd
/-- raise C('..') -/
def tRaise (C : Addr) (W : WX) : TS := fun _ σ H => W (.ref C) none σ H
theorem ps_raiseG {W : WX} {C : Addr} {x m : Str} {j : Nat} {p p2 pos pos2 : Pos} (hc : X.calm = true) (tk : Takes X W) (q : PySem.W.excIn X.K C [.type "ValueError", .type "Exception", .type "BaseException", .type "object"] "ValueError.__new__" = true) (gC : X.mg x = some (.ref C)) (kC : PySem.W.keepIn X.K (.ref C) = true)
    (h1 : PySem.W.subIn X.K (.ref C) (.type "BaseException") = some true) (h2 : PySem.W.typeIn X.K (.ref C) = some (.type "type")) (hg : Gl X x) (hdb : (x == ("__debug__" : Str)) = false := by decide) :
    PS X (.Raise (some (.Call (.Name x p) [.Constant (.str m) j p2] [] pos)) none pos2) (tRaise C W) := ps_raise hc tk (pmk_own PySem.F.excBase_ValueError q gC kC (raises_own h1 h2) hg hdb)
theorem vRaise {W : WX} {C : Addr} {D : Ends} {σ : St} {H : Hp} (h : W (.ref C) none σ H) : tRaise C W D σ H := h
theorem op_mulX : OpR X (binaryOp .Mult) (rI IntMulOk fun i j => .int (i * j)) := opI fun _ _ _ _ _ _ _ hc q => mul_int q hc
theorem call_lenG : CallR X (.builtin "len") (rLen X.K) := call_len_seq
theorem call_intG : CallR X (.type "int") rInt1 := call_int1
theorem call_listG : CallR X (.type "list") (rListOf X.K) := call_list_of
theorem call_tupG : CallR X (.type "tuple") (rTupOf X.K) := call_tuple_of
def rMin2 : List V → Hp → VK → Prop := fun xs H Q => ∃ i j, xs = [.int i, .int j] ∧ Q (.int (if j < i then j else i)) H
theorem call_minG (hc : X.calm = true) : CallR X (.builtin "min") rMin2 := call_min2 hc
theorem vMin2 {i j : Int} {H : Hp} {Q : VK} (q : Q (.int (if j < i then j else i)) H) : rMin2 [.int i, .int j] H Q := ⟨i, j, rfl, q⟩
end
theorem ati2I (c x y : Int) : atI [V.int x, V.int y] (c % 2) = some (.int (if c % 2 = 0 then x else y)) := by
  rcases (show c % 2 = 0 ∨ c % 2 = 1 by omega) with e | e <;> rw [e] <;> rfl
theorem ati2S (c : Int) (x y : Str) : atI [V.str x, V.str y] (c % 2) = some (.str (if c % 2 = 0 then x else y)) := by
  rcases (show c % 2 = 0 ∨ c % 2 = 1 by omega) with e | e <;> rw [e] <;> rfl
theorem start_cc {n : Str} {N : List Str} {v : V} {vs : List V} : L2.start (n :: N) (v :: vs) = some v :: L2.start N vs := by simp [L2.start]
theorem start_cn {n : Str} {N : List Str} : L2.start (n :: N) [] = none :: L2.start N [] := by simp [L2.start, List.replicate_succ]
theorem start_nn : L2.start [] [] = [] := rfl
theorem cxK {CX : CXT} {P : Program} {w : World} {K : PySem.W.Frag} {mg : Str → Option Value} {base : Heap} {N : List Str} {qual : Str} {scope : Scope} {f : Addr} {cd : Value} {A : Around} {outer : List Env} {s : Shared} {H : Hp} {E : XK} :
    (cxOf CX P w K mg base N qual scope f cd A outer s H E).K = K := rfl
theorem iteNT {A B : Prop} (h : B) : if (!true) = true then A else B := iteF h
theorem iteNF {A B : Prop} (h : A) : if (!false) = true then A else B := iteT h
theorem vIte {b : Bool} {A B : Prop} (h1 : b = true → A) (h2 : b = false → B) : if b = true then A else B := by
  cases b
  · exact iteF (h2 rfl)
  · exact iteT (h1 rfl)
theorem vIteNB {b : Bool} {A B : Prop} (h1 : b = false → A) (h2 : b = true → B) : if (!b) = true then A else B := by
  cases b
  · exact iteT (h1 rfl)
  · exact iteF (h2 rfl)
theorem vIteD {P : Prop} [Decidable P] {A B : Prop} (h1 : P → A) (h2 : ¬ P → B) : if decide P = true then A else B := by
  by_cases h : P
  · rw [decide_eq_true h]; exact iteT (h1 h)
  · rw [decide_eq_false h]; exact iteF (h2 h)
theorem iteDT {P : Prop} [Decidable P] {A B : Prop} (h : P) (k : A) : if decide P = true then A else B := by
  rw [decide_eq_true h]; exact iteT k
theorem iteDF {P : Prop} [Decidable P] {A B : Prop} (h : ¬ P) (k : B) : if decide P = true then A else B := by
  rw [decide_eq_false h]; exact iteF k
theorem iteWT {w : Str} {xs : List V} {A B : Prop} (h : inV (.str w) xs = true) (k : A) : if inV (.str w) xs = true then A else B := by
  rw [h]; exact iteT k
theorem iteWF {w : Str} {xs : List V} {A B : Prop} (h : inV (.str w) xs = false) (k : B) : if inV (.str w) xs = true then A else B := by
  rw [h]; exact iteF k
theorem iteST {a b : Str} {A B : Prop} (h : a = b) (k : A) : if decide (a = b) = true then A else B := by
  rw [decide_eq_true h]; exact iteT k
theorem iteSF {a b : Str} {A B : Prop} (h : ¬ a = b) (k : B) : if decide (a = b) = true then A else B := by
  rw [decide_eq_false h]; exact iteF k
theorem iteNDT {P : Prop} [Decidable P] {A B : Prop} (h : P) (k : B) : if (!decide P) = true then A else B := by
  rw [decide_eq_true h]; exact iteF k
theorem iteNDF {P : Prop} [Decidable P] {A B : Prop} (h : ¬ P) (k : A) : if (!decide P) = true then A else B := by
  rw [decide_eq_false h]; exact iteT k
theorem vIteN {P : Prop} [Decidable P] {A B : Prop} (h1 : ¬ P → A) (h2 : P → B) : if (!decide P) = true then A else B := by
  by_cases h : P
  · rw [decide_eq_true h]; exact iteF (h2 h)
  · rw [decide_eq_false h]; exact iteT (h1 h)
end G
namespace G
open PySem PySem.Spec PyProof.Rows L2
theorem tup_of {K : PySem.W.Frag} {a : Addr} {od : Option Addr} {us : List Value} {n : Nat} {sl : Array (Option Value)} {xs : List V} (l : K.lookup a = some ⟨.type "tuple", od, .seq us.toArray n, sl⟩) (z : us.toArray.size ≤ sizeLine) (r : Vals xs us) : ∀ H, SqT K H a xs :=
  fun _ => .inr ⟨_, us.toArray, n, l, rfl, rfl, z, r⟩
def spLaw (K : PySem.W.Frag) : Sp := fun vs H Q _ => ∃ (a : Addr) (ns : List Int), vs = [.ref a] ∧ SqL K H a (ns.map V.int) ∧ ns.length ≤ 63 ∧ (∀ z ∈ ns, Builtin.Int.intBits z ≤ 1048576) ∧ ∀ H', Q (.bl true) H'
theorem walk {l : PySem.W.OpenLaw} {k : Nat} {x : Str} {q : Program} {loose : List Str} {XP : (Str → Option Value) → Heap → Prop} {YP : World → Heap → Prop} {d : DefRec} {K : Params → PySem.W.Frag} (hn : l.most = some 63) (hdf : d.params.defaults = [])
    (hY : ∀ (w : World) (h : Heap), YP w h → (K w.params).In h)
    (F : ∀ (w : World) (mg : Str → Option Value) (fa : Addr) (h : Heap), (K w.params).In h → h.Ns mainGlobals mg → mg d.name = some (.ref fa) →
      ∃ fd : FuncData, (∀ (s : Shared) (u : Value), BindsTo s fd ⟨[u], []⟩ [(x, u)]) ∧ ∀ base : Heap, (K w.params).In base → base.Ns mainGlobals mg → FnOk l.prog w (K w.params) mg base (L2.CX l.prog w) k fa fd [x] (spLaw (K w.params)))
    (hr : Room k callerA) :
    PySem.W.WalkO q loose XP YP l.row.toRowW d [] (fun f vs => PySem.call f vs) :=
  L2.walk_ofB (n := 63) (k := k) (x := x) (CX := fun w => L2.CX l.prog w) (sp := fun w => spLaw (K w.params)) hn (by decide) hdf hr hY F (fun w H a ns h1 h2 _ h3 => ⟨a, ns, rfl, h3, h1, h2, fun _ => rfl⟩) fun _ _ _ _ _ z => by
    obtain ⟨_, _, _, _, _, _, _, _, _, _, _, _, q⟩ := z
    exact q
end G
namespace G
open PySem PySem.Spec PyProof.Rows L2
/-- a statement, then the rest, with a word between them -/
def tCut (t u : TS) : TS := fun D σ H => ∃ Mid : St → Hp → Prop, t { D with nx := Mid } σ H ∧ ∀ σ' H', Mid σ' H' → u D σ' H'
theorem pss_cut {X : Cx} {st : Stmt} {rest : List Stmt} {t u : TS} (h1 : PS X st t) (h2 : PSs X rest u) : PSs X (st :: rest) (tCut t u) := by
  refine ⟨fun pins s σ H D I h => ?_⟩
  obtain ⟨Mid, hm, hu⟩ := h
  refine wpAny_execs_cons (thn (h1.run pins s σ H { D with nx := Mid } I hm) fun f s1 q => ?_)
  cases f with
  | next =>
    obtain ⟨σ', H', I', q⟩ := q
    exact h2.run pins s1 σ' H' D I' (hu σ' H' q)
  | ret v => exact q
  | brk => exact q
  | cont => exact q
theorem vCut {t u : TS} {n b c : St → Hp → Prop} {r : VK} {σ : St} {H : Hp} (Mid : St → Hp → Prop) (h1 : t ⟨Mid, r, b, c⟩ σ H) (h2 : ∀ σ' H', Mid σ' H' → u ⟨n, r, b, c⟩ σ' H') : tCut t u ⟨n, r, b, c⟩ σ H := ⟨Mid, h1, h2⟩
end G
namespace G
open PySem PySem.Spec PyProof.Rows L2
def rStr1 : List V → Hp → VK → Prop := fun xs H Q => ∃ i : Int, xs = [.int i] ∧ i.natAbs.log2 < 1920 ∧ Q (.str (toString i)) H
theorem call_strG {X : Cx} : CallR X (.type "str") rStr1 := call_str_int
theorem vStrI {i : Int} {H : Hp} {Q : VK} (h : i.natAbs.log2 < 1920) (q : Q (.str (toString i)) H) : rStr1 [.int i] H Q := ⟨i, rfl, h, q⟩
end G
namespace G
open PySem PySem.Spec PyProof.Rows L2
section
variable {σ : St} {H : Hp} {K : PySem.W.Frag} {n b c : St → Hp → Prop} {r : VK} {t : TS} {g : TG} {tl : TE} {ta : TA}
/-- for over a list, the list come -/
def rForL (K : PySem.W.Frag) (g : TG) (t : TS) (D : Ends) (σ : St) : VK := fun x H1 => iList K (fun _ H2 Q => Q x H2) σ H1 fun J H1 => ∃ W : Nat → Nat → St → Hp → Prop, (∃ m, W 0 m σ H1) ∧ ∀ i m σ H, W i m σ H →
  (J.stop i H ∧ D.nx σ H) ∨ (J.go i H ∧ ∃ N : St → Hp → Prop, (∀ σ' H', N σ' H' → ∃ m', m' < m ∧ W (i + 1) m' σ' H') ∧ ∀ x H', J.yld i H x H' → g x σ H' fun σ2 H2 => t { D with nx := N, ct := N, bk := D.nx } σ2 H2)
theorem vForL (h : tl σ H (rForL K g t ⟨n, r, b, c⟩ σ)) : tFor (iList K tl) g t ⟨n, r, b, c⟩ σ H := h
theorem vrForL {a : Addr} {xs : List V} (hl0 : SqL K H a xs) (Pv : Nat → St → Hp → Prop) (h0 : Pv 0 σ H) (hl : ∀ i σ H, i ≤ xs.length → Pv i σ H → SqL K H a xs)
    (hs : ∀ i x σ H, xs[i]? = some x → Pv i σ H → g x σ H fun σ2 H2 => t ⟨Pv (i + 1), r, n, Pv (i + 1)⟩ σ2 H2) (hd : ∀ σ H, Pv xs.length σ H → n σ H) : rForL K g t ⟨n, r, b, c⟩ σ (.ref a) H :=
  ⟨a, rfl, ⟨xs, hl0⟩, for_list (D := ⟨n, r, b, c⟩) Pv h0 hl hs hd⟩
def rForT (K : PySem.W.Frag) (g : TG) (t : TS) (D : Ends) (σ : St) : VK := fun x H1 => iTup K (fun _ H2 Q => Q x H2) σ H1 fun J H1 => ∃ W : Nat → Nat → St → Hp → Prop, (∃ m, W 0 m σ H1) ∧ ∀ i m σ H, W i m σ H →
  (J.stop i H ∧ D.nx σ H) ∨ (J.go i H ∧ ∃ N : St → Hp → Prop, (∀ σ' H', N σ' H' → ∃ m', m' < m ∧ W (i + 1) m' σ' H') ∧ ∀ x H', J.yld i H x H' → g x σ H' fun σ2 H2 => t { D with nx := N, ct := N, bk := D.nx } σ2 H2)
theorem vForT (h : tl σ H (rForT K g t ⟨n, r, b, c⟩ σ)) : tFor (iTup K tl) g t ⟨n, r, b, c⟩ σ H := h
theorem vrForT {a : Addr} {xs : List V} (hl0 : SqT K H a xs) (Pv : Nat → St → Hp → Prop) (h0 : Pv 0 σ H) (hl : ∀ i σ H, i ≤ xs.length → Pv i σ H → SqT K H a xs)
    (hs : ∀ i x σ H, xs[i]? = some x → Pv i σ H → g x σ H fun σ2 H2 => t ⟨Pv (i + 1), r, n, Pv (i + 1)⟩ σ2 H2) (hd : ∀ σ H, Pv xs.length σ H → n σ H) : rForT K g t ⟨n, r, b, c⟩ σ (.ref a) H :=
  ⟨a, rfl, ⟨xs, hl0⟩, for_tup (D := ⟨n, r, b, c⟩) Pv h0 hl hs hd⟩
/-- for over range(n) -/
def rForR (g : TG) (t : TS) (D : Ends) (σ : St) : List V → Hp → Prop := fun vs H1 => iRng1 (fun _ H2 Q => Q vs H2) σ H1 fun J H1 => ∃ W : Nat → Nat → St → Hp → Prop, (∃ m, W 0 m σ H1) ∧ ∀ i m σ H, W i m σ H →
  (J.stop i H ∧ D.nx σ H) ∨ (J.go i H ∧ ∃ N : St → Hp → Prop, (∀ σ' H', N σ' H' → ∃ m', m' < m ∧ W (i + 1) m' σ' H') ∧ ∀ x H', J.yld i H x H' → g x σ H' fun σ2 H2 => t { D with nx := N, ct := N, bk := D.nx } σ2 H2)
theorem vForR (h : ta σ H (rForR g t ⟨n, r, b, c⟩ σ)) : tFor (iRng1 ta) g t ⟨n, r, b, c⟩ σ H := h
theorem vrForR {j : Int} (m : Nat) (ej : j = (m : Int)) (hm : m ≤ 1000000) (Pv : Nat → St → Hp → Prop) (h0 : Pv 0 σ H)
    (hs : ∀ (i : Nat) σ H, i < m → Pv i σ H → g (.int (i : Int)) σ H fun σ2 H2 => t ⟨Pv (i + 1), r, n, Pv (i + 1)⟩ σ2 H2) (hd : ∀ σ H, Pv m σ H → n σ H) : rForR g t ⟨n, r, b, c⟩ σ [.int j] H := by
  subst ej
  refine ⟨(m : Int), rfl, by omega, by omega, ?_⟩
  rw [Int.toNat_natCast]
  exact for_range (lo := 0) (n := m) (D := ⟨n, r, b, c⟩) Pv h0 (fun i σ H hi p => by rw [Int.zero_add]; exact hs i σ H hi p) hd
/-- while -/
def rNx (W : Nat → St → Hp → Prop) (m : Nat) (t : TS) (D : Ends) : St → Hp → Prop := fun σ H1 => ∃ N : St → Hp → Prop, (∀ σ' H', N σ' H' → ∃ m', m' < m ∧ W m' σ' H') ∧ t { D with nx := N, ct := N, bk := D.nx } σ H1
theorem vrNx {W : Nat → St → Hp → Prop} {m : Nat} (h : t ⟨fun σ' H' => ∃ m', m' < m ∧ W m' σ' H', r, n, fun σ' H' => ∃ m', m' < m ∧ W m' σ' H'⟩ σ H) : rNx W m t ⟨n, r, b, c⟩ σ H := ⟨_, fun _ _ p => p, h⟩
theorem vWhile {tc : TT} (W : Nat → St → Hp → Prop) (m : Nat) (h0 : W m σ H)
    (hs : ∀ m σ H, W m σ H → tc σ H fun k H1 => if k = true then rNx W m t ⟨n, r, b, c⟩ σ H1 else n σ H1) : tWhile tc t ⟨n, r, b, c⟩ σ H := ⟨W, ⟨m, h0⟩, hs⟩
end
end G
namespace G
open PySem PySem.Spec PyProof.Rows L2
/-- an instance is made: its place, then __init__ -/
def rMk (C : Addr) (sp : Sp) (E : XK) (Q : VK) : List V → Hp → Prop := fun vs H1 => ∀ x dx, H1 x = none → H1 dx = none → dx ≠ x →
  sp (.ref x :: vs) (upd (upd H1 dx (.own x)) x (.ins C dx [])) (fun v H2 => v = .non ∧ Q (.ref x) H2) E
theorem vMk {C : Addr} {sp : Sp} {E : St → XK} {t : TA} {σ : St} {H : Hp} {Q : VK} (h : t σ H (rMk C sp (E σ) Q)) : tMakeS C sp E t σ H Q := h
theorem vrMk {C : Addr} {sp : Sp} {E : XK} {Q : VK} {vs : List V} {H : Hp} (h : ∀ x dx H2, Fre H x → Kp [] H H2 → H2 x = some (.ins C dx []) → sp (.ref x :: vs) H2 (fun v H3 => v = .non ∧ Q (.ref x) H3) E) : rMk C sp E Q vs H := fun x dx hx hdx ne =>
  h x dx _ ⟨hx⟩ ((Kp.new hdx).trans (Kp.new (by rw [upd_ne ne.symm]; exact hx))) upd_same
end G
namespace G
open PySem PySem.Spec PyProof.Rows L2
/-! ### comprehensions with one own name at slot j -/
section
variable {σ : St} {H : Hp} {K : PySem.W.Frag} {Q : VK} {te : TE} {tt : TT} {ta : TA} {tl : TE} {j : Nat} {g : TG} {vs : List Nat}
theorem wipe1 {σ : St} {j : Nat} : wipe σ [j] = σ.set j none := rfl
theorem wipe_set {σ : St} {j : Nat} {x : V} : wipe ((wipe σ [j]).set j (some x)) [j] = wipe σ [j] := by
  rw [wipe1, wipe1, List.set_set, List.set_set]
def rLcR (g : TG) (tt : TT) (te : TE) (vs : List Nat) (σ : St) (Q : VK) : List V → Hp → Prop := fun xs H => tLc (iRng1 (fun _ H2 q => q xs H2)) g tt te vs σ H Q
theorem vLcR (h : ta σ H (rLcR g tt te vs σ Q)) : tLc (iRng1 ta) g tt te vs σ H Q := h
/-- one more item -/
def rApp (H : Hp) (Pv : Nat → List V → Hp → Prop) (D : Addr) (n i : Nat) : VK := fun y H4 => ∃ acc', H4 D = some (.lst acc') ∧ acc'.length < sizeLine ∧ (Kp [] H (upd H4 D (.lst (acc' ++ [y]))) ∧ ∃ acc, upd H4 D (.lst (acc' ++ [y])) D = some (.lst acc) ∧ acc.length ≤ n + 1 ∧ Pv (i + 1) acc (upd H4 D (.lst (acc' ++ [y]))))
theorem vrApp {H H4 : Hp} {Pv : Nat → List V → Hp → Prop} {D : Addr} {n i : Nat} {y : V} {acc : List V} (fD : Fre H D) (k : Kp [] H H4) (a : H4 D = some (.lst acc)) (l : acc.length ≤ n) (hi : n < 1000) (q : ∀ H5, Kp [D] H4 H5 → H5 D = some (.lst (acc ++ [y])) → Pv (i + 1) (acc ++ [y]) H5) : rApp H Pv D n i y H4 :=
  ⟨acc, a, len_lt (by omega), k.step (Kp.wr a) (sub_cons (.inr fD) sub_nil), acc ++ [y], upd_same, by rw [List.length_append, List.length_singleton]; omega, q _ (Kp.wr a) upd_same⟩
theorem vrLcR {jj : Int} (m : Nat) (ej : jj = (m : Int)) (hm : m ≤ 1000) (Pv : Nat → List V → Hp → Prop) (h0 : ∀ H', Kp [] H H' → Pv 0 [] H')
    (hs : ∀ (i : Nat) acc H' D, i < m → Fre H D → Kp [] H H' → H' D = some (.lst acc) → acc.length ≤ i → Pv i acc H' → te ((wipe σ [j]).set j (some (.int (i : Int)))) H' (rApp H Pv D i i))
    (hd : ∀ D acc H', Fre H D → Kp [] H H' → H' D = some (.lst acc) → acc.length ≤ m → Pv m acc H' → Q (.ref D) H') : rLcR (gName j) tYes te [j] σ Q [.int jj] H := by
  subst ej
  refine ⟨(m : Int), rfl, by omega, by omega, fun D hD => ?_⟩
  rw [Int.toNat_natCast]
  refine lc_range (lo := 0) (n := m) (fun i H' => Kp [] H H' ∧ ∃ acc, H' D = some (.lst acc) ∧ acc.length ≤ i ∧ Pv i acc H') ⟨Kp.new hD, [], upd_same, Nat.le_refl _, h0 _ (Kp.new hD)⟩ (fun i H' hi ⟨kp, acc, ha, hl, hp⟩ => ?_) (fun H' ⟨kp, acc, ha, hl, hp⟩ => hd D acc H' ⟨hD⟩ kp ha hl hp)
  rw [Int.zero_add]
  refine ⟨wipe_set, ?_⟩
  exact hs i acc H' D hi ⟨hD⟩ kp ha hl hp
def rLcL (K : PySem.W.Frag) (g : TG) (tt : TT) (te : TE) (vs : List Nat) (σ : St) (Q : VK) : VK := fun x H => tLc (iList K (fun _ H2 q => q x H2)) g tt te vs σ H Q
theorem vLcL (h : tl σ H (rLcL K g tt te vs σ Q)) : tLc (iList K tl) g tt te vs σ H Q := h
/-- a test, then perhaps one more item -/
def rTst (te : TE) (H : Hp) (Pv : Nat → List V → Hp → Prop) (D : Addr) (i : Nat) (σ2 : St) : Bool → Hp → Prop := fun b H3 => if b = true then te σ2 H3 (rApp H Pv D i i) else Kp [] H H3 ∧ ∃ acc, H3 D = some (.lst acc) ∧ acc.length ≤ i + 1 ∧ Pv (i + 1) acc H3
theorem vrTst1 {te : TE} {H H3 : Hp} {Pv : Nat → List V → Hp → Prop} {D : Addr} {i : Nat} {σ2 : St} (h : te σ2 H3 (rApp H Pv D i i)) : rTst te H Pv D i σ2 true H3 := iteT h
theorem vrTst0 {te : TE} {H H3 : Hp} {Pv : Nat → List V → Hp → Prop} {D : Addr} {i : Nat} {σ2 : St} {acc : List V} (k : Kp [] H H3) (a : H3 D = some (.lst acc)) (l : acc.length ≤ i) (h : Pv (i + 1) acc H3) : rTst te H Pv D i σ2 false H3 := iteF ⟨k, acc, a, by omega, h⟩
theorem vrLcL {a : Addr} {xs : List V} (hl0 : SqL K H a xs) (hm : xs.length ≤ 1000) (Pv : Nat → List V → Hp → Prop) (h0 : ∀ H', Kp [] H H' → Pv 0 [] H')
    (hs : ∀ (i : Nat) x acc H' D, xs[i]? = some x → Fre H D → Kp [] H H' → H' D = some (.lst acc) → acc.length ≤ i → Pv i acc H' → tt ((wipe σ [j]).set j (some x)) H' (rTst te H Pv D i ((wipe σ [j]).set j (some x))))
    (hd : ∀ D acc H', Fre H D → Kp [] H H' → H' D = some (.lst acc) → acc.length ≤ xs.length → Pv xs.length acc H' → Q (.ref D) H') : rLcL K (gName j) tt te [j] σ Q (.ref a) H := by
  refine ⟨a, rfl, ⟨xs, hl0⟩, fun D hD => ?_⟩
  refine lc_list (K := K) (a := a) (xs := xs) (fun i H' => Kp [] H H' ∧ ∃ acc, H' D = some (.lst acc) ∧ acc.length ≤ i ∧ Pv i acc H') ⟨Kp.new hD, [], upd_same, Nat.le_refl _, h0 _ (Kp.new hD)⟩ (fun i H' _ ⟨kp, _⟩ => kp.seq hl0) (fun i x H' hx ⟨kp, acc, ha, hl, hp⟩ => ?_) (fun H' ⟨kp, acc, ha, hl, hp⟩ => hd D acc H' ⟨hD⟩ kp ha hl hp)
  refine ⟨wipe_set, ?_⟩
  exact hs i x acc H' D hx ⟨hD⟩ kp ha hl hp
theorem vYes {q : Bool → Hp → Prop} (h : q true H) : tYes σ H q := h
end
end G
namespace G
open PySem PySem.Spec PyProof.Rows L2
/-! ### try .. except -/
section
variable {X : Cx} {x n : Str} {c : Value} {i : Nat} {body suite : List Stmt} {b₀ : Stmt} {np pos pos' : Pos} {tb : WX → TS} {ts : Addr → Value → Option Addr → TS} {Wout : WX} {D : Ends} {σ : St} {H : Hp} {K : PySem.W.Frag} {cls : Value} {d : Option Addr}
def tTryAs (K : PySem.W.Frag) (c : Value) (i : Nat) (tb : WX → TS) (ts : Addr → Value → Option Addr → TS) (Wout : WX) : TS := fun D σ H => tb (wAs K c i ts Wout D) D σ H
theorem ps_tryAsG (hs : X.stack = X.env :: X.outer) (hf : X.env.frame = some X.env.locals) (hN : X.N.Nodup) (hi : X.N[i]? = some n) (hln : X.env.kindOf n = some .local) (hc : Names X x c) (tk : Takes X Wout)
    (hb : ∀ (W : WX) (pn : List (Addr × Obj)) (xe : Value → Shared → Prop), Takes (X.tr pn xe) W → PassesOwn (model X.prog X.w) X.A X.env xe → PSs (X.tr pn xe) body (tb W))
    (hsu : ∀ (a : Addr) (oe : Obj) (cls : Value) (d : Option Addr) (pn : List (Addr × Obj)), Zc cls d oe → (∃ vs, oe.data = .fields vs) → PSs (X.suite a ((a, oe) :: pn)) (b₀ :: suite) (ts a cls d)) :
    PS X (.Try body [.ExceptHandler (some (.Name x np)) (some n) (b₀ :: suite) pos'] [] [] pos) (tTryAs X.K c i tb ts Wout) := ps_try_as hs hf hN hi hln hc tk hb hsu
theorem vTryAs (h : tb (wAs K c i ts Wout D) D σ H) : tTryAs K c i tb ts Wout D σ H := h
/-- an exception that the clause takes -/
theorem vAsE (h : PySem.W.exmOne K cls c = some true) (k : ∀ a, Fre H a → ts a cls d { nx := fun σ' H' => D.nx (σ'.set i none) H', rt := D.rt, bk := fun σ' H' => D.bk (σ'.set i none) H', ct := fun σ' H' => D.ct (σ'.set i none) H' } (σ.set i (some (.ref a))) H) :
    WE (wAs K c i ts Wout D) σ cls d H := ⟨true, h, fun _ a ha => k a ⟨ha⟩, fun z => Bool.noConfusion z⟩
def tTryMany (K : PySem.W.Frag) (tb : WX → TS) (l : List (Value × (Addr → Value → Option Addr → TS))) (Wout : WX) : TS := fun D σ H => tb (wMany K Wout D l) D σ H
theorem ps_tryManyG {h₀ : ExceptHandler} {hds : List ExceptHandler} {l : List (Value × (Addr → Value → Option Addr → TS))} (hs : X.stack = X.env :: X.outer) (hf : X.env.frame = some X.env.locals) (tk : Takes X Wout)
    (hb : ∀ (W : WX) (pn : List (Addr × Obj)) (xe : Value → Shared → Prop), Takes (X.tr pn xe) W → PassesOwn (model X.prog X.w) X.A X.env xe → PSs (X.tr pn xe) body (tb W))
    (hh : HdsOk X (h₀ :: hds) l) : PS X (.Try body (h₀ :: hds) [] [] pos) (tTryMany X.K tb l Wout) := ps_try_many hs hf tk hb hh
theorem vTryMany {l : List (Value × (Addr → Value → Option Addr → TS))} (h : tb (wMany K Wout D l) D σ H) : tTryMany K tb l Wout D σ H := h
theorem vManyY {l : List (Value × (Addr → Value → Option Addr → TS))} (h : PySem.W.exmOne K cls c = some true) (k : ∀ a, Fre H a → ts a cls d D σ H) : WE (wMany K Wout D ((c, ts) :: l)) σ cls d H := ⟨true, h, fun _ a ha => k a ⟨ha⟩, fun z => Bool.noConfusion z⟩
theorem vManyN {l : List (Value × (Addr → Value → Option Addr → TS))} (h : PySem.W.exmOne K cls c = some false) (k : WE (wMany K Wout D l) σ cls d H) : WE (wMany K Wout D ((c, ts) :: l)) σ cls d H := ⟨false, h, fun z => Bool.noConfusion z, fun _ => k⟩
/-- isinstance(e, c), e the exception that the suite holds -/
def rIsEG (K : PySem.W.Frag) (a : Addr) (cls : Value) (d : Option Addr) : List V → Hp → VK → Prop := fun xs H Q => ∃ D, cls = .ref D ∧ d = none ∧ ExcC K D ∧ rIsE K D a xs H Q
theorem call_isEG {a : Addr} {oe : Obj} {pn : List (Addr × Obj)} (hz : Zc cls d oe) (hf : ∃ vs, oe.data = .fields vs) : CallR (X.suite a ((a, oe) :: pn)) (.builtin "isinstance") (rIsEG X.K a cls d) := by
  intro pins s σ H xs us Q I r ⟨D, ec, ed, C, h⟩
  subst ec ed
  exact call_isE C hz hf pins s σ H xs us Q I r h
theorem ix_listK {X : Cx} (K : PySem.W.Frag) (e : X.K = K) : IxR X (rIxL K) := e ▸ ix_list
theorem ix_tupK {X : Cx} (K : PySem.W.Frag) (e : X.K = K) : IxR X (rIxT K) := e ▸ ix_tup
theorem vIsE {a E : Addr} {t : String} {b : Bool} {Q : VK} (C : ExcC K E) (h : PySem.W.kitOne K (.ref E) (.type t) = some b) (q : Q (.bl b) H) : rIsEG K a (.ref E) none [.ref a, .ty t] H Q :=
  ⟨E, rfl, rfl, C, .ty t, .type t, b, rfl, fun _ e => e, h, q⟩
theorem vIsER {a E F : Addr} {b : Bool} {Q : VK} (C : ExcC K E) (h : PySem.W.kitOne K (.ref E) (.ref F) = some b) (q : Q (.bl b) H) : rIsEG K a (.ref E) none [.ref a, .ref F] H Q :=
  ⟨E, rfl, rfl, C, .ref F, .ref F, b, rfl, fun _ e => e, h, q⟩
end
end G
namespace G
open PySem PySem.Spec PyProof.Rows L2
theorem kit_VE {K : PySem.W.Frag} {D : Addr} {b : Bool} (h : PySem.W.subIn K (.ref D) (.type "ValueError") = some b) : PySem.W.kitOne K (.ref D) (.type "ValueError") = some b := by
  unfold PySem.W.kitOne
  rw [if_neg (fun z => by cases beq_iff_eq.mp z)]
  unfold PySem.W.kitCls
  dsimp only
  rw [if_pos (by decide +kernel)]
  exact h
theorem kit_OC {K : PySem.W.Frag} {D C : Addr} {b : Bool} (hd : PySem.W.hasDictIn K C = true) (ht : PySem.W.typeIn K (.ref C) = some (.type "type")) (hs : PySem.W.subIn K (.ref C) (.ref C) = some true) (h : PySem.W.subIn K (.ref D) (.ref C) = some b) : PySem.W.kitOne K (.ref D) (.ref C) = some b := by
  unfold PySem.W.kitOne
  by_cases e : D = C
  · subst e
    rw [if_pos (beq_self_eq_true _), ← hs]; exact h
  · rw [if_neg (fun z => e (Value.ref.inj (beq_iff_eq.mp z)))]
    unfold PySem.W.kitCls
    obtain ⟨cd, hc, _⟩ := PySem.W.any_some hd
    dsimp only
    rw [if_pos (by rw [hc, ht]; rfl)]
    exact h
end G
namespace G
open PySem PySem.Spec PyProof.Rows L2
theorem vIsB {a b : Bool} {H : Hp} {Q : VK} (q : Q (.bl (decide (a = b))) H) : rIsB (.bl a) (.bl b) H Q := ⟨a, b, rfl, rfl, q⟩
end G

namespace G
open PySem PySem.Spec PyProof.Rows L2
/-! ### steps -/
inductive Stp where
  | load (b : Int) | plus (b : Int) | store (b : Int) | add (n : Int) | twice | take | free
  deriving DecidableEq
def Stp.word : Stp → Str
  | .load _ => "load" | .plus _ => "plus" | .store _ => "store" | .add _ => "add" | .twice => "twice" | .take => "take" | .free => "free"
def Stp.args : Stp → List V
  | .load b => [.int b] | .plus b => [.int b] | .store b => [.int b] | .add n => [.int n] | _ => []
def Stp.enc (s : Stp) : List V := V.str s.word :: s.args
def Stp.arg : Stp → Int
  | .load b => b | .plus b => b | .store b => b | .add n => n | _ => 0
def Stp.isG : Stp → Bool
  | .take => true | .free => true | _ => false
def Stp.isB : Stp → Bool
  | .load _ => true | .plus _ => true | .store _ => true | _ => false
def Stp.isS : Stp → Bool
  | .store _ => true | _ => false
def apartS (a b : Stp) : Bool := if a.isG && b.isG then false else if a.isB && b.isB && decide (a.arg = b.arg) then !a.isS && !b.isS else true
theorem apartS_comm (a b : Stp) : apartS a b = apartS b a := by
  unfold apartS
  rw [Bool.and_comm a.isG, Bool.and_comm a.isB, Bool.and_comm (!a.isS), show decide (a.arg = b.arg) = decide (b.arg = a.arg) from decide_eq_decide.mpr eq_comm]
theorem word_isG (a : Stp) : inV (.str a.word) [.str "take", .str "free"] = a.isG := by cases a <;> simp only [Stp.word, Stp.isG] <;> decide +kernel
theorem word_isB (a : Stp) : inV (.str a.word) [.str "load", .str "plus", .str "store"] = a.isB := by cases a <;> simp only [Stp.word, Stp.isB] <;> decide +kernel
theorem word_isS (a : Stp) : decide (V.str a.word = V.str "store") = a.isS := by
  rw [dec_str]
  cases a <;> simp only [Stp.word, Stp.isS] <;> decide +kernel
theorem enc0 (a : Stp) : atI a.enc 0 = some (.str a.word) := at_of (j := 0) rfl rfl
theorem enc1 {a : Stp} (h : a.isB = true) : atI a.enc 1 = some (.int a.arg) := by cases a <;> first | exact at_of (j := 1) rfl rfl | cases h
/-! ### cells of the script -/
def cellI (ns : List Int) (i : Int) : Int := ns.getD i.toNat 0
def numBy3 (c : Int) : Int := if c % 3 = 1 then c * (10 ^ 59 + 7) % 10 ^ 60 * (1 - 2 * (c / 3 % 2)) else c / 3 % 41 - 20
end G
namespace G
open PySem PySem.Spec PyProof.Rows L2
/-! ### sizes of ints -/
def Bt (c : Int) : Prop := Builtin.Int.intBits c ≤ 1100000
theorem bits_mono {a b : Int} (h : a.natAbs ≤ b.natAbs) : Builtin.Int.intBits a ≤ Builtin.Int.intBits b := by
  unfold Builtin.Int.intBits
  by_cases ha : a = 0
  · rw [ha]; exact Nat.zero_le _
  · have hb : b ≠ 0 := fun e => by rw [e] at h; omega
    rw [if_neg (by simpa using ha), if_neg (by simpa using hb)]
    have : a.natAbs.log2 ≤ b.natAbs.log2 := by
      have h1 : 2 ^ a.natAbs.log2 ≤ b.natAbs := Nat.le_trans (Nat.log2_self_le (by omega)) h
      exact (Nat.le_log2 (by omega)).mpr h1
    omega
theorem Bt.div {c : Int} (h : Bt c) {k : Int} (hk : 0 < k) : Bt (c / k) := by
  refine Nat.le_trans (bits_mono ?_) h
  rcases Int.lt_or_le c 0 with h0 | h0
  · have h1 : c ≤ c / k := by
      have := Int.le_ediv_of_mul_le (a := c) (b := c) hk (by
        have e : c * k - c = c * (k - 1) := by rw [Int.mul_sub, Int.mul_one]
        have q : c * (k - 1) ≤ 0 := Int.mul_nonpos_of_nonpos_of_nonneg (by omega) (by omega)
        omega)
      exact this
    have h2 : c / k < 0 := Int.ediv_neg_of_neg_of_pos h0 hk
    omega
  · have h1 : c / k ≤ c := Int.ediv_le_self _ h0
    have h2 : 0 ≤ c / k := Int.ediv_nonneg h0 (by omega)
    omega
theorem bits_big : Builtin.Int.intBits (10 ^ 59 + 7) ≤ 200 := by decide +kernel
theorem mulBig {c : Int} (h : Bt c) : IntMulOk c (10 ^ 59 + 7) := by
  unfold IntMulOk
  intro z
  rw [Bool.and_eq_true] at z
  have z3 := of_decide_eq_true z.2
  have e : bitsLine = 134217728 := by decide
  rw [e] at z3
  have h1 : Builtin.Int.intBits c ≤ 1100000 := h
  have h2 := bits_big
  omega
theorem bt_of {n : Int} (h : Builtin.Int.intBits n ≤ 1048576) : Bt n := Nat.le_trans h (by decide)
theorem bt0 : Bt 0 := by
  show Builtin.Int.intBits 0 ≤ 1100000
  have : Builtin.Int.intBits 0 = 0 := rfl
  omega
theorem bt_cell {ns : List Int} (h : ∀ z ∈ ns, Builtin.Int.intBits z ≤ 1048576) (i : Int) : Bt (cellI ns i) := by
  unfold cellI
  rw [List.getD_eq_getElem?_getD]
  cases e : ns[i.toNat]? with
  | none => exact bt0
  | some z => exact bt_of (h z (List.mem_of_getElem? e))
/-! ### a step by its number -/
def mk7 (i : Int) (b n : Int) : Stp := if i = 0 then .load b else if i = 1 then .plus b else if i = 2 then .store b else if i = 3 then .add n else if i = 4 then .twice else if i = 5 then .take else .free
theorem ati7 (c b n : Int) : atI [V.str "load", V.str "plus", V.str "store", V.str "add", V.str "twice", V.str "take", V.str "free"] (c % 7) = some (.str (mk7 (c % 7) b n).word) := by
  have h1 := Int.emod_nonneg c (show (7 : Int) ≠ 0 by decide)
  have h2 := Int.emod_lt_of_pos c (show (0 : Int) < 7 by decide)
  rcases (show c % 7 = 0 ∨ c % 7 = 1 ∨ c % 7 = 2 ∨ c % 7 = 3 ∨ c % 7 = 4 ∨ c % 7 = 5 ∨ c % 7 = 6 by omega) with e | e | e | e | e | e | e <;> rw [e] <;> rfl
theorem enc_isB {a : Stp} (h : a.isB = true) : [V.str a.word, V.int a.arg] = a.enc := by cases a <;> first | rfl | cases h
def Stp.isA : Stp → Bool
  | .add _ => true | _ => false
theorem enc_isA {a : Stp} (h : a.isA = true) : [V.str a.word, V.int a.arg] = a.enc := by cases a <;> first | rfl | cases h
theorem enc_bare {a : Stp} (h : a.isB = false) (h2 : a.isA = false) : [V.str a.word] = a.enc := by cases a <;> first | rfl | exact Bool.noConfusion h | exact Bool.noConfusion h2
theorem word_isA (a : Stp) : decide (V.str a.word = V.str "add") = a.isA := by
  rw [dec_str]
  cases a <;> simp only [Stp.word, Stp.isA] <;> decide +kernel
theorem useEqA {H : Hp} {Q : VK} {a : Stp} (q : Q (.bl a.isA) H) : rEq (.str a.word) (.str "add") H Q := vEq rfl (by rw [word_isA]; exact q)
theorem useNeS {H : Hp} {Q : VK} {a : Stp} (q : Q (.bl (!a.isS)) H) : rNe (.str a.word) (.str "store") H Q := vNe rfl (by rw [word_isS]; exact q)
theorem useInG {K : PySem.W.Frag} {H : Hp} {Q : VK} {a : Stp} {p : Addr} (h : SqT K H p [.str "take", .str "free"]) (q : Q (.bl a.isG) H) : rIn K false (.str a.word) (.ref p) H Q := vIn (.inr h) rfl rfl (by rw [if_neg Bool.false_ne_true, word_isG]; exact q)
theorem useInB {K : PySem.W.Frag} {H : Hp} {Q : VK} {a : Stp} {p : Addr} (h : SqT K H p [.str "load", .str "plus", .str "store"]) (q : Q (.bl a.isB) H) : rIn K false (.str a.word) (.ref p) H Q := vIn (.inr h) rfl rfl (by rw [if_neg Bool.false_ne_true, word_isB]; exact q)
end G
namespace G
open PySem PySem.Spec PyProof.Rows L2
theorem mk7_argB {i b n : Int} (h : (mk7 i b n).isB = true) : (mk7 i b n).arg = b := by
  unfold mk7 at h ⊢
  repeat' split at h
  all_goals first | rfl | exact Bool.noConfusion h | skip
  all_goals simp_all [Stp.arg, Stp.isB]
theorem mk7_argA {i b n : Int} (h : (mk7 i b n).isA = true) : (mk7 i b n).arg = n := by
  unfold mk7 at h ⊢
  repeat' split at h
  all_goals first | rfl | exact Bool.noConfusion h | skip
  all_goals simp_all [Stp.arg, Stp.isA]
theorem mk7_encB {i b n : Int} (h : (mk7 i b n).isB = true) : [V.str (mk7 i b n).word, V.int b] = (mk7 i b n).enc := by rw [← enc_isB h, mk7_argB h]
theorem mk7_encA {i b n : Int} (h : (mk7 i b n).isA = true) : [V.str (mk7 i b n).word, V.int n] = (mk7 i b n).enc := by rw [← enc_isA h, mk7_argA h]
end G
namespace G
open PySem PySem.Spec PyProof.Rows L2
/-! ### what is a step, by values -/
def PlainV (H : Hp) : V → Prop
  | .non => True | .bl _ => True | .int _ => True | .str _ => True
  | .ref p => (∃ ys, H p = some (.lst ys)) ∨ (∃ ys, H p = some (.tup ys))
  | _ => False
def isStrV : V → Bool
  | .str _ => true | _ => false
def isIntV : V → Bool
  | .int _ => true | .bl _ => true | _ => false
def isBlV : V → Bool
  | .bl _ => true | _ => false
def isWholeV : V → Bool
  | .int _ => true | _ => false
def boxedW : List V := [V.str "load", V.str "plus", V.str "store"]
def guardsW : List V := [V.str "take", V.str "free"]
def stepOk : List V → Bool
  | [] => false
  | v :: r => match v with
    | .str w => if inV (.str w) boxedW || decide (w = "add") then (match r with | [x] => isWholeV x | _ => false) else (match r with | [] => decide (w = "twice") || inV (.str w) guardsW | _ => false)
    | _ => false
theorem isi_of {K : PySem.W.Frag} {H : Hp} {Q : VK} {v : V} {s : String} {b : Bool} (pv : PlainV H v) (hn : v = .non → kitB "NoneType" s = some b) (hb : ∀ x, v = .bl x → kitB "bool" s = some b) (hi : ∀ x, v = .int x → kitB "int" s = some b) (hs : ∀ x, v = .str x → kitB "str" s = some b)
    (hl : ∀ p, v = .ref p → kitB "list" s = some b ∧ kitB "tuple" s = some b) (q : Q (.bl b) H) : rIsi K [v, .ty s] H Q := by
  cases v with
  | non => exact vIsi (.base .non) (kit_ty (hn rfl)) q
  | bl x => exact vIsi (.base (.bl x)) (kit_ty (hb x rfl)) q
  | int x => exact vIsi (.base (.int x)) (kit_ty (hi x rfl)) q
  | str x => exact vIsi (.base (.str x)) (kit_ty (hs x rfl)) q
  | ref p =>
    rcases pv with ⟨ys, h⟩ | ⟨ys, h⟩
    · exact vIsi (.base (.lst h)) (kit_ty (hl p rfl).1) q
    · exact vIsi (.base (.tup h)) (kit_ty (hl p rfl).2) q
  | byt _ => exact pv.elim
  | flt _ => exact pv.elim
  | ty _ => exact pv.elim
theorem kt : kitB "NoneType" "str" = some false ∧ kitB "bool" "str" = some false ∧ kitB "int" "str" = some false ∧ kitB "str" "str" = some true ∧ kitB "list" "str" = some false ∧ kitB "tuple" "str" = some false
  ∧ kitB "NoneType" "int" = some false ∧ kitB "bool" "int" = some true ∧ kitB "int" "int" = some true ∧ kitB "str" "int" = some false ∧ kitB "list" "int" = some false ∧ kitB "tuple" "int" = some false
  ∧ kitB "NoneType" "bool" = some false ∧ kitB "bool" "bool" = some true ∧ kitB "int" "bool" = some false ∧ kitB "str" "bool" = some false ∧ kitB "list" "bool" = some false ∧ kitB "tuple" "bool" = some false := by decide +kernel
theorem useIsiStr {K : PySem.W.Frag} {H : Hp} {Q : VK} {v : V} (pv : PlainV H v) (q : Q (.bl (isStrV v)) H) : rIsi K [v, .ty "str"] H Q := by
  obtain ⟨a1, a2, a3, a4, a5, a6, _⟩ := kt
  refine isi_of pv (b := isStrV v) ?_ ?_ ?_ ?_ ?_ q
  · rintro rfl; exact a1
  · rintro _ rfl; exact a2
  · rintro _ rfl; exact a3
  · rintro _ rfl; exact a4
  · rintro _ rfl; exact ⟨a5, a6⟩
theorem useIsiInt {K : PySem.W.Frag} {H : Hp} {Q : VK} {v : V} (pv : PlainV H v) (q : Q (.bl (isIntV v)) H) : rIsi K [v, .ty "int"] H Q := by
  obtain ⟨_, _, _, _, _, _, a1, a2, a3, a4, a5, a6, _⟩ := kt
  refine isi_of pv (b := isIntV v) ?_ ?_ ?_ ?_ ?_ q
  · rintro rfl; exact a1
  · rintro _ rfl; exact a2
  · rintro _ rfl; exact a3
  · rintro _ rfl; exact a4
  · rintro _ rfl; exact ⟨a5, a6⟩
theorem useIsiBl {K : PySem.W.Frag} {H : Hp} {Q : VK} {v : V} (pv : PlainV H v) (q : Q (.bl (isBlV v)) H) : rIsi K [v, .ty "bool"] H Q := by
  obtain ⟨_, _, _, _, _, _, _, _, _, _, _, _, a1, a2, a3, a4, a5, a6⟩ := kt
  refine isi_of pv (b := isBlV v) ?_ ?_ ?_ ?_ ?_ q
  · rintro rfl; exact a1
  · rintro _ rfl; exact a2
  · rintro _ rfl; exact a3
  · rintro _ rfl; exact a4
  · rintro _ rfl; exact ⟨a5, a6⟩
def spWhole : Sp := fun vs H Q _ => ∃ v, vs = [v] ∧ PlainV H v ∧ Q (.bl (isWholeV v)) H
theorem useWhole {H : Hp} {Q : VK} {E : XK} {v : V} (h : PlainV H v) (k : Q (.bl (isWholeV v)) H) : spWhole [v] H Q E := ⟨v, rfl, h, k⟩
/-- the thing is a tuple of plain values, or no tuple -/
def spIsStep : Sp := fun vs H Q _ => ∃ v, vs = [v] ∧ PlainV H v ∧ ((∃ p xs, v = .ref p ∧ H p = some (.tup xs) ∧ (∀ x ∈ xs, PlainV H x) ∧ Q (.bl (stepOk xs)) H) ∨ ((∀ p, v = .ref p → ∃ ys, H p = some (.lst ys)) ∧ Q (.bl false) H))
theorem useIsStepT {H : Hp} {Q : VK} {E : XK} {p : Addr} {xs : List V} (h : H p = some (.tup xs)) (hx : ∀ x ∈ xs, PlainV H x) (k : Q (.bl (stepOk xs)) H) : spIsStep [.ref p] H Q E := ⟨_, rfl, .inr ⟨_, h⟩, .inl ⟨p, xs, rfl, h, hx, k⟩⟩
theorem PlainV.keep {H H' : Hp} (k : Kp [] H H') {v : V} (h : PlainV H v) : PlainV H' v := by
  cases v with
  | ref p =>
    rcases h with ⟨ys, h⟩ | ⟨ys, h⟩
    · exact .inl ⟨ys, k.get h nin_nil⟩
    · exact .inr ⟨ys, k.get h nin_nil⟩
  | _ => exact h
theorem enc_plain (H : Hp) (a : Stp) : ∀ x ∈ a.enc, PlainV H x := by
  intro x hx
  cases a <;> simp [Stp.enc, Stp.args] at hx <;> first | (rcases hx with hx | hx <;> subst hx <;> trivial) | (subst hx; trivial)
theorem enc_ok (a : Stp) : stepOk a.enc = true := by cases a <;> rfl
end G
namespace G
open PySem PySem.Spec PyProof.Rows L2
theorem num3_abs (c : Int) : (numBy3 c).natAbs < 2 ^ 200 := by
  have big : (10 : Int) ^ 60 < 2 ^ 200 := by decide +kernel
  unfold numBy3
  split
  · have h1 := Int.emod_nonneg (c * (10 ^ 59 + 7)) (show (10 ^ 60 : Int) ≠ 0 by decide +kernel)
    have h2 := Int.emod_lt_of_pos (c * (10 ^ 59 + 7)) (show (0 : Int) < 10 ^ 60 by decide +kernel)
    generalize c * (10 ^ 59 + 7) % 10 ^ 60 = y at *
    have h3 : 1 - 2 * (c / 3 % 2) = 1 ∨ 1 - 2 * (c / 3 % 2) = -1 := by omega
    rcases h3 with h3 | h3 <;> rw [h3]
    · rw [Int.mul_one]; omega
    · rw [Int.mul_neg, Int.mul_one]; omega
  · have h1 : (c / 3 % 41 - 20).natAbs < 100 := by omega
    exact Nat.lt_trans h1 (by decide +kernel)
theorem num3_log (c : Int) : (numBy3 c).natAbs.log2 < 1920 := by
  rcases Nat.eq_zero_or_pos (numBy3 c).natAbs with h0 | hp
  · rw [h0]; decide
  · exact Nat.lt_trans ((Nat.log2_lt (Nat.ne_of_gt hp)).mpr (num3_abs c)) (by decide)
end G
namespace G
open PySem PySem.Spec PyProof.Rows L2
theorem useIsStepN {H : Hp} {Q : VK} {E : XK} {v : V} (h : PlainV H v) (n : ∀ p, v ≠ .ref p) (k : Q (.bl false) H) : spIsStep [v] H Q E := ⟨_, rfl, h, .inr ⟨fun p e => absurd e (n p), k⟩⟩
theorem useIsStepL {H : Hp} {Q : VK} {E : XK} {p : Addr} {ys : List V} (h : H p = some (.lst ys)) (k : Q (.bl false) H) : spIsStep [.ref p] H Q E := ⟨_, rfl, .inl ⟨_, h⟩, .inr ⟨fun q e => by cases e; exact ⟨_, h⟩, k⟩⟩
theorem pl_nil {H : Hp} : ∀ x ∈ ([] : List V), PlainV H x := fun _ h => by cases h
theorem pl_cons {H : Hp} {v : V} {r : List V} (h : PlainV H v) (t : ∀ x ∈ r, PlainV H x) : ∀ x ∈ v :: r, PlainV H x := fun x hx => (List.mem_cons.mp hx).elim (fun e => e ▸ h) (t x)
theorem inV_cons {w x : Str} {r : List V} : inV (.str w) (.str x :: r) = (decide (w = x) || inV (.str w) r) := by
  show (eqV (.str x) (.str w) || r.any fun y => eqV y (.str w)) = _
  have : eqV (.str x) (.str w) = decide (w = x) := by
    show (x == w) = decide (w = x)
    rw [Bool.beq_eq_decide_eq]
    exact decide_eq_decide.mpr eq_comm
  rw [this]
  rfl
theorem inV_nil {v : V} : inV v [] = false := rfl
theorem step_wn (w : Str) (n : Int) : stepOk [.str w, .int n] = inV (.str w) [.str "load", .str "plus", .str "store", .str "add"] := by
  unfold stepOk boxedW
  simp only [inV_cons, inV_nil, isWholeV, Bool.or_false, Bool.or_assoc]
  split
  · rename_i h; exact h.symm
  · rename_i h; exact (Bool.eq_false_iff.mpr h).symm
theorem step_w (w : Str) : stepOk [.str w] = inV (.str w) [.str "twice", .str "take", .str "free"] := by
  unfold stepOk boxedW guardsW
  simp only [inV_cons, inV_nil, Bool.or_false]
  by_cases h1 : w = "twice"
  · subst h1; decide +kernel
  by_cases h2 : w = "take"
  · subst h2; decide +kernel
  by_cases h3 : w = "free"
  · subst h3; decide +kernel
  simp only [h1, h2, h3, decide_false, Bool.or_false, ite_self]
theorem step_wb {w : Str} {x : V} (h : isWholeV x = false) : stepOk [.str w, x] = false := by
  unfold stepOk
  simp only [h, ite_self]
theorem step_w3 {w : Str} {x y : V} : stepOk [.str w, x, y] = false := by
  unfold stepOk
  simp only [ite_self]
theorem len_le {n : Nat} (h : n ≤ 1000) : n ≤ sizeLine := Nat.le_trans h (by decide)
end G
namespace G
open PySem PySem.Spec PyProof.Rows L2
/-! ### rows that may hold wrong things -/
inductive Err where
  | tooMany | badStep | badBox | again | notHeld | noTurn | waits | stuck
  deriving DecidableEq
/-- where the errors' classes stand -/
def ers (a b c d e f g h : Addr) : Err → Addr
  | .tooMany => a | .badStep => b | .badBox => c | .again => d | .notHeld => e | .noTurn => f | .waits => g | .stuck => h
/-- a thing: the items of a tuple, or no tuple -/
abbrev Thg := Option (List V)
def ThAt (H : Hp) (v : V) : Thg → Prop
  | some xs => ∃ p, v = .ref p ∧ H p = some (.tup xs) ∧ ∀ x ∈ xs, PlainV H x
  | none => PlainV H v ∧ ∀ p, v = .ref p → ∃ ys, H p = some (.lst ys)
structure ThRow (H : Hp) (xs : List V) (cs : List Thg) : Prop where
  n : xs.length = cs.length
  e : ∀ (i : Nat) (v : V) (c : Thg), xs[i]? = some v → cs[i]? = some c → ThAt H v c
def okC : Thg → Bool
  | some xs => stepOk xs | none => false
theorem stepOk_enc {xs : List V} (h : stepOk xs = true) : ∃ s : Stp, xs = s.enc := by
  unfold stepOk at h
  split at h
  · cases h
  · split at h
    · rename_i w
      unfold boxedW guardsW at h
      simp only [inV_cons, inV_nil, Bool.or_false] at h
      split at h
      · rename_i hw
        split at h
        · rename_i x
          cases x with
          | int n =>
            simp only [Bool.or_eq_true, decide_eq_true_eq] at hw
            rcases hw with (hw | hw | hw) | hw <;> subst hw
            · exact ⟨.load n, rfl⟩
            · exact ⟨.plus n, rfl⟩
            · exact ⟨.store n, rfl⟩
            · exact ⟨.add n, rfl⟩
          | _ => cases h
        · cases h
      · split at h
        · simp only [Bool.or_eq_true, decide_eq_true_eq] at h
          rcases h with h | h | h <;> subst h
          · exact ⟨.twice, rfl⟩
          · exact ⟨.take, rfl⟩
          · exact ⟨.free, rfl⟩
        · cases h
    · cases h
/-- the box of a step is there -/
def inBox (many : Int) (s : Stp) : Bool := !s.isB || (decide (0 ≤ s.arg) && decide (s.arg < many))
/-- what is wrong with a thing -/
def thErr (many : Int) (c : Thg) : Option Err := match c with
  | none => some .badStep
  | some xs => if stepOk xs = false then some .badStep else match xs with
    | [.str w, .int b] => if inV (.str w) boxedW = true ∧ ¬ (0 ≤ b ∧ b < many) then some .badBox else none
    | _ => none
theorem thErr_enc (many : Int) (s : Stp) : thErr many (some s.enc) = if inBox many s = true then none else some .badBox := by
  have e := enc_ok s
  have h1 : inV (.str "load") boxedW = true := by decide +kernel
  have h2 : inV (.str "plus") boxedW = true := by decide +kernel
  have h3 : inV (.str "store") boxedW = true := by decide +kernel
  have h4 : inV (.str "add") boxedW = false := by decide +kernel
  have go : ∀ b : Int, (if True ∧ ¬ (0 ≤ b ∧ b < many) then some Err.badBox else none) = if (decide (0 ≤ b) && decide (b < many)) = true then none else some .badBox := fun b => by
    by_cases hb : 0 ≤ b ∧ b < many
    · rw [if_neg (fun z => z.2 hb), if_pos (by simp [hb.1, hb.2])]
    · rw [if_pos ⟨trivial, hb⟩, if_neg (by simp only [Bool.and_eq_true, decide_eq_true_eq]; exact hb)]
  have top : ∀ x : Option Err, (if stepOk s.enc = false then some Err.badStep else x) = x := fun x => if_neg (by rw [e]; decide)
  cases s with
  | load b =>
    refine (top _).trans ?_
    show (if inV (V.str "load") boxedW = true ∧ ¬ (0 ≤ b ∧ b < many) then some Err.badBox else none) = _
    simp only [h1, eq_self_iff_true]
    exact go b
  | plus b =>
    refine (top _).trans ?_
    show (if inV (V.str "plus") boxedW = true ∧ ¬ (0 ≤ b ∧ b < many) then some Err.badBox else none) = _
    simp only [h2, eq_self_iff_true]
    exact go b
  | store b =>
    refine (top _).trans ?_
    show (if inV (V.str "store") boxedW = true ∧ ¬ (0 ≤ b ∧ b < many) then some Err.badBox else none) = _
    simp only [h3, eq_self_iff_true]
    exact go b
  | add b =>
    refine (top _).trans ?_
    show (if inV (V.str "add") boxedW = true ∧ ¬ (0 ≤ b ∧ b < many) then some Err.badBox else none) = _
    simp only [h4, Bool.false_eq_true, false_and, if_false]
    rfl
  | twice => exact top _
  | take => exact top _
  | free => exact top _
theorem thErr_bad {many : Int} {c : Thg} (h : okC c = false) : thErr many c = some .badStep := by
  cases c with
  | none => rfl
  | some xs => unfold thErr; exact if_pos h
def needC (cs : List Thg) (many : Int) : Option Err := if cs.length > 60 then some .tooMany else cs.findSome? (thErr many)
def spNeed (er : Err → Addr) : Sp := fun vs H Q E => ∃ (a : Addr) (many : Int) (xs : List V) (cs : List Thg), vs = [.ref a, .int many] ∧ H a = some (.lst xs) ∧ ThRow H xs cs ∧
  (needC cs many = none → Q .non H) ∧ ∀ e, needC cs many = some e → E (.ref (er e)) none H
theorem useNeed {er : Err → Addr} {H : Hp} {Q : VK} {E : XK} {a : Addr} {many : Int} {xs : List V} {cs : List Thg} (h : H a = some (.lst xs)) (t : ThRow H xs cs) (k : needC cs many = none → Q .non H) (ke : ∀ e, needC cs many = some e → E (.ref (er e)) none H) :
    spNeed er [.ref a, .int many] H Q E := ⟨a, many, xs, cs, rfl, h, t, k, ke⟩
theorem ThAt.keep {H H' : Hp} (k : Kp [] H H') {v : V} {c : Thg} (h : ThAt H v c) : ThAt H' v c := by
  cases c with
  | none => exact ⟨h.1.keep k, fun p e => by obtain ⟨ys, q⟩ := h.2 p e; exact ⟨ys, k.get q nin_nil⟩⟩
  | some xs => obtain ⟨p, e, q, r⟩ := h; exact ⟨p, e, k.getT q, fun x hx => (r x hx).keep k⟩
theorem ThRow.keep {H H' : Hp} (k : Kp [] H H') {xs : List V} {cs : List Thg} (h : ThRow H xs cs) : ThRow H' xs cs := ⟨h.n, fun i v c a b => (h.e i v c a b).keep k⟩
theorem find_take_none {α β : Type} {f : α → Option β} : ∀ {l : List α} {i : Nat} {c : α}, (l.take i).findSome? f = none → l[i]? = some c → f c = none → (l.take (i + 1)).findSome? f = none
  | [], i, c, _, h, _ => by simp at h
  | a :: r, 0, c, _, h, hc => by
    have e : a = c := by simpa using h
    subst e
    simp [hc]
  | a :: r, i + 1, c, h0, h, hc => by
    simp only [List.take_succ_cons, List.findSome?_cons] at h0 ⊢
    cases e : f a with
    | some b => rw [e] at h0; cases h0
    | none =>
      rw [e] at h0
      exact find_take_none h0 (by simpa using h) hc
theorem find_take_some {α β : Type} {f : α → Option β} : ∀ {l : List α} {i : Nat} {c : α} {b : β}, (l.take i).findSome? f = none → l[i]? = some c → f c = some b → l.findSome? f = some b
  | [], i, c, b, _, h, _ => by simp at h
  | a :: r, 0, c, b, _, h, hc => by
    have e : a = c := by simpa using h
    subst e
    simp [hc]
  | a :: r, i + 1, c, b, h0, h, hc => by
    simp only [List.take_succ_cons, List.findSome?_cons] at h0 ⊢
    cases e : f a with
    | some b => rw [e] at h0; cases h0
    | none =>
      rw [e] at h0
      exact find_take_some h0 (by simpa using h) hc
end G
namespace G
open PySem PySem.Spec PyProof.Rows L2
/-! ### the state of two rows -/
def hI (h : Bool) : Int := if h then 1 else 0
def upB {α : Type} (f : Bool → α) (h : Bool) (v : α) : Bool → α := fun g => if g = h then v else f g
theorem upB_same {α : Type} {f : Bool → α} {h : Bool} {v : α} : upB f h v h = v := if_pos rfl
theorem upB_ne {α : Type} {f : Bool → α} {h g : Bool} {v : α} (e : g ≠ h) : upB f h v g = f g := if_neg e
theorem at_h {α : Type} {f : Bool → α} {h : Bool} (c : α → V) : atI [c (f false), c (f true)] (hI h) = some (c (f h)) := by cases h <;> rfl
theorem ix_h {α : Type} {x y : α} {h : Bool} : ixN [x, y].length (hI h) = some (hI h).toNat := by cases h <;> rfl
theorem set_h {α : Type} {f : Bool → α} {h : Bool} {v : α} (c : α → V) : [c (f false), c (f true)].set (hI h).toNat (c v) = [c (upB f h v false), c (upB f h v true)] := by cases h <;> rfl
structure LS where
  rows : Bool → List Stp
  boxes : List Int
  num : Bool → Int
  pl : Bool → Nat
  hd : Option Bool
def LS.next (S : LS) (h : Bool) : Option Stp := (S.rows h)[S.pl h]?
def LS.over (S : LS) (h : Bool) : Bool := decide (S.pl h = (S.rows h).length)
def Stp.isT : Stp → Bool
  | .take => true | _ => false
def LS.waits (S : LS) (h : Bool) : Bool := match S.next h with
  | some s => s.isT && decide (S.hd = some (!h))
  | none => false
def LS.box (S : LS) (b : Int) : Int := S.boxes.getD b.toNat 0
def LS.act (S : LS) (h : Bool) (s : Stp) : LS := match s with
  | .load b => { S with num := upB S.num h (S.box b) }
  | .plus b => { S with num := upB S.num h (S.num h + S.box b) }
  | .store b => { S with boxes := S.boxes.set b.toNat (S.num h) }
  | .add n => { S with num := upB S.num h (S.num h + n) }
  | .twice => { S with num := upB S.num h (2 * S.num h) }
  | .take => { S with hd := some h }
  | .free => { S with hd := none }
def LS.tick (S : LS) (h : Bool) : LS := { S with pl := upB S.pl h (S.pl h + 1) }
def LS.eff (S : LS) (h : Bool) (s : Stp) : LS := (S.act h s).tick h
/-- what the guard refuses -/
def LS.gErr (S : LS) (h : Bool) (s : Stp) : Option Err := match s with
  | .take => if S.hd = some h then some .again else none
  | .free => if S.hd = some h then none else some .notHeld
  | _ => none
def LS.err (S : LS) (h : Bool) : Option Err := match S.next h with
  | none => some .noTurn
  | some s => if S.waits h = true then some .waits else S.gErr h s
structure LS.Ok (S : LS) : Prop where
  len : ∀ h, (S.rows h).length ≤ 60
  box : ∀ h s, s ∈ S.rows h → inBox S.boxes.length s = true
  pl : ∀ h, S.pl h ≤ (S.rows h).length
theorem act_rows (S : LS) (h : Bool) (s : Stp) : (S.act h s).rows = S.rows := by cases s <;> rfl
theorem act_pl (S : LS) (h : Bool) (s : Stp) : (S.act h s).pl = S.pl := by cases s <;> rfl
theorem act_boxes (S : LS) (h : Bool) (s : Stp) : (S.act h s).boxes.length = S.boxes.length := by cases s <;> simp [LS.act]
theorem eff_rows (S : LS) (h : Bool) (s : Stp) : (S.eff h s).rows = S.rows := act_rows S h s
theorem eff_boxes (S : LS) (h : Bool) (s : Stp) : (S.eff h s).boxes.length = S.boxes.length := act_boxes S h s
theorem next_lt {S : LS} {h : Bool} {s : Stp} (e : S.next h = some s) : S.pl h < (S.rows h).length := (List.getElem?_eq_some_iff.mp e).1
theorem LS.Ok.eff {S : LS} (o : S.Ok) {h : Bool} {s : Stp} (e : S.next h = some s) : (S.eff h s).Ok where
  len := fun g => by rw [eff_rows]; exact o.len g
  box := fun g t ht => by rw [eff_rows] at ht; rw [eff_boxes]; exact o.box g t ht
  pl := fun g => by
    rw [eff_rows]
    have e2 : (S.eff h s).pl = upB S.pl h (S.pl h + 1) := by
      show upB (S.act h s).pl h ((S.act h s).pl h + 1) = _
      rw [act_pl]
    rw [e2]
    by_cases q : g = h
    · subst q; rw [upB_same]; exact next_lt e
    · rw [upB_ne q]; exact o.pl g
theorem next_none {S : LS} (o : S.Ok) {h : Bool} : S.next h = none ↔ S.over h = true := by
  unfold LS.next LS.over
  rw [List.getElem?_eq_none_iff, decide_eq_true_eq]
  have := o.pl h
  omega
theorem next_some {S : LS} (o : S.Ok) {h : Bool} (e : S.over h = false) : ∃ s, S.next h = some s := by
  cases q : S.next h with
  | some s => exact ⟨s, rfl⟩
  | none => rw [(next_none o).mp q] at e; cases e
def LS.start (rows : Bool → List Stp) (boxes : List Int) : LS := ⟨rows, boxes, fun _ => 0, fun _ => 0, none⟩
/-! ### rows, looms in the heap -/
structure RowAt (H : Hp) (a : Addr) (ps : List Addr) (rs : List Stp) : Prop where
  l : H a = some (.lst (ps.map V.ref))
  n : ps.length = rs.length
  e : ∀ (i : Nat) (p : Addr) (s : Stp), ps[i]? = some p → rs[i]? = some s → H p = some (.tup s.enc)
theorem RowAt.keep {W : List Addr} {H H' : Hp} {a : Addr} {ps : List Addr} {rs : List Stp} (r : RowAt H a ps rs) (k : Kp W H H') (n : a ∉ W) : RowAt H' a ps rs := ⟨k.get r.l n, r.n, fun i p s h1 h2 => k.getT (r.e i p s h1 h2)⟩
theorem RowAt.copy {W : List Addr} {H H' : Hp} {a b : Addr} {ps : List Addr} {rs : List Stp} (r : RowAt H a ps rs) (k : Kp W H H') (h : H' b = some (.lst (ps.map V.ref))) : RowAt H' b ps rs := ⟨h, r.n, fun i p s h1 h2 => k.getT (r.e i p s h1 h2)⟩
theorem RowAt.th {H : Hp} {a : Addr} {ps : List Addr} {rs : List Stp} (r : RowAt H a ps rs) : ThRow H (ps.map V.ref) (rs.map fun s => some s.enc) := by
  refine ⟨by rw [List.length_map, List.length_map, r.n], fun i v c h1 h2 => ?_⟩
  rw [List.getElem?_map] at h1 h2
  cases e1 : ps[i]? with
  | none => rw [e1] at h1; cases h1
  | some p =>
    cases e2 : rs[i]? with
    | none => rw [e2] at h2; cases h2
    | some s =>
      rw [e1] at h1; rw [e2] at h2
      cases h1; cases h2
      exact ⟨p, rfl, r.e i p s e1 e2, enc_plain H s⟩
theorem RowAt.get {H : Hp} {a : Addr} {ps : List Addr} {rs : List Stp} (r : RowAt H a ps rs) {i : Nat} {s : Stp} (e : rs[i]? = some s) : ∃ p, ps[i]? = some p ∧ atI (ps.map V.ref) (i : Int) = some (.ref p) ∧ H p = some (.tup s.enc) := by
  have hi : i < rs.length := (List.getElem?_eq_some_iff.mp e).1
  have hp : i < ps.length := by rw [r.n]; exact hi
  refine ⟨ps[i], List.getElem?_eq_getElem hp, at_of rfl (by rw [List.getElem?_map, List.getElem?_eq_getElem hp]; rfl), r.e i _ s (List.getElem?_eq_getElem hp) e⟩
structure LA where
  p : Addr
  dx : Addr
  r : Addr
  row : Bool → Addr
  ps : Bool → List Addr
  b : Addr
  n : Addr
  q : Addr
def hV : Option Bool → V
  | none => .non | some h => .int (hI h)
def lf (A : LA) (v : V) : List (Str × V) := [("rows", .ref A.r), ("boxes", .ref A.b), ("numbers", .ref A.n), ("places", .ref A.q), ("holder", v)]
theorem lf_rows {A : LA} {v : V} : (lf A v).lookup ("rows" : Str) = some (.ref A.r) := by rfl
theorem lf_boxes {A : LA} {v : V} : (lf A v).lookup ("boxes" : Str) = some (.ref A.b) := by rfl
theorem lf_numbers {A : LA} {v : V} : (lf A v).lookup ("numbers" : Str) = some (.ref A.n) := by rfl
theorem lf_places {A : LA} {v : V} : (lf A v).lookup ("places" : Str) = some (.ref A.q) := by rfl
theorem lf_holder {A : LA} {v : V} : (lf A v).lookup ("holder" : Str) = some v := by rfl
theorem lf_put {A : LA} {v w : V} : putF "holder" w (lf A v) = lf A w := by rfl
theorem lf_over {A : LA} {v : V} : (lf A v).lookup ("over" : Str) = none := by rfl
theorem lf_waits {A : LA} {v : V} : (lf A v).lookup ("waits" : Str) = none := by rfl
theorem lf_go {A : LA} {v : V} : (lf A v).lookup ("go" : Str) = none := by rfl
theorem lf_guard {A : LA} {v : V} : (lf A v).lookup ("guard" : Str) = none := by rfl
theorem lf_touch {A : LA} {v : V} : (lf A v).lookup ("touch" : Str) = none := by rfl
theorem lf_twin {A : LA} {v : V} : (lf A v).lookup ("twin" : Str) = none := by rfl
def LA.fp (A : LA) : List Addr := [A.p, A.b, A.n, A.q]
structure LoomAt (C : Addr) (H : Hp) (A : LA) (S : LS) : Prop where
  ins : H A.p = some (.ins C A.dx (lf A (hV S.hd)))
  rws : H A.r = some (.lst [.ref (A.row false), .ref (A.row true)])
  row : ∀ h, RowAt H (A.row h) (A.ps h) (S.rows h)
  box : H A.b = some (.lst (S.boxes.map V.int))
  num : H A.n = some (.lst [.int (S.num false), .int (S.num true)])
  pls : H A.q = some (.lst [.int (S.pl false), .int (S.pl true)])
  bn : A.b ≠ A.n
  bq : A.b ≠ A.q
  nq : A.n ≠ A.q
  rb : A.r ≠ A.b
  rn : A.r ≠ A.n
  rq : A.r ≠ A.q
  wb : ∀ h, A.row h ≠ A.b
  wn : ∀ h, A.row h ≠ A.n
  wq : ∀ h, A.row h ≠ A.q
theorem LoomAt.np {C : Addr} {H : Hp} {A : LA} {S : LS} (L : LoomAt C H A S) : A.p ≠ A.r ∧ (∀ h, A.p ≠ A.row h) ∧ A.p ≠ A.b ∧ A.p ≠ A.n ∧ A.p ≠ A.q :=
  ⟨ne_kind L.ins L.rws (by intro z; cases z), fun h => ne_kind L.ins (L.row h).l (by intro z; cases z), ne_kind L.ins L.box (by intro z; cases z), ne_kind L.ins L.num (by intro z; cases z), ne_kind L.ins L.pls (by intro z; cases z)⟩
theorem LoomAt.keep {C : Addr} {W : List Addr} {H H' : Hp} {A : LA} {S : LS} (L : LoomAt C H A S) (k : Kp W H H') (n1 : A.p ∉ W) (n2 : A.r ∉ W) (n3 : ∀ h, A.row h ∉ W) (n4 : A.b ∉ W) (n5 : A.n ∉ W) (n6 : A.q ∉ W) : LoomAt C H' A S :=
  ⟨k.get L.ins n1, k.get L.rws n2, fun h => (L.row h).keep k (n3 h), k.get L.box n4, k.get L.num n5, k.get L.pls n6, L.bn, L.bq, L.nq, L.rb, L.rn, L.rq, L.wb, L.wn, L.wq⟩
theorem LoomAt.keep0 {C : Addr} {H H' : Hp} {A : LA} {S : LS} (L : LoomAt C H A S) (k : Kp [] H H') : LoomAt C H' A S := L.keep k nin_nil nin_nil (fun _ => nin_nil) nin_nil nin_nil nin_nil
theorem LoomAt.keepW {C w : Addr} {W : List Addr} {H H' : Hp} {A : LA} {S : LS} (L : LoomAt C H A S) (k : Kp (w :: W) H H') (n1 : A.p ∉ w :: W) (n2 : A.r ∉ w :: W) (n3 : ∀ h, A.row h ∉ w :: W) (n4 : A.b ∉ w :: W) (n5 : A.n ∉ w :: W) (n6 : A.q ∉ w :: W) : LoomAt C H' A S := L.keep k n1 n2 n3 n4 n5 n6
/-! ### what the methods promise -/
def spOver (C : Addr) : Sp := fun vs H Q _ => ∃ (A : LA) (S : LS) (h : Bool), vs = [.ref A.p, .int (hI h)] ∧ LoomAt C H A S ∧ Q (.bl (S.over h)) H
theorem useOver {C : Addr} {H : Hp} {Q : VK} {E : XK} {A : LA} {S : LS} {h : Bool} (L : LoomAt C H A S) (k : Q (.bl (S.over h)) H) : spOver C [.ref A.p, .int (hI h)] H Q E := ⟨A, S, h, rfl, L, k⟩
def spWaits (C : Addr) : Sp := fun vs H Q _ => ∃ (A : LA) (S : LS) (h : Bool), vs = [.ref A.p, .int (hI h)] ∧ LoomAt C H A S ∧ S.Ok ∧ Q (.bl (S.waits h)) H
theorem useWaits {C : Addr} {H : Hp} {Q : VK} {E : XK} {A : LA} {S : LS} {h : Bool} (L : LoomAt C H A S) (o : S.Ok) (k : Q (.bl (S.waits h)) H) : spWaits C [.ref A.p, .int (hI h)] H Q E := ⟨A, S, h, rfl, L, o, k⟩
def spGuard (er : Err → Addr) (C : Addr) : Sp := fun vs H Q E => ∃ (A : LA) (S : LS) (h : Bool) (s : Stp), vs = [.ref A.p, .int (hI h), .str s.word] ∧ s.isG = true ∧ LoomAt C H A S ∧
  (∀ e, S.gErr h s = some e → E (.ref (er e)) none H) ∧ (S.gErr h s = none → ∀ H', Kp A.fp H H' → LoomAt C H' A (S.act h s) → Q .non H')
def spTouch (C : Addr) : Sp := fun vs H Q E => ∃ (A : LA) (S : LS) (h : Bool) (s : Stp), vs = [.ref A.p, .int (hI h), .str s.word, .int s.arg] ∧ s.isB = true ∧ LoomAt C H A S ∧ 0 ≤ s.arg ∧ s.arg < S.boxes.length ∧
  (∀ H', Kp A.fp H H' → LoomAt C H' A (S.act h s) → Q .non H')
def spGo (er : Err → Addr) (C : Addr) : Sp := fun vs H Q E => ∃ (A : LA) (S : LS) (h : Bool), vs = [.ref A.p, .int (hI h)] ∧ LoomAt C H A S ∧ S.Ok ∧
  (∀ e, S.err h = some e → E (.ref (er e)) none H) ∧ (S.err h = none → ∀ s H', S.next h = some s → Kp A.fp H H' → LoomAt C H' A (S.eff h s) → Q .non H')
/-- what is wrong with two rows -/
def loomErr (c0 c1 : List Thg) (many : Int) : Option Err := match needC c0 many with
  | some e => some e
  | none => needC c1 many
def spInit (er : Err → Addr) (C : Addr) : Sp := fun vs H Q E => ∃ (p dx a0 a1 b : Addr) (x0 x1 : List V) (c0 c1 : List Thg) (bs : List Int), vs = [.ref p, .ref a0, .ref a1, .ref b] ∧ H p = some (.ins C dx []) ∧
  H a0 = some (.lst x0) ∧ H a1 = some (.lst x1) ∧ ThRow H x0 c0 ∧ ThRow H x1 c1 ∧ H b = some (.lst (bs.map V.int)) ∧
  (∀ e, loomErr c0 c1 bs.length = some e → E (.ref (er e)) none H) ∧
  (loomErr c0 c1 bs.length = none → ∀ (A : LA) (S : LS) (H' : Hp), A.p = p → Fre H A.r → (∀ h, Fre H (A.row h)) → Fre H A.b → Fre H A.n → Fre H A.q → S.num = (fun _ => 0) → S.pl = (fun _ => 0) → S.hd = none → S.boxes = bs → S.Ok →
    c0 = (S.rows false).map (fun s => some s.enc) → c1 = (S.rows true).map (fun s => some s.enc) → (A.ps false).map V.ref = x0 → (A.ps true).map V.ref = x1 → Kp [p] H H' → LoomAt C H' A S → Q .non H')
def spTwin (C : Addr) : Sp := fun vs H Q E => ∃ (A : LA) (S : LS), vs = [.ref A.p] ∧ LoomAt C H A S ∧ S.Ok ∧
  (∀ (A' : LA) (H' : Hp), Fre H A'.p → Fre H A'.r → (∀ h, Fre H (A'.row h)) → Fre H A'.b → Fre H A'.n → Fre H A'.q → A'.ps = A.ps → Kp [] H H' → LoomAt C H' A' S → Q (.ref A'.p) H')
end G
namespace G
open PySem PySem.Spec PyProof.Rows L2
/-! ### promises of small defs -/
def spApart : Sp := fun vs H Q _ => ∃ (p q : Addr) (a b : Stp), vs = [.ref p, .ref q] ∧ H p = some (.tup a.enc) ∧ H q = some (.tup b.enc) ∧ Q (.bl (apartS a b)) H
theorem useApart {H : Hp} {Q : VK} {E : XK} {p q : Addr} {a b : Stp} (h1 : H p = some (.tup a.enc)) (h2 : H q = some (.tup b.enc)) (k : Q (.bl (apartS a b)) H) : spApart [.ref p, .ref q] H Q E := ⟨p, q, a, b, rfl, h1, h2, k⟩
def spCell (K : PySem.W.Frag) : Sp := fun vs H Q _ => ∃ (a : Addr) (ns : List Int) (i : Int), vs = [.ref a, .int i] ∧ SqL K H a (ns.map V.int) ∧ 0 ≤ i ∧ Q (.int (cellI ns i)) H
theorem useCell {K : PySem.W.Frag} {H : Hp} {Q : VK} {E : XK} {a : Addr} {ns : List Int} {i : Int} (h1 : SqL K H a (ns.map V.int)) (h2 : 0 ≤ i) (k : Q (.int (cellI ns i)) H) : spCell K [.ref a, .int i] H Q E := ⟨a, ns, i, rfl, h1, h2, k⟩
def spNum : Sp := fun vs H Q _ => ∃ (c : Int), vs = [.int c] ∧ Bt c ∧ Q (.int (numBy3 c)) H
theorem useNum {H : Hp} {Q : VK} {E : XK} {c : Int} (h1 : Bt c) (k : Q (.int (numBy3 c)) H) : spNum [.int c] H Q E := ⟨c, rfl, h1, k⟩
def spStep : Sp := fun vs H Q _ => ∃ (c b n : Int), vs = [.int c, .int b, .int n] ∧ ∀ p H', Fre H p → Kp [] H H' → H' p = some (.tup (mk7 (c % 7) b n).enc) → Q (.ref p) H'
theorem useStep {H : Hp} {Q : VK} {E : XK} {c b n : Int} (k : ∀ p H', Fre H p → Kp [] H H' → H' p = some (.tup (mk7 (c % 7) b n).enc) → Q (.ref p) H') : spStep [.int c, .int b, .int n] H Q E := ⟨c, b, n, rfl, k⟩
def spTrue : Sp := fun vs H Q _ => ∃ (x y : Bool), vs = [.bl x, .bl y] ∧ Q (.bl (decide (x = y))) H
theorem useTrue {H : Hp} {Q : VK} {E : XK} {x y : Bool} (k : Q (.bl (decide (x = y))) H) : spTrue [.bl x, .bl y] H Q E := ⟨x, y, rfl, k⟩
end G
namespace G
open PySem PySem.Spec PyProof.Rows L2
theorem word_isT (a : Stp) : decide (V.str a.word = V.str "take") = a.isT := by
  rw [dec_str]
  cases a <;> simp only [Stp.word, Stp.isT] <;> decide +kernel
theorem useEqT {H : Hp} {Q : VK} {a : Stp} (q : Q (.bl a.isT) H) : rEq (.str a.word) (.str "take") H Q := vEq rfl (by rw [word_isT]; exact q)
theorem useEqS {H : Hp} {Q : VK} {a : Stp} (q : Q (.bl a.isS) H) : rEq (.str a.word) (.str "store") H Q := vEq rfl (by rw [word_isS]; exact q)
def Stp.isL : Stp → Bool
  | .load _ => true | _ => false
theorem word_isL (a : Stp) : decide (V.str a.word = V.str "load") = a.isL := by
  rw [dec_str]
  cases a <;> simp only [Stp.word, Stp.isL] <;> decide +kernel
theorem useEqL {H : Hp} {Q : VK} {a : Stp} (q : Q (.bl a.isL) H) : rEq (.str a.word) (.str "load") H Q := vEq rfl (by rw [word_isL]; exact q)
theorem scal_hV (o : Option Bool) (i : Int) : scal (hV o) (.int i) = true := by cases o <;> rfl
theorem hV_eq (o : Option Bool) (g : Bool) : decide (hV o = .int (hI g)) = decide (o = some g) := by
  cases o with
  | none => simp [hV]
  | some h => cases h <;> cases g <;> decide
theorem hI_not (g : Bool) : 1 - hI g = hI (!g) := by cases g <;> rfl
theorem useHold {H : Hp} {Q : VK} {o : Option Bool} {g : Bool} (q : Q (.bl (decide (o = some g))) H) : rEq (hV o) (.int (hI g)) H Q := vEq (scal_hV _ _) (by rw [hV_eq]; exact q)
theorem useHoldN {H : Hp} {Q : VK} {o : Option Bool} {g : Bool} (q : Q (.bl (!decide (o = some g))) H) : rNe (hV o) (.int (hI g)) H Q := vNe (scal_hV _ _) (by rw [hV_eq]; exact q)
theorem useHoldO {H : Hp} {Q : VK} {o : Option Bool} {g : Bool} (q : Q (.bl (decide (o = some (!g)))) H) : rEq (hV o) (.int (1 - hI g)) H Q := by rw [hI_not]; exact useHold q
theorem lf_len {A : LA} {v : V} : (lf A v).length < 1000 := (by decide : 5 < 1000)
theorem LoomAt.setHd {C : Addr} {H H' : Hp} {A : LA} {S : LS} (L : LoomAt C H A S) (k : Kp [A.p] H H') (o : Option Bool) (e : H' A.p = some (.ins C A.dx (putF "holder" (hV o) (lf A (hV S.hd))))) : LoomAt C H' A { S with hd := o } := by
  obtain ⟨n1, n2, n3, n4, n5⟩ := L.np
  exact ⟨e, k.get L.rws (nin_cons n1.symm nin_nil), fun h => (L.row h).keep k (nin_cons (n2 h).symm nin_nil), k.get L.box (nin_cons n3.symm nin_nil), k.get L.num (nin_cons n4.symm nin_nil), k.get L.pls (nin_cons n5.symm nin_nil), L.bn, L.bq, L.nq, L.rb, L.rn, L.rq, L.wb, L.wn, L.wq⟩
theorem LoomAt.setNum {C : Addr} {H H' : Hp} {A : LA} {S : LS} (L : LoomAt C H A S) (k : Kp [A.n] H H') (f : Bool → Int) (e : H' A.n = some (.lst [.int (f false), .int (f true)])) : LoomAt C H' A { S with num := f } := by
  obtain ⟨n1, n2, n3, n4, n5⟩ := L.np
  exact ⟨k.get L.ins (nin_cons n4 nin_nil), k.get L.rws (nin_cons L.rn nin_nil), fun h => (L.row h).keep k (nin_cons (L.wn h) nin_nil), k.get L.box (nin_cons L.bn nin_nil), e, k.get L.pls (nin_cons L.nq.symm nin_nil), L.bn, L.bq, L.nq, L.rb, L.rn, L.rq, L.wb, L.wn, L.wq⟩
theorem LoomAt.setPl {C : Addr} {H H' : Hp} {A : LA} {S : LS} (L : LoomAt C H A S) (k : Kp [A.q] H H') (f : Bool → Nat) (e : H' A.q = some (.lst [.int (f false), .int (f true)])) : LoomAt C H' A { S with pl := f } := by
  obtain ⟨n1, n2, n3, n4, n5⟩ := L.np
  exact ⟨k.get L.ins (nin_cons n5 nin_nil), k.get L.rws (nin_cons L.rq nin_nil), fun h => (L.row h).keep k (nin_cons (L.wq h) nin_nil), k.get L.box (nin_cons L.bq nin_nil), k.get L.num (nin_cons L.nq nin_nil), e, L.bn, L.bq, L.nq, L.rb, L.rn, L.rq, L.wb, L.wn, L.wq⟩
theorem LoomAt.setBox {C : Addr} {H H' : Hp} {A : LA} {S : LS} (L : LoomAt C H A S) (k : Kp [A.b] H H') (f : List Int) (e : H' A.b = some (.lst (f.map V.int))) : LoomAt C H' A { S with boxes := f } := by
  obtain ⟨n1, n2, n3, n4, n5⟩ := L.np
  exact ⟨k.get L.ins (nin_cons n3 nin_nil), k.get L.rws (nin_cons L.rb nin_nil), fun h => (L.row h).keep k (nin_cons (L.wb h) nin_nil), e, k.get L.num (nin_cons L.bn.symm nin_nil), k.get L.pls (nin_cons L.bq.symm nin_nil), L.bn, L.bq, L.nq, L.rb, L.rn, L.rq, L.wb, L.wn, L.wq⟩
theorem at_box {S : LS} {b : Int} (h0 : 0 ≤ b) (h1 : b < S.boxes.length) : atI (S.boxes.map V.int) b = some (.int (S.box b)) := by
  obtain ⟨j, rfl⟩ : ∃ j : Nat, b = j := ⟨b.toNat, by omega⟩
  refine at_of rfl ?_
  unfold LS.box
  rw [List.getElem?_map, List.getD_eq_getElem?_getD, Int.toNat_natCast, List.getElem?_eq_getElem (by omega)]
  rfl
theorem ix_nat {n : Nat} {b : Int} (h0 : 0 ≤ b) (h1 : b < n) : ixN n b = some b.toNat := by
  unfold ixN
  rw [if_pos h0, if_pos h1]
theorem kp_fp1 {A : LA} {H H' : Hp} (k : Kp [A.p] H H') : Kp A.fp H H' := k.mono fun a h => by simp [LA.fp] at h ⊢; simp [h]
theorem kp_fpb {A : LA} {H H' : Hp} (k : Kp [A.b] H H') : Kp A.fp H H' := k.mono fun a h => by simp [LA.fp] at h ⊢; simp [h]
theorem kp_fpn {A : LA} {H H' : Hp} (k : Kp [A.n] H H') : Kp A.fp H H' := k.mono fun a h => by simp [LA.fp] at h ⊢; simp [h]
theorem kp_fpq {A : LA} {H H' : Hp} (k : Kp [A.q] H H') : Kp A.fp H H' := k.mono fun a h => by simp [LA.fp] at h ⊢; simp [h]
theorem waits_none {S : LS} {g : Bool} (h : S.next g = none) : S.waits g = false := by unfold LS.waits; rw [h]
theorem waits_some {S : LS} {g : Bool} {s : Stp} (h : S.next g = some s) : S.waits g = (s.isT && decide (S.hd = some (!g))) := by unfold LS.waits; rw [h]
theorem err_none {S : LS} {g : Bool} (h : S.next g = none) : S.err g = some .noTurn := by unfold LS.err; rw [h]
theorem err_waits {S : LS} {g : Bool} {s : Stp} (h : S.next g = some s) (hw : S.waits g = true) : S.err g = some .waits := by unfold LS.err; rw [h]; exact if_pos hw
theorem err_g {S : LS} {g : Bool} {s : Stp} (h : S.next g = some s) (hw : S.waits g = false) : S.err g = S.gErr g s := by
  unfold LS.err; rw [h]
  show (if S.waits g = true then _ else _) = _
  rw [if_neg (by rw [hw]; decide)]
theorem gErr_no {S : LS} {g : Bool} {s : Stp} (h : s.isG = false) : S.gErr g s = none := by cases s <;> first | rfl | cases h
end G
namespace G
open PySem PySem.Spec PyProof.Rows L2
/-- things that are all right are steps -/
theorem need_steps : ∀ {cs : List Thg} {many : Int}, cs.findSome? (thErr many) = none → ∃ rs : List Stp, cs = rs.map (fun s => some s.enc) ∧ ∀ s ∈ rs, inBox many s = true
  | [], _, _ => ⟨[], rfl, fun _ h => by cases h⟩
  | c :: r, many, h => by
    rw [List.findSome?_cons] at h
    cases e : thErr many c with
    | some x => rw [e] at h; cases h
    | none =>
      rw [e] at h
      obtain ⟨rs, e2, hr⟩ := need_steps (cs := r) (many := many) h
      cases c with
      | none => cases e
      | some xs =>
        have ho : stepOk xs = true := by
          cases q : stepOk xs with
          | true => rfl
          | false => rw [thErr_bad (c := some xs) q] at e; cases e
        obtain ⟨s, rfl⟩ := stepOk_enc ho
        rw [thErr_enc] at e
        refine ⟨s :: rs, by rw [e2]; rfl, fun t ht => ?_⟩
        rcases List.mem_cons.mp ht with z | z
        · subst z
          cases q : inBox many t with
          | true => rfl
          | false => rw [q] at e; cases e
        · exact hr t z
theorem needC_none {cs : List Thg} {many : Int} (h : needC cs many = none) : cs.length ≤ 60 ∧ ∃ rs : List Stp, cs = rs.map (fun s => some s.enc) ∧ ∀ s ∈ rs, inBox many s = true := by
  unfold needC at h
  split at h
  · cases h
  · rename_i hl
    exact ⟨by omega, need_steps h⟩
theorem needC_ok {rs : List Stp} {many : Int} (hl : rs.length ≤ 60) (hb : ∀ s ∈ rs, inBox many s = true) : needC (rs.map fun s => some s.enc) many = none := by
  unfold needC
  rw [if_neg (by rw [List.length_map]; omega)]
  induction rs with
  | nil => rfl
  | cons s r ih =>
    rw [List.map_cons, List.findSome?_cons, thErr_enc, if_pos (hb s List.mem_cons_self)]
    exact ih (by simp at hl; omega) fun t ht => hb t (List.mem_cons_of_mem _ ht)
theorem loomErr_none {c0 c1 : List Thg} {m : Int} (h : loomErr c0 c1 m = none) : needC c0 m = none ∧ needC c1 m = none := by
  unfold loomErr at h
  cases e : needC c0 m with
  | some x => rw [e] at h; cases h
  | none => rw [e] at h; exact ⟨rfl, h⟩
theorem loomErr_0 {c0 c1 : List Thg} {m : Int} {e : Err} (h : needC c0 m = some e) : loomErr c0 c1 m = some e := by unfold loomErr; rw [h]
theorem loomErr_1 {c0 c1 : List Thg} {m : Int} (h : needC c0 m = none) : loomErr c0 c1 m = needC c1 m := by unfold loomErr; rw [h]
/-- the refs of a row of things that are steps -/
theorem refs_of : ∀ {H : Hp} {xs : List V} {rs : List Stp}, ThRow H xs (rs.map fun s => some s.enc) → ∃ ps : List Addr, xs = ps.map V.ref ∧ ps.length = rs.length ∧ ∀ (i : Nat) (p : Addr) (s : Stp), ps[i]? = some p → rs[i]? = some s → H p = some (.tup s.enc)
  | H, [], [], _ => ⟨[], rfl, rfl, fun i p s h => by simp at h⟩
  | H, [], s :: rs, t => by have := t.n; simp at this
  | H, x :: xs, [], t => by have := t.n; simp at this
  | H, x :: xs, s :: rs, t => by
    obtain ⟨p, ex, hp, _⟩ := t.e 0 x (some s.enc) rfl rfl
    have t2 : ThRow H xs (rs.map fun s => some s.enc) := ⟨by have := t.n; simpa using this, fun i v c h1 h2 => t.e (i + 1) v c (by simpa using h1) (by simpa using h2)⟩
    obtain ⟨ps, e1, e2, e3⟩ := refs_of t2
    refine ⟨p :: ps, by rw [ex, e1]; rfl, by simp [e2], fun i q u h1 h2 => ?_⟩
    cases i with
    | zero =>
      have a1 : p = q := by simpa using h1
      have a2 : s = u := by simpa using h2
      subst a1 a2
      exact hp
    | succ i => exact e3 i q u (by simpa using h1) (by simpa using h2)
end G
namespace G
open PySem PySem.Spec PyProof.Rows L2
def two {α : Type} (x y : α) : Bool → α := fun h => bif h then y else x
theorem two_eq {α : Type} (f : Bool → α) : f = two (f false) (f true) := by funext h; cases h <;> rfl
/-- the footprint is new -/
structure FreA (H : Hp) (A : LA) : Prop where
  p : Fre H A.p
  b : Fre H A.b
  n : Fre H A.n
  q : Fre H A.q
theorem FreA.fwd {W : List Addr} {H H1 : Hp} {A : LA} (k : Kp W H H1) (f : FreA H1 A) : FreA H A := ⟨f.p.back k, f.b.back k, f.n.back k, f.q.back k⟩
/-- a loom of one's own goes on: what stood ahead of it stands -/
theorem Kp.fp {W : List Addr} {H H1 H2 : Hp} {A : LA} (p : Kp W H H1) (k : Kp A.fp H1 H2) (f : FreA H A) : Kp W H H2 := p.step k fun a h => by
  simp only [LA.fp, List.mem_cons, List.not_mem_nil, or_false] at h
  rcases h with h | h | h | h <;> subst h
  · exact .inr f.p
  · exact .inr f.b
  · exact .inr f.n
  · exact .inr f.q
theorem useLoom {er : Err → Addr} {C : Addr} {H : Hp} {Q : VK} {E : XK} {a0 a1 b : Addr} {x0 x1 : List V} {c0 c1 : List Thg} {bs : List Int} (h0 : H a0 = some (.lst x0)) (h1 : H a1 = some (.lst x1)) (t0 : ThRow H x0 c0) (t1 : ThRow H x1 c1) (hb : H b = some (.lst (bs.map V.int)))
    (ke : ∀ e H', loomErr c0 c1 bs.length = some e → Kp [] H H' → E (.ref (er e)) none H')
    (k : ∀ (A : LA) (r0 r1 : List Stp) (H' : Hp), loomErr c0 c1 bs.length = none → c0 = r0.map (fun s => some s.enc) → c1 = r1.map (fun s => some s.enc) → (A.ps false).map V.ref = x0 → (A.ps true).map V.ref = x1 → (LS.start (two r0 r1) bs).Ok →
      FreA H A → Fre H A.r → (∀ h, Fre H (A.row h)) → Kp [] H H' → LoomAt C H' A (LS.start (two r0 r1) bs) → Q (.ref A.p) H') : rMk C (spInit er C) E Q [.ref a0, .ref a1, .ref b] H := by
  refine vrMk fun x dx H2 fx k2 e2 => ⟨x, dx, a0, a1, b, x0, x1, c0, c1, bs, rfl, e2, k2.get0 h0, k2.get0 h1, t0.keep k2, t1.keep k2, k2.get0 hb, fun e he => ke e H2 he k2, fun hn A S H3 ep f1 f2 f3 f4 f5 s1 s2 s3 s4 so ec0 ec1 ep0 ep1 k3 L => ⟨rfl, ?_⟩⟩
  have kk : Kp [] H H3 := k2.step k3 fun a h => by
    simp only [List.mem_cons, List.not_mem_nil, or_false] at h
    subst h
    exact .inr fx
  have es : S = LS.start (two (S.rows false) (S.rows true)) bs := by
    obtain ⟨r, bx, nm, pl, hd⟩ := S
    dsimp only at s1 s2 s3 s4
    subst s1 s2 s3 s4
    unfold LS.start
    rw [← two_eq r]
  rw [es] at L so
  have := k A (S.rows false) (S.rows true) H3 hn ec0 ec1 ep0 ep1 so ⟨by rw [ep]; exact fx, f3.back k2, f4.back k2, f5.back k2⟩ (f1.back k2) (fun h => (f2 h).back k2) kk L
  rw [ep] at this
  exact this
/-! ### orders -/
def LS.stepE (S : LS) (h : Bool) : Except Err LS := match S.err h with
  | some e => .error e
  | none => match S.next h with
    | some s => .ok (S.eff h s)
    | none => .error .noTurn
def LS.run : LS → List Bool → Except Err LS
  | S, [] => .ok S
  | S, h :: hs => match S.stepE h with
    | .error e => .error e
    | .ok S' => S'.run hs
theorem stepE_err {S : LS} {h : Bool} {e : Err} (x : S.err h = some e) : S.stepE h = .error e := by unfold LS.stepE; rw [x]
theorem stepE_ok {S : LS} {h : Bool} {s : Stp} (x : S.err h = none) (y : S.next h = some s) : S.stepE h = .ok (S.eff h s) := by unfold LS.stepE; rw [x, y]
theorem err_next {S : LS} {h : Bool} (x : S.err h = none) : ∃ s, S.next h = some s := by
  cases e : S.next h with
  | some s => exact ⟨s, rfl⟩
  | none => rw [err_none e] at x; cases x
theorem run_err {S : LS} {h : Bool} {hs : List Bool} {e : Err} (x : S.err h = some e) : S.run (h :: hs) = .error e := by unfold LS.run; rw [stepE_err x]
theorem run_ok {S : LS} {h : Bool} {hs : List Bool} {s : Stp} (x : S.err h = none) (y : S.next h = some s) : S.run (h :: hs) = (S.eff h s).run hs := by
  show (match S.stepE h with | .error e => Except.error e | .ok S' => S'.run hs) = _
  rw [stepE_ok x y]
theorem useGo {er : Err → Addr} {C : Addr} {H : Hp} {Q : VK} {E : XK} {A : LA} {S : LS} {h : Bool} (L : LoomAt C H A S) (o : S.Ok) (ke : ∀ e, S.err h = some e → E (.ref (er e)) none H) (k : ∀ s H', S.err h = none → S.next h = some s → Kp A.fp H H' → LoomAt C H' A (S.eff h s) → Q .non H') :
    spGo er C [.ref A.p, .int (hI h)] H Q E := ⟨A, S, h, rfl, L, o, ke, fun x s H' y kp L' => k s H' x y kp L'⟩
theorem eff_pl {S : LS} {h : Bool} {s : Stp} : (S.eff h s).pl = upB S.pl h (S.pl h + 1) := by
  show upB (S.act h s).pl h ((S.act h s).pl h + 1) = _
  rw [act_pl]
def spAlone (er : Err → Addr) : Sp := fun vs H Q E => ∃ (a b : Addr) (xs : List V) (cs : List Thg) (bs : List Int), vs = [.ref a, .ref b] ∧ H a = some (.lst xs) ∧ ThRow H xs cs ∧ H b = some (.lst (bs.map V.int)) ∧
  (∀ e H', needC cs bs.length = some e → Kp [] H H' → E (.ref (er e)) none H') ∧
  (needC cs bs.length = none → ∀ rs, cs = rs.map (fun s => some s.enc) → (LS.start (two rs []) bs).Ok →
    (∀ e H', (LS.start (two rs []) bs).run (List.replicate rs.length false) = .error e → Kp [] H H' → E (.ref (er e)) none H') ∧
    (∀ S p l H', (LS.start (two rs []) bs).run (List.replicate rs.length false) = .ok S → Fre H p → Fre H l → Kp [] H H' → H' p = some (.tup [.ref l, .int (S.num false)]) → H' l = some (.lst (S.boxes.map V.int)) → Q (.ref p) H'))
theorem loomErr_l {cs : List Thg} {m : Int} : loomErr cs [] m = needC cs m := by
  unfold loomErr
  cases e : needC cs m with
  | some x => rfl
  | none => rfl
end G
namespace G
open PySem PySem.Spec PyProof.Rows L2
theorem useOver0 {C : Addr} {H : Hp} {Q : VK} {E : XK} {A : LA} {S : LS} (L : LoomAt C H A S) (k : Q (.bl (S.over false)) H) : spOver C [.ref A.p, .int 0] H Q E := useOver (h := false) L k
theorem useOver1 {C : Addr} {H : Hp} {Q : VK} {E : XK} {A : LA} {S : LS} (L : LoomAt C H A S) (k : Q (.bl (S.over true)) H) : spOver C [.ref A.p, .int 1] H Q E := useOver (h := true) L k
theorem useGo0 {er : Err → Addr} {C : Addr} {H : Hp} {Q : VK} {E : XK} {A : LA} {S : LS} (L : LoomAt C H A S) (o : S.Ok) (ke : ∀ e, S.err false = some e → E (.ref (er e)) none H) (k : ∀ s H', S.err false = none → S.next false = some s → Kp A.fp H H' → LoomAt C H' A (S.eff false s) → Q .non H') :
    spGo er C [.ref A.p, .int 0] H Q E := useGo (h := false) L o ke k
theorem over_len {S : LS} {h : Bool} (o : S.Ok) (x : S.over h = true) : S.pl h = (S.rows h).length := of_decide_eq_true x
theorem over_lt {S : LS} {h : Bool} (o : S.Ok) (x : S.over h = false) : S.pl h < (S.rows h).length := by
  have := of_decide_eq_false x
  have := o.pl h
  omega
end G
namespace G
open PySem PySem.Spec PyProof.Rows L2
def spAlike : Sp := fun vs H Q _ => ∃ (p q : Addr) (xs ys : List Int), vs = [.ref p, .ref q] ∧ H p = some (.lst (xs.map V.int)) ∧ H q = some (.lst (ys.map V.int)) ∧ xs.length ≤ 1000 ∧ ys.length ≤ 1000 ∧ Q (.bl (decide (xs = ys))) H
theorem useAlike {H : Hp} {Q : VK} {E : XK} {p q : Addr} {xs ys : List Int} (h1 : H p = some (.lst (xs.map V.int))) (h2 : H q = some (.lst (ys.map V.int))) (l1 : xs.length ≤ 1000) (l2 : ys.length ≤ 1000) (k : Q (.bl (decide (xs = ys))) H) : spAlike [.ref p, .ref q] H Q E := ⟨p, q, xs, ys, rfl, h1, h2, l1, l2, k⟩
theorem at_ints {xs : List Int} {i : Nat} (h : i < xs.length) : atI (xs.map V.int) (i : Int) = some (.int xs[i]) := at_of rfl (by rw [List.getElem?_map, List.getElem?_eq_getElem h]; rfl)
theorem take_eq_succ {xs ys : List Int} {i : Nat} (h : xs.take i = ys.take i) (hx : i < xs.length) (hy : i < ys.length) (e : xs[i] = ys[i]) : xs.take (i + 1) = ys.take (i + 1) := by
  rw [List.take_add_one, List.take_add_one, h, List.getElem?_eq_getElem hx, List.getElem?_eq_getElem hy, e]
end G
namespace G
open PySem PySem.Spec PyProof.Rows L2
theorem useWholeI {H : Hp} {Q : VK} {E : XK} {x : Int} (k : Q (.bl true) H) : spWhole [.int x] H Q E := ⟨.int x, rfl, trivial, k⟩
theorem useWholeB {H : Hp} {Q : VK} {E : XK} {x : Bool} (k : Q (.bl false) H) : spWhole [.bl x] H Q E := ⟨.bl x, rfl, trivial, k⟩
theorem useWholeN {H : Hp} {Q : VK} {E : XK} (k : Q (.bl false) H) : spWhole [.non] H Q E := ⟨.non, rfl, trivial, k⟩
end G
namespace G
open PySem PySem.Spec PyProof.Rows L2
theorem Bt.add {c : Int} (h : Bt c) {t : Int} (h0 : 0 ≤ t) (h1 : t ≤ 1000) (hc : Builtin.Int.intBits c ≤ 1099000) : Bt (c + t) := by
  have e : (c + t).natAbs ≤ c.natAbs + 1000 := by omega
  show Builtin.Int.intBits (c + t) ≤ 1100000
  unfold Builtin.Int.intBits at hc ⊢
  split
  · exact Nat.zero_le _
  · rename_i hz
    have hz' : c + t ≠ 0 := by simpa using hz
    have hp : 0 < (c + t).natAbs := by omega
    by_cases hcz : c = 0
    · subst hcz
      have : (0 + t).natAbs.log2 < 1000 := (Nat.log2_lt (by omega)).mpr (Nat.lt_of_le_of_lt (by omega : (0 + t).natAbs ≤ 1000) (by decide +kernel))
      omega
    · rw [if_neg (by simpa using hcz)] at hc
      have h2 : c.natAbs < 2 ^ (c.natAbs.log2 + 1) := Nat.lt_log2_self
      have h3 : (c + t).natAbs < 2 ^ (c.natAbs.log2 + 1 + 10) := by
        have h5 : (1 : Nat) ≤ 2 ^ (c.natAbs.log2 + 1) := Nat.one_le_two_pow
        rw [Nat.pow_add]
        have h6 : (2 : Nat) ^ 10 = 1024 := by decide
        rw [h6]
        generalize (2 : Nat) ^ (c.natAbs.log2 + 1) = y at *
        omega
      have := (Nat.log2_lt (by omega : (c + t).natAbs ≠ 0)).mpr h3
      omega
/-- a step that was built: what stands there is some step whose box is there -/
def Made (H H' : Hp) (many : Int) (p : Addr) (s : Stp) : Prop := Fre H p ∧ Kp [] H H' ∧ H' p = some (.tup s.enc) ∧ inBox many s = true
def spStep3 : Sp := fun vs H Q _ => ∃ (c many : Int) (held : Bool), vs = [.int c, .int many, .bl held] ∧ Bt c ∧ 0 ≤ many ∧ ∀ s p H', Made H H' many p s → Q (.ref p) H'
theorem useStep3 {H : Hp} {Q : VK} {E : XK} {c many : Int} {held : Bool} (h1 : Bt c) (h2 : 0 ≤ many) (k : ∀ s p H', Made H H' many p s → Q (.ref p) H') : spStep3 [.int c, .int many, .bl held] H Q E := ⟨c, many, held, rfl, h1, h2, k⟩
theorem inBox_box {many b : Int} (h0 : 0 ≤ b) (h1 : b < many) : inBox many (.load b) = true ∧ inBox many (.plus b) = true ∧ inBox many (.store b) = true := by
  simp [inBox, Stp.isB, Stp.arg, h0, h1]
theorem at9 (c : Int) : c % 9 = 0 ∨ c % 9 = 1 ∨ c % 9 = 2 ∨ c % 9 = 3 ∨ c % 9 = 4 ∨ c % 9 = 5 ∨ c % 9 = 6 ∨ c % 9 = 7 ∨ c % 9 = 8 := by omega
theorem at7 (c : Int) : c % 7 = 0 ∨ c % 7 = 1 ∨ c % 7 = 2 ∨ c % 7 = 3 ∨ c % 7 = 4 ∨ c % 7 = 5 ∨ c % 7 = 6 := by omega
end G
namespace G
open PySem PySem.Spec PyProof.Rows L2
def spRow3 : Sp := fun vs H Q _ => ∃ (a : Addr) (cs : List Int) (many : Int) (n : Nat), vs = [.ref a, .int many, .int n] ∧ H a = some (.lst (cs.map V.int)) ∧ cs.length ≤ 63 ∧ (∀ c ∈ cs, Builtin.Int.intBits c ≤ 1048576) ∧ 0 ≤ many ∧ n ≤ 6 ∧
  ∀ p ps rs H', rs.length ≤ 60 → (∀ s ∈ rs, inBox many s = true) → Fre H p → Kp [] H H' → RowAt H' p ps rs → Q (.ref p) H'
end G
namespace G
open PySem PySem.Spec PyProof.Rows L2
theorem RowAt.push {H H1 : Hp} {a p : Addr} {ps : List Addr} {rs : List Stp} {s : Stp} (r : RowAt H a ps rs) (k : Kp [a] H H1) (hp : H p = some (.tup s.enc)) (e : H1 a = some (.lst (ps.map V.ref ++ [V.ref p]))) : RowAt H1 a (ps ++ [p]) (rs ++ [s]) := by
  refine ⟨by rw [e, List.map_append]; rfl, by simp [r.n], fun i q t h1 h2 => ?_⟩
  by_cases hi : i < ps.length
  · rw [List.getElem?_append_left hi] at h1
    rw [List.getElem?_append_left (by rw [← r.n]; exact hi)] at h2
    exact k.getT (r.e i q t h1 h2)
  · rw [List.getElem?_append_right (by omega)] at h1
    rw [List.getElem?_append_right (by rw [← r.n]; omega)] at h2
    have e1 : i - ps.length = 0 := by
      cases z : i - ps.length with
      | zero => rfl
      | succ n => rw [z] at h1; simp at h1
    rw [e1] at h1
    rw [← r.n, e1] at h2
    have a1 : p = q := by simpa using h1
    have a2 : s = t := by simpa using h2
    subst a1 a2
    exact k.getT hp
theorem mem_push {P : Stp → Prop} {rs : List Stp} {s : Stp} (h : ∀ t ∈ rs, P t) (hs : P s) : ∀ t ∈ rs ++ [s], P t := fun t ht => (List.mem_append.mp ht).elim (h t) fun z => by
  have : t = s := by simpa using z
  rw [this]; exact hs
theorem get_map_int {cs : List Int} {j : Nat} {x : V} (h : (cs.map V.int)[j]? = some x) : ∃ c, c ∈ cs ∧ x = .int c ∧ cs[j]? = some c := by
  rw [List.getElem?_map] at h
  cases e : cs[j]? with
  | none => rw [e] at h; cases h
  | some c => rw [e] at h; exact ⟨c, List.mem_of_getElem? e, (Option.some.inj h).symm, rfl⟩
end G
namespace G
open PySem PySem.Spec PyProof.Rows L2
theorem RowAt.push2 {H0 H H1 : Hp} {a p : Addr} {ps : List Addr} {rs : List Stp} {s : Stp} (r : RowAt H0 a ps rs) (k : Kp [a] H H1) (e : H1 a = some (.lst (ps.map V.ref ++ [V.ref p]))) (k0 : Kp [] H0 H) (hp : H0 p = some (.tup s.enc)) : RowAt H1 a (ps ++ [p]) (rs ++ [s]) := (r.keep k0 nin_nil).push k (k0.getT hp) e
end G
namespace G
open PySem PySem.Spec PyProof.Rows L2
/-- what a row alone ends with -/
def LS.alone (rs : List Stp) (bs : List Int) : Except Err LS := (LS.start (two rs []) bs).run (List.replicate rs.length false)
def errName : Err → Str
  | .again => "again" | .notHeld => "not held" | _ => ""
def spTold3 : Sp := fun vs H Q _ => ∃ (a b : Addr) (ps : List Addr) (rs : List Stp) (bs : List Int) (kind : Int), vs = [.ref a, .ref b, .int kind] ∧ RowAt H a ps rs ∧ H b = some (.lst (bs.map V.int)) ∧ rs.length ≤ 60 ∧ (∀ s ∈ rs, inBox bs.length s = true) ∧
  (∀ e H', LS.alone rs bs = .error e → Kp [] H H' → Q (.str (if kind < 2 then "refused" else errName e)) H') ∧
  (∀ S p l H', LS.alone rs bs = .ok S → Fre H p → Fre H l → Kp [] H H' → H' p = some (.tup [.ref l, .int (S.num false)]) → H' l = some (.lst (S.boxes.map V.int)) → Q (.ref p) H')
end G
namespace G
open PySem PySem.Spec PyProof.Rows L2
theorem enc_injG {a b : Stp} (h : a.enc = b.enc) : a = b := by
  cases a <;> cases b <;> first
    | rfl
    | (simp only [Stp.enc, Stp.args, List.cons.injEq, V.int.injEq, and_true] at h; exact congrArg _ h.2)
    | (exfalso; have h1 := V.str.inj (List.cons.inj h).1; dsimp only [Stp.word] at h1; exact absurd h1 (by decide +kernel))
theorem rows_inj {rs rs' : List Stp} (h : (rs.map fun s => some s.enc) = rs'.map fun s => some s.enc) : rs = rs' := (List.map_inj_right (fun _ _ e => enc_injG (Option.some.inj e))).mp h
theorem eff_hd {S : LS} {s : Stp} {h g : Bool} (n : S.hd ≠ some g) (hg : h ≠ g) : (S.eff h s).hd ≠ some g := by
  cases s <;> first | exact n | (intro z; exact hg (Option.some.inj z)) | (intro z; cases z)
theorem run_errA : ∀ (m : Nat) (S : LS) (e : Err), S.hd ≠ some true → S.pl false + m = (S.rows false).length → S.run (List.replicate m false) = .error e → e = .again ∨ e = .notHeld
  | 0, S, e, _, _, h => by cases h
  | m + 1, S, e, hd, hp, h => by
    rw [List.replicate_succ] at h
    cases hx : S.err false with
    | none =>
      obtain ⟨s, hs⟩ := err_next hx
      rw [run_ok hx hs] at h
      refine run_errA m (S.eff false s) e (eff_hd hd (by decide)) ?_ h
      rw [eff_pl, upB_same, eff_rows]; omega
    | some x =>
      rw [run_err hx] at h
      have ex : x = e := by cases h; rfl
      subst ex
      have hl : S.pl false < (S.rows false).length := by omega
      have hn : S.next false = some (S.rows false)[S.pl false] := List.getElem?_eq_getElem hl
      have hw : S.waits false = false := by
        unfold LS.waits
        rw [hn]
        show (_ && decide (S.hd = some true)) = false
        rw [decide_eq_false hd, Bool.and_false]
      rw [err_g hn hw] at hx
      generalize (S.rows false)[S.pl false] = s at hx
      unfold LS.gErr at hx
      cases s with
      | take =>
        dsimp only at hx
        split at hx
        · exact .inl (Option.some.inj hx).symm
        · cases hx
      | free =>
        dsimp only at hx
        split at hx
        · cases hx
        · exact .inr (Option.some.inj hx).symm
      | _ => cases hx
theorem alone_err {rs : List Stp} {bs : List Int} {e : Err} (h : LS.alone rs bs = .error e) : e = .again ∨ e = .notHeld := run_errA rs.length _ e (fun z => by cases z) (by show 0 + rs.length = rs.length; omega) h
theorem useAlone {er : Err → Addr} {H : Hp} {Q : VK} {E : XK} {a b : Addr} {ps : List Addr} {rs : List Stp} {bs : List Int} (R : RowAt H a ps rs) (hb : H b = some (.lst (bs.map V.int))) (hl : rs.length ≤ 60) (hbx : ∀ s ∈ rs, inBox bs.length s = true)
    (ke : ∀ e H', LS.alone rs bs = .error e → Kp [] H H' → E (.ref (er e)) none H')
    (kq : ∀ S p l H', LS.alone rs bs = .ok S → Fre H p → Fre H l → Kp [] H H' → H' p = some (.tup [.ref l, .int (S.num false)]) → H' l = some (.lst (S.boxes.map V.int)) → Q (.ref p) H') : spAlone er [.ref a, .ref b] H Q E :=
  ⟨a, b, _, _, bs, rfl, R.l, R.th, hb, fun e H' he _ => absurd he (by rw [needC_ok hl hbx]; intro z; cases z), fun _ rs' e _ => rows_inj e ▸ ⟨ke, kq⟩⟩
end G
namespace G
open PySem PySem.Spec PyProof.Rows L2
theorem errA {S : LS} {s : Stp} (hd : S.hd ≠ some true) (hs : S.next false = some s) : S.err false = S.gErr false s := by
  refine err_g hs ?_
  unfold LS.waits
  rw [hs]
  show (_ && decide (S.hd = some true)) = false
  rw [decide_eq_false hd, Bool.and_false]
/-- what the law's own walk of a row alone keeps: j steps are done -/
structure DueA (rs : List Stp) (bs : List Int) (j : Nat) (S : LS) : Prop where
  o : S.Ok
  rows : S.rows = two rs []
  hd : S.hd ≠ some true
  pl : S.pl false = j
  run : S.run (List.replicate (rs.length - j) false) = LS.alone rs bs
  box : S.boxes.length = bs.length
theorem DueA.next {rs : List Stp} {bs : List Int} {j : Nat} {S : LS} (d : DueA rs bs j S) {s : Stp} (h : rs[j]? = some s) : S.next false = some s := by
  unfold LS.next
  rw [d.rows, d.pl]
  exact h
theorem DueA.go {rs : List Stp} {bs : List Int} {j : Nat} {S : LS} (d : DueA rs bs j S) {s : Stp} (h : rs[j]? = some s) (g : S.gErr false s = none) : DueA rs bs (j + 1) (S.eff false s) := by
  have hn := d.next h
  have hj : j < rs.length := (List.getElem?_eq_some_iff.mp h).1
  refine ⟨d.o.eff hn, by rw [eff_rows]; exact d.rows, eff_hd d.hd (by decide), by rw [eff_pl, upB_same, d.pl], ?_, by rw [eff_boxes]; exact d.box⟩
  rw [← d.run, show rs.length - j = (rs.length - (j + 1)) + 1 by omega, List.replicate_succ, run_ok (by rw [errA d.hd hn]; exact g) hn]
theorem DueA.stop {rs : List Stp} {bs : List Int} {j : Nat} {S : LS} (d : DueA rs bs j S) {s : Stp} {e : Err} (h : rs[j]? = some s) (g : S.gErr false s = some e) : LS.alone rs bs = .error e := by
  have hn := d.next h
  have hj : j < rs.length := (List.getElem?_eq_some_iff.mp h).1
  rw [← d.run, show rs.length - j = (rs.length - (j + 1)) + 1 by omega, List.replicate_succ, run_err (by rw [errA d.hd hn]; exact g)]
theorem DueA.fin {rs : List Stp} {bs : List Int} {S : LS} (d : DueA rs bs rs.length S) : LS.alone rs bs = .ok S := by
  rw [← d.run, Nat.sub_self]; rfl
theorem DueA.box2 {rs : List Stp} {bs : List Int} {j : Nat} {S : LS} (d : DueA rs bs j S) {s : Stp} (h : rs[j]? = some s) (hB : s.isB = true) (hb : ∀ t ∈ rs, inBox bs.length t = true) : 0 ≤ s.arg ∧ s.arg < S.boxes.length := by
  have := hb s (List.mem_of_getElem? h)
  rw [d.box]
  unfold inBox at this
  rw [hB] at this
  simpa using this
theorem start_ok {rs : List Stp} {bs : List Int} (hl : rs.length ≤ 60) (hb : ∀ s ∈ rs, inBox bs.length s = true) : (LS.start (two rs []) bs).Ok where
  len := fun h => by
    cases h
    · exact hl
    · exact Nat.zero_le _
  box := fun h s hs => by
    cases h
    · exact hb s hs
    · cases hs
  pl := fun h => Nat.zero_le _
theorem DueA.init {rs : List Stp} {bs : List Int} (hl : rs.length ≤ 60) (hb : ∀ s ∈ rs, inBox bs.length s = true) : DueA rs bs 0 (LS.start (two rs []) bs) :=
  ⟨start_ok hl hb, rfl, (fun z => by cases z), rfl, rfl, rfl⟩
def spDue3 : Sp := fun vs H Q _ => ∃ (a b : Addr) (ps : List Addr) (rs : List Stp) (bs : List Int), vs = [.ref a, .ref b] ∧ RowAt H a ps rs ∧ a ≠ b ∧ H b = some (.lst (bs.map V.int)) ∧ rs.length ≤ 60 ∧ (∀ s ∈ rs, inBox bs.length s = true) ∧
  (∀ e H', LS.alone rs bs = .error e → Kp [b] H H' → Q (.str (errName e)) H') ∧
  (∀ S H', LS.alone rs bs = .ok S → Kp [b] H H' → H' b = some (.lst (S.boxes.map V.int)) → Q (.int (S.num false)) H')
theorem get_map_ref {ps : List Addr} {j : Nat} {x : V} (h : (ps.map V.ref)[j]? = some x) : ∃ p, x = .ref p ∧ ps[j]? = some p := by
  rw [List.getElem?_map] at h
  cases e : ps[j]? with
  | none => rw [e] at h; cases h
  | some p => rw [e] at h; exact ⟨p, (Option.some.inj h).symm, rfl⟩
theorem RowAt.step {H : Hp} {a : Addr} {ps : List Addr} {rs : List Stp} (r : RowAt H a ps rs) {j : Nat} {x : V} (h : (ps.map V.ref)[j]? = some x) : ∃ p s, x = .ref p ∧ rs[j]? = some s ∧ H p = some (.tup s.enc) := by
  obtain ⟨p, ex, hp⟩ := get_map_ref h
  have hj : j < rs.length := by rw [← r.n]; exact (List.getElem?_eq_some_iff.mp hp).1
  exact ⟨p, rs[j], ex, List.getElem?_eq_getElem hj, r.e j p _ hp (List.getElem?_eq_getElem hj)⟩
end G
namespace G
open PySem PySem.Spec PyProof.Rows L2
/-! ### rows as data -/
def Stp.dat : Stp → PyData
  | .load b => .tuple [.str "load", .int b] | .plus b => .tuple [.str "plus", .int b] | .store b => .tuple [.str "store", .int b] | .add n => .tuple [.str "add", .int n]
  | .twice => .tuple [.str "twice"] | .take => .tuple [.str "take"] | .free => .tuple [.str "free"]
def rowDat (rs : List Stp) : PyData := .list (rs.map Stp.dat)
theorem words_ok : PyData.strOk "load" = true ∧ PyData.strOk "plus" = true ∧ PyData.strOk "store" = true ∧ PyData.strOk "add" = true ∧ PyData.strOk "twice" = true ∧ PyData.strOk "take" = true ∧ PyData.strOk "free" = true := by decide +kernel
theorem dat_lay (s : Stp) : s.dat.canLay0 = true := by
  obtain ⟨h1, h2, h3, h4, h5, h6, h7⟩ := words_ok
  cases s <;> simp only [Stp.dat, PyData.canLay0, PyData.canLayAll0, Bool.and_true, *]
theorem dat_depth (s : Stp) : s.dat.depth ≤ 1 := by
  cases s <;> simp [Stp.dat, PyData.depth, PyData.depthAll]
theorem rows_lay : ∀ rs : List Stp, PyData.canLayAll0 (rs.map Stp.dat) = true
  | [] => rfl
  | s :: r => by
    rw [List.map_cons, PyData.canLayAll0, dat_lay, rows_lay r]; rfl
theorem rows_depth : ∀ rs : List Stp, PyData.depthAll (rs.map Stp.dat) ≤ 1
  | [] => Nat.zero_le _
  | s :: r => by
    rw [List.map_cons, PyData.depthAll]
    exact Nat.max_le.mpr ⟨dat_depth s, rows_depth r⟩
theorem row_shaped (rs : List Stp) : SeqAt.shaped (rowDat rs) = true := by
  have h1 : (rowDat rs).canLay0 = true := by
    unfold rowDat
    rw [PyData.canLay0]
    exact rows_lay rs
  have h2 : (rowDat rs).depth ≤ 64 := by
    unfold rowDat
    rw [PyData.depth]
    have := rows_depth rs
    omega
  unfold SeqAt.shaped
  rw [h1, decide_eq_true h2]; rfl
theorem dp_step {K : PySem.W.Frag} {H : Hp} {p : Addr} {s : Stp} (h : H p = some (.tup s.enc)) : Dp K H (.ref p) s.dat := by
  cases s <;> exact .tup (SqT.of h) (by first | exact .cons (.str _) (.cons (.int _) .nil) | exact .cons (.str _) .nil)
theorem dp_rows {K : PySem.W.Frag} {H : Hp} : ∀ {ps : List Addr} {rs : List Stp}, ps.length = rs.length → (∀ (i : Nat) (p : Addr) (s : Stp), ps[i]? = some p → rs[i]? = some s → H p = some (.tup s.enc)) → DpAll K H (ps.map V.ref) (rs.map Stp.dat)
  | [], [], _, _ => .nil
  | [], _ :: _, h, _ => by cases h
  | _ :: _, [], h, _ => by cases h
  | p :: ps, s :: rs, h, e => .cons (dp_step (e 0 p s rfl rfl)) (dp_rows (by simpa using h) fun i q t h1 h2 => e (i + 1) q t (by simpa using h1) (by simpa using h2))
theorem RowAt.dp {K : PySem.W.Frag} {H : Hp} {a : Addr} {ps : List Addr} {rs : List Stp} (r : RowAt H a ps rs) : Dp K H (.ref a) (rowDat rs) := .lst (SqL.of r.l) (dp_rows r.n r.e)
/-- a row is as itself -/
theorem useEqRow {K : PySem.W.Frag} {H : Hp} {Q : VK} {a b : Addr} {ps qs : List Addr} {rs : List Stp} (r : RowAt H a ps rs) (r2 : RowAt H b qs rs) (q : Q (.bl true) H) : rEqD K (.ref a) (.ref b) H Q :=
  ⟨_, _, r.dp, r2.dp, row_shaped rs, row_shaped rs, by rw [SeqAt.eqv_refl _ (SeqAt.canLay_of_shaped (row_shaped rs))]; exact q⟩
end G
namespace G
open PySem PySem.Spec PyProof.Rows L2
def cutG {α : Type} (xs : List α) (lo hi : Option Int) : List α := (xs.drop (HT.sIx xs.length 0 lo)).take (HT.sIx xs.length xs.length hi - HT.sIx xs.length 0 lo)
theorem cutV_map {α : Type} (c : α → V) (xs : List α) (lo hi : Option Int) : cutV (xs.map c) lo hi = (cutG xs lo hi).map c := by
  unfold cutV cutG
  rw [List.length_map, List.map_take, List.map_drop]
theorem cut_len {α : Type} (xs : List α) (lo hi : Option Int) : (cutG xs lo hi).length ≤ xs.length := by
  unfold cutG
  rw [List.length_take, List.length_drop]
  omega
theorem cut_mem {α : Type} {xs : List α} {lo hi : Option Int} {x : α} (h : x ∈ cutG xs lo hi) : x ∈ xs := List.mem_of_mem_drop (List.mem_of_mem_take h)
end G
namespace G
open PySem PySem.Spec PyProof.Rows L2
theorem run_boxes : ∀ {hs : List Bool} {S S' : LS}, S.run hs = .ok S' → S'.boxes.length = S.boxes.length
  | [], S, S', h => by cases h; rfl
  | g :: hs, S, S', h => by
    cases hx : S.err g with
    | some x => rw [run_err hx] at h; cases h
    | none =>
      obtain ⟨s, hs'⟩ := err_next hx
      rw [run_ok hx hs'] at h
      rw [run_boxes h, eff_boxes]
theorem alone_boxes {rs : List Stp} {bs : List Int} {S : LS} (h : LS.alone rs bs = .ok S) : S.boxes.length = bs.length := run_boxes h
end G
namespace G
open PySem PySem.Spec PyProof.Rows L2
/-! ### two rows, led by an order -/
def hs2V (hs : List Bool) : List V := hs.map fun h => V.int (hI h)
def spWalked (er : Err → Addr) : Sp := fun vs H Q E => ∃ (a0 a1 b o : Addr) (x0 x1 : List V) (c0 c1 : List Thg) (bs : List Int) (hs : List Bool), vs = [.ref a0, .ref a1, .ref b, .ref o] ∧ H a0 = some (.lst x0) ∧ H a1 = some (.lst x1) ∧ ThRow H x0 c0 ∧ ThRow H x1 c1 ∧ H b = some (.lst (bs.map V.int)) ∧ H o = some (.lst (hs2V hs)) ∧
  (∀ e H', loomErr c0 c1 bs.length = some e → Kp [] H H' → E (.ref (er e)) none H') ∧
  (loomErr c0 c1 bs.length = none → ∀ r0 r1, c0 = r0.map (fun s => some s.enc) → c1 = r1.map (fun s => some s.enc) → (LS.start (two r0 r1) bs).Ok →
    (∀ e H', (LS.start (two r0 r1) bs).run hs = .error e → Kp [] H H' → E (.ref (er e)) none H') ∧
    (∀ S p l n H', (LS.start (two r0 r1) bs).run hs = .ok S → Fre H p → Fre H l → Fre H n → l ≠ n → Kp [] H H' → H' p = some (.tup [.ref l, .ref n]) → H' l = some (.lst (S.boxes.map V.int)) → H' n = some (.lst [.int (S.num false), .int (S.num true)]) → Q (.ref p) H'))
theorem get_hs {hs : List Bool} {j : Nat} {x : V} (h : (hs2V hs)[j]? = some x) : ∃ g, x = .int (hI g) ∧ hs[j]? = some g := by
  unfold hs2V at h
  rw [List.getElem?_map] at h
  cases e : hs[j]? with
  | none => rw [e] at h; cases h
  | some g => rw [e] at h; exact ⟨g, (Option.some.inj h).symm, rfl⟩
theorem drop_get {α : Type} {hs : List α} {j : Nat} {g : α} (h : hs[j]? = some g) : hs.drop j = g :: hs.drop (j + 1) := by
  obtain ⟨hj, e⟩ := List.getElem?_eq_some_iff.mp h
  rw [List.drop_eq_getElem_cons hj, e]
end G
namespace G
open PySem PySem.Spec PyProof.Rows L2
/-! ### the law's own stand: [boxes, numbers, places, holder, rows] -/
structure SA where
  p : Addr
  b : Addr
  n : Addr
  q : Addr
  w : Addr
  row : Bool → Addr
  ps : Bool → List Addr
def SA.fp (A : SA) : List Addr := [A.p, A.b, A.n, A.q]
structure StandAt (H : Hp) (A : SA) (S : LS) : Prop where
  top : H A.p = some (.lst [.ref A.b, .ref A.n, .ref A.q, hV S.hd, .ref A.w])
  rws : H A.w = some (.lst [.ref (A.row false), .ref (A.row true)])
  row : ∀ h, RowAt H (A.row h) (A.ps h) (S.rows h)
  box : H A.b = some (.lst (S.boxes.map V.int))
  num : H A.n = some (.lst [.int (S.num false), .int (S.num true)])
  pls : H A.q = some (.lst [.int (S.pl false), .int (S.pl true)])
  pb : A.p ≠ A.b
  pn : A.p ≠ A.n
  pq : A.p ≠ A.q
  pw : A.p ≠ A.w
  pr : ∀ h, A.p ≠ A.row h
  bn : A.b ≠ A.n
  bq : A.b ≠ A.q
  nq : A.n ≠ A.q
  wb : A.w ≠ A.b
  wn : A.w ≠ A.n
  wq : A.w ≠ A.q
  rb : ∀ h, A.row h ≠ A.b
  rn : ∀ h, A.row h ≠ A.n
  rq : ∀ h, A.row h ≠ A.q
theorem StandAt.keep {W : List Addr} {H H' : Hp} {A : SA} {S : LS} (L : StandAt H A S) (k : Kp W H H') (n1 : A.p ∉ W) (n2 : A.w ∉ W) (n3 : ∀ h, A.row h ∉ W) (n4 : A.b ∉ W) (n5 : A.n ∉ W) (n6 : A.q ∉ W) : StandAt H' A S :=
  ⟨k.get L.top n1, k.get L.rws n2, fun h => (L.row h).keep k (n3 h), k.get L.box n4, k.get L.num n5, k.get L.pls n6, L.pb, L.pn, L.pq, L.pw, L.pr, L.bn, L.bq, L.nq, L.wb, L.wn, L.wq, L.rb, L.rn, L.rq⟩
theorem StandAt.keep0 {H H' : Hp} {A : SA} {S : LS} (L : StandAt H A S) (k : Kp [] H H') : StandAt H' A S := L.keep k nin_nil nin_nil (fun _ => nin_nil) nin_nil nin_nil nin_nil
theorem StandAt.setHd {H H' : Hp} {A : SA} {S : LS} (L : StandAt H A S) (k : Kp [A.p] H H') (o : Option Bool) (e : H' A.p = some (.lst [.ref A.b, .ref A.n, .ref A.q, hV o, .ref A.w])) : StandAt H' A { S with hd := o } :=
  ⟨e, k.get L.rws (nin_cons L.pw.symm nin_nil), fun h => (L.row h).keep k (nin_cons (L.pr h).symm nin_nil), k.get L.box (nin_cons L.pb.symm nin_nil), k.get L.num (nin_cons L.pn.symm nin_nil), k.get L.pls (nin_cons L.pq.symm nin_nil), L.pb, L.pn, L.pq, L.pw, L.pr, L.bn, L.bq, L.nq, L.wb, L.wn, L.wq, L.rb, L.rn, L.rq⟩
theorem StandAt.setNum {H H' : Hp} {A : SA} {S : LS} (L : StandAt H A S) (k : Kp [A.n] H H') (f : Bool → Int) (e : H' A.n = some (.lst [.int (f false), .int (f true)])) : StandAt H' A { S with num := f } :=
  ⟨k.get L.top (nin_cons L.pn nin_nil), k.get L.rws (nin_cons L.wn nin_nil), fun h => (L.row h).keep k (nin_cons (L.rn h) nin_nil), k.get L.box (nin_cons L.bn nin_nil), e, k.get L.pls (nin_cons L.nq.symm nin_nil), L.pb, L.pn, L.pq, L.pw, L.pr, L.bn, L.bq, L.nq, L.wb, L.wn, L.wq, L.rb, L.rn, L.rq⟩
theorem StandAt.setPl {H H' : Hp} {A : SA} {S : LS} (L : StandAt H A S) (k : Kp [A.q] H H') (f : Bool → Nat) (e : H' A.q = some (.lst [.int (f false), .int (f true)])) : StandAt H' A { S with pl := f } :=
  ⟨k.get L.top (nin_cons L.pq nin_nil), k.get L.rws (nin_cons L.wq nin_nil), fun h => (L.row h).keep k (nin_cons (L.rq h) nin_nil), k.get L.box (nin_cons L.bq nin_nil), k.get L.num (nin_cons L.nq nin_nil), e, L.pb, L.pn, L.pq, L.pw, L.pr, L.bn, L.bq, L.nq, L.wb, L.wn, L.wq, L.rb, L.rn, L.rq⟩
theorem StandAt.setBox {H H' : Hp} {A : SA} {S : LS} (L : StandAt H A S) (k : Kp [A.b] H H') (f : List Int) (e : H' A.b = some (.lst (f.map V.int))) : StandAt H' A { S with boxes := f } :=
  ⟨k.get L.top (nin_cons L.pb nin_nil), k.get L.rws (nin_cons L.wb nin_nil), fun h => (L.row h).keep k (nin_cons (L.rb h) nin_nil), e, k.get L.num (nin_cons L.bn.symm nin_nil), k.get L.pls (nin_cons L.bq.symm nin_nil), L.pb, L.pn, L.pq, L.pw, L.pr, L.bn, L.bq, L.nq, L.wb, L.wn, L.wq, L.rb, L.rn, L.rq⟩
theorem kp_sp1 {A : SA} {H H' : Hp} (k : Kp [A.p] H H') : Kp A.fp H H' := k.mono fun a h => by simp [SA.fp] at h ⊢; simp [h]
theorem kp_spb {A : SA} {H H' : Hp} (k : Kp [A.b] H H') : Kp A.fp H H' := k.mono fun a h => by simp [SA.fp] at h ⊢; simp [h]
theorem kp_spn {A : SA} {H H' : Hp} (k : Kp [A.n] H H') : Kp A.fp H H' := k.mono fun a h => by simp [SA.fp] at h ⊢; simp [h]
theorem kp_spq {A : SA} {H H' : Hp} (k : Kp [A.q] H H') : Kp A.fp H H' := k.mono fun a h => by simp [SA.fp] at h ⊢; simp [h]
/-- the word for what refuses the next step -/
def errWordX (o : Str) : Option Err → Str
  | none => "" | some .noTurn => o | some .waits => "waits" | some .again => "again" | some .notHeld => "not held" | _ => "?"
def errWord : Option Err → Str := errWordX "no turn"
def spWord (w : Str) : Sp := fun vs H Q _ => ∃ (A : SA) (S : LS) (g : Bool), vs = [.ref A.p, .int (hI g)] ∧ StandAt H A S ∧ S.Ok ∧ ∀ H', Kp [] H H' → Q (.str (errWordX w (S.err g))) H'
def spDone : Sp := fun vs H Q _ => ∃ (A : SA) (S : LS) (g : Bool) (s : Stp), vs = [.ref A.p, .int (hI g)] ∧ StandAt H A S ∧ S.Ok ∧ S.next g = some s ∧ ∀ H', Kp A.fp H H' → StandAt H' A (S.eff g s) → Q .non H'
def spCan : Sp := fun vs H Q _ => ∃ (A : SA) (S : LS) (g : Bool), vs = [.ref A.p, .int (hI g)] ∧ StandAt H A S ∧ S.Ok ∧ ∀ H', Kp [] H H' → Q (.bl (match S.next g with | none => false | some s => !s.isT || decide (S.hd = none))) H'
theorem useWord {w : Str} {H : Hp} {Q : VK} {E : XK} {A : SA} {S : LS} {g : Bool} (L : StandAt H A S) (o : S.Ok) (k : ∀ H', Kp [] H H' → Q (.str (errWordX w (S.err g))) H') : spWord w [.ref A.p, .int (hI g)] H Q E := ⟨A, S, g, rfl, L, o, k⟩
theorem useDone {H : Hp} {Q : VK} {E : XK} {A : SA} {S : LS} {g : Bool} {s : Stp} (L : StandAt H A S) (o : S.Ok) (hs : S.next g = some s) (k : ∀ H', Kp A.fp H H' → StandAt H' A (S.eff g s) → Q .non H') : spDone [.ref A.p, .int (hI g)] H Q E := ⟨A, S, g, s, rfl, L, o, hs, k⟩
theorem useCan {H : Hp} {Q : VK} {E : XK} {A : SA} {S : LS} {g : Bool} (L : StandAt H A S) (o : S.Ok) (k : ∀ H', Kp [] H H' → Q (.bl (match S.next g with | none => false | some s => !s.isT || decide (S.hd = none))) H') : spCan [.ref A.p, .int (hI g)] H Q E := ⟨A, S, g, rfl, L, o, k⟩
end G

namespace G
open PySem PySem.Spec PyProof.Rows L2
theorem tyAnd {K : PySem.W.Frag} {T : String} {x : V} {H : Hp} {B : Prop} (h : tyV K T x H) (b : B) : tyV K T x H ∧ B := ⟨h, b⟩
theorem op_inK {X : Cx} (K : PySem.W.Frag) (e : X.K = K) : OpR X (compareOp .In) (rIn K false) := e ▸ op_in_seq
theorem op_notInK {X : Cx} (K : PySem.W.Frag) (e : X.K = K) : OpR X (compareOp .NotIn) (rIn K true) := e ▸ op_notIn_seq
theorem op_isNG {X : Cx} : OpR X (compareOp .Is) rIsN := op_isN
theorem op_notNG {X : Cx} : OpR X (compareOp .IsNot) rNotN := op_notN
theorem non_ne_int {i : Int} : ¬ V.int i = V.non := fun z => by cases z
theorem non_ne_ref {i : Addr} : ¬ V.ref i = V.non := fun z => by cases z
theorem non_ne_str {i : Str} : ¬ V.str i = V.non := fun z => by cases z
/-! ### steps that stand in the heap -/
structure StpsAt (H : Hp) (ps : List Addr) (rs : List Stp) : Prop where
  n : ps.length = rs.length
  e : ∀ (i : Nat) (p : Addr) (s : Stp), ps[i]? = some p → rs[i]? = some s → H p = some (.tup s.enc)
theorem StpsAt.keep {W : List Addr} {H H' : Hp} {ps : List Addr} {rs : List Stp} (r : StpsAt H ps rs) (k : Kp W H H') : StpsAt H' ps rs := ⟨r.n, fun i p s h1 h2 => k.getT (r.e i p s h1 h2)⟩
theorem StpsAt.nil {H : Hp} : StpsAt H [] [] := ⟨rfl, fun i p s h => by simp at h⟩
theorem StpsAt.row {H : Hp} {a : Addr} {ps : List Addr} {rs : List Stp} (r : StpsAt H ps rs) (h : H a = some (.lst (ps.map V.ref))) : RowAt H a ps rs := ⟨h, r.n, r.e⟩
theorem RowAt.stps {H : Hp} {a : Addr} {ps : List Addr} {rs : List Stp} (r : RowAt H a ps rs) : StpsAt H ps rs := ⟨r.n, r.e⟩
theorem StpsAt.push {W : List Addr} {H H' : Hp} {p : Addr} {ps : List Addr} {rs : List Stp} {s : Stp} (r : StpsAt H ps rs) (k : Kp W H H') (hp : H' p = some (.tup s.enc)) : StpsAt H' (ps ++ [p]) (rs ++ [s]) := by
  refine ⟨by simp [r.n], fun i q t h1 h2 => ?_⟩
  by_cases hi : i < ps.length
  · rw [List.getElem?_append_left hi] at h1
    rw [List.getElem?_append_left (by rw [← r.n]; exact hi)] at h2
    exact k.getT (r.e i q t h1 h2)
  · rw [List.getElem?_append_right (by omega)] at h1
    rw [List.getElem?_append_right (by rw [← r.n]; omega)] at h2
    have e1 : i - ps.length = 0 := by
      cases z : i - ps.length with
      | zero => rfl
      | succ n => rw [z] at h1; simp at h1
    rw [e1] at h1
    rw [← r.n, e1] at h2
    have a1 : p = q := by simpa using h1
    have a2 : s = t := by simpa using h2
    subst a1 a2
    exact hp
/-! ### rows by cells -/
def spStep2 : Sp := fun vs H Q _ => ∃ (c many : Int), vs = [.int c, .int many] ∧ Bt c ∧ 0 ≤ many ∧ ∀ s p H', Made H H' many p s → Q (.ref p) H'
theorem useStep2 {H : Hp} {Q : VK} {E : XK} {c many : Int} (h1 : Bt c) (h2 : 0 ≤ many) (k : ∀ s p H', Made H H' many p s → Q (.ref p) H') : spStep2 [.int c, .int many] H Q E := ⟨c, many, rfl, h1, h2, k⟩
def spCells (K : PySem.W.Frag) : Sp := fun vs H Q _ => ∃ (a : Addr) (ns : List Int) (st : Int) (n : Nat), vs = [.ref a, .int st, .int n] ∧ SqL K H a (ns.map V.int) ∧ (∀ z ∈ ns, Builtin.Int.intBits z ≤ 1048576) ∧ 0 ≤ st ∧ n ≤ 60 ∧
  ∀ p (cs : List Int) H', Fre H p → Kp [] H H' → H' p = some (.lst (cs.map V.int)) → cs.length = n → (∀ c ∈ cs, Bt c) → Q (.ref p) H'
theorem useCells {K : PySem.W.Frag} {H : Hp} {Q : VK} {E : XK} {a : Addr} {ns : List Int} {st m : Int} (n : Nat) (em : m = (n : Int)) (h1 : SqL K H a (ns.map V.int)) (h2 : ∀ z ∈ ns, Builtin.Int.intBits z ≤ 1048576) (h3 : 0 ≤ st) (h4 : n ≤ 60)
    (k : ∀ p (cs : List Int) H', Fre H p → Kp [] H H' → H' p = some (.lst (cs.map V.int)) → cs.length = n → (∀ c ∈ cs, Bt c) → Q (.ref p) H') : spCells K [.ref a, .int st, .int m] H Q E := by
  subst em
  exact ⟨a, ns, st, n, rfl, h1, h2, h3, h4, k⟩
theorem cell_bits {ns : List Int} (h : ∀ z ∈ ns, Builtin.Int.intBits z ≤ 1048576) (i : Int) : Builtin.Int.intBits (cellI ns i) ≤ 1048576 := by
  unfold cellI
  rw [List.getD_eq_getElem?_getD]
  cases e : ns[i.toNat]? with
  | none => exact (by decide : Builtin.Int.intBits 0 ≤ 1048576)
  | some z => exact h z (List.mem_of_getElem? e)
def spRow6 : Sp := fun vs H Q _ => ∃ (a : Addr) (cs : List Int) (many : Int), vs = [.ref a, .int many] ∧ H a = some (.lst (cs.map V.int)) ∧ cs.length ≤ 60 ∧ (∀ c ∈ cs, Bt c) ∧ 0 ≤ many ∧
  ∀ p ps rs H', rs.length = cs.length → (∀ s ∈ rs, inBox many s = true) → Fre H p → Kp [] H H' → RowAt H' p ps rs → Q (.ref p) H'
theorem useRow6 {H : Hp} {Q : VK} {E : XK} {a : Addr} {cs : List Int} {many : Int} (h1 : H a = some (.lst (cs.map V.int))) (h2 : cs.length ≤ 60) (h3 : ∀ c ∈ cs, Bt c) (h4 : 0 ≤ many)
    (k : ∀ p ps rs H', rs.length = cs.length → (∀ s ∈ rs, inBox many s = true) → Fre H p → Kp [] H H' → RowAt H' p ps rs → Q (.ref p) H') : spRow6 [.ref a, .int many] H Q E := ⟨a, cs, many, rfl, h1, h2, h3, h4, k⟩
theorem at7s (c : Int) : c % 7 = 0 ∨ c % 7 = 1 ∨ c % 7 = 2 ∨ c % 7 = 3 ∨ c % 7 = 4 ∨ c % 7 = 5 ∨ c % 7 = 6 := by omega
/-! ### the law's own words -/
theorem hV_non (o : Option Bool) : decide (hV o = .non) = decide (o = none) := by
  cases o with
  | none => rfl
  | some h => rfl
theorem hV_nn {o : Option Bool} (h : ¬ o = none) : ¬ hV o = V.non := fun z => by
  cases o with
  | none => exact h rfl
  | some b => cases z
theorem hd_other {o : Option Bool} {g : Bool} (h : ¬ o = none) (h2 : ¬ o = some g) : o = some (!g) := by
  cases o with
  | none => exact absurd rfl h
  | some b => cases b <;> cases g <;> first | rfl | exact absurd rfl h2
def spTold6 : Sp := fun vs H Q _ => ∃ (a0 a1 b o : Addr) (p0 p1 : List Addr) (r0 r1 : List Stp) (bs : List Int) (hs : List Bool), vs = [.ref a0, .ref a1, .ref b, .ref o] ∧ RowAt H a0 p0 r0 ∧ RowAt H a1 p1 r1 ∧ H b = some (.lst (bs.map V.int)) ∧ H o = some (.lst (hs2V hs)) ∧ (LS.start (two r0 r1) bs).Ok ∧
  (∀ e H', (LS.start (two r0 r1) bs).run hs = .error e → Kp [] H H' → Q (.str (errWord (some e))) H') ∧
  (∀ S p l n H', (LS.start (two r0 r1) bs).run hs = .ok S → Fre H p → Fre H l → Fre H n → l ≠ n → Kp [] H H' → H' p = some (.tup [.ref l, .ref n]) → H' l = some (.lst (S.boxes.map V.int)) → H' n = some (.lst [.int (S.num false), .int (S.num true)]) → Q (.ref p) H')
theorem err4 {S : LS} {h : Bool} {e : Err} (x : S.err h = some e) : e = .noTurn ∨ e = .waits ∨ e = .again ∨ e = .notHeld := by
  unfold LS.err at x
  split at x
  · cases x; exact .inl rfl
  · rename_i s _
    split at x
    · cases x; exact .inr (.inl rfl)
    · cases s <;> simp only [LS.gErr] at x <;> (try cases x)
      · split at x
        · cases x; exact .inr (.inr (.inl rfl))
        · cases x
      · split at x
        · cases x
        · cases x; exact .inr (.inr (.inr rfl))
theorem run_err4 : ∀ {hs : List Bool} {S : LS} {e : Err}, S.run hs = .error e → e = .noTurn ∨ e = .waits ∨ e = .again ∨ e = .notHeld
  | [], S, e, h => by cases h
  | g :: hs, S, e, h => by
    cases hx : S.err g with
    | some x =>
      rw [run_err hx] at h
      cases h
      exact err4 hx
    | none =>
      obtain ⟨s, hs'⟩ := err_next hx
      rw [run_ok hx hs'] at h
      exact run_err4 h
theorem ok_needC {rows : Bool → List Stp} {bs : List Int} (o : (LS.start rows bs).Ok) (h : Bool) : needC ((rows h).map fun s => some s.enc) bs.length = none := needC_ok (o.len h) (o.box h)
theorem useWalked {er : Err → Addr} {H : Hp} {Q : VK} {E : XK} {a0 a1 b o : Addr} {p0 p1 : List Addr} {r0 r1 : List Stp} {bs : List Int} {hs : List Bool} (R0 : RowAt H a0 p0 r0) (R1 : RowAt H a1 p1 r1) (hb : H b = some (.lst (bs.map V.int))) (ho : H o = some (.lst (hs2V hs))) (k : (LS.start (two r0 r1) bs).Ok)
    (ke : ∀ e H', (LS.start (two r0 r1) bs).run hs = .error e → Kp [] H H' → E (.ref (er e)) none H')
    (kq : ∀ S p l n H', (LS.start (two r0 r1) bs).run hs = .ok S → Fre H p → Fre H l → Fre H n → l ≠ n → Kp [] H H' → H' p = some (.tup [.ref l, .ref n]) → H' l = some (.lst (S.boxes.map V.int)) → H' n = some (.lst [.int (S.num false), .int (S.num true)]) → Q (.ref p) H') :
    spWalked er [.ref a0, .ref a1, .ref b, .ref o] H Q E :=
  ⟨a0, a1, b, o, _, _, _, _, bs, hs, rfl, R0.l, R1.l, R0.th, R1.th, hb, ho, fun e H' he _ => absurd (he.symm.trans ((loomErr_1 (c1 := r1.map fun s => some s.enc) (show needC (r0.map fun s => some s.enc) bs.length = none from ok_needC k false)).trans (ok_needC k true))) (by intro z; cases z), fun _ q0 q1 e0 e1 _ => by
    have f0 := rows_inj e0
    have f1 := rows_inj e1
    subst f0 f1
    exact ⟨ke, kq⟩⟩
/-! ### comparing data that was handed in -/
theorem useNeRow {K : PySem.W.Frag} {H : Hp} {Q : VK} {a b : Addr} {ps qs : List Addr} {rs : List Stp} (r : RowAt H a ps rs) (r2 : RowAt H b qs rs) (q : Q (.bl false) H) : rNeD K (.ref a) (.ref b) H Q :=
  ⟨_, _, r.dp, r2.dp, row_shaped rs, row_shaped rs, by rw [SeqAt.eqv_refl _ (SeqAt.canLay_of_shaped (row_shaped rs))]; exact q⟩
def intsDat (xs : List Int) : PyData := .list (xs.map PyData.int)
theorem ints_lay : ∀ xs : List Int, PyData.canLayAll0 (xs.map PyData.int) = true
  | [] => rfl
  | s :: r => by
    rw [List.map_cons, PyData.canLayAll0, ints_lay r]; rfl
theorem ints_depth : ∀ xs : List Int, PyData.depthAll (xs.map PyData.int) ≤ 1
  | [] => Nat.zero_le _
  | s :: r => by
    rw [List.map_cons, PyData.depthAll]
    exact Nat.max_le.mpr ⟨by simp [PyData.depth], ints_depth r⟩
theorem ints_shaped (xs : List Int) : SeqAt.shaped (intsDat xs) = true := by
  have h1 : (intsDat xs).canLay0 = true := by
    unfold intsDat
    rw [PyData.canLay0]
    exact ints_lay xs
  have h2 : (intsDat xs).depth ≤ 64 := by
    unfold intsDat
    rw [PyData.depth]
    have := ints_depth xs
    omega
  unfold SeqAt.shaped
  rw [h1, decide_eq_true h2]; rfl
theorem dp_ints {K : PySem.W.Frag} {H : Hp} : ∀ xs : List Int, DpAll K H (xs.map V.int) (xs.map PyData.int)
  | [] => .nil
  | x :: r => .cons (.int x) (dp_ints r)
theorem eqv_ints (xs : List Int) : PyData.eqv (intsDat xs) (intsDat xs) = true := SeqAt.eqv_refl _ (SeqAt.canLay_of_shaped (ints_shaped xs))
theorem useEqInts {K : PySem.W.Frag} {H : Hp} {Q : VK} {a b : Addr} {xs : List Int} (h1 : H a = some (.lst (xs.map V.int))) (h2 : H b = some (.lst (xs.map V.int))) (q : Q (.bl true) H) : rEqD K (.ref a) (.ref b) H Q :=
  ⟨_, _, .lst (SqL.of h1) (dp_ints xs), .lst (SqL.of h2) (dp_ints xs), ints_shaped xs, ints_shaped xs, by rw [show PyData.eqv (.list (xs.map PyData.int)) (.list (xs.map PyData.int)) = true from eqv_ints xs]; exact q⟩
theorem useNeInts {K : PySem.W.Frag} {H : Hp} {Q : VK} {a b : Addr} {xs : List Int} (h1 : H a = some (.lst (xs.map V.int))) (h2 : H b = some (.lst (xs.map V.int))) (q : Q (.bl false) H) : rNeD K (.ref a) (.ref b) H Q :=
  ⟨_, _, .lst (SqL.of h1) (dp_ints xs), .lst (SqL.of h2) (dp_ints xs), ints_shaped xs, ints_shaped xs, by rw [show PyData.eqv (.list (xs.map PyData.int)) (.list (xs.map PyData.int)) = true from eqv_ints xs]; exact q⟩
theorem hs2V_ints (hs : List Bool) : hs2V hs = (hs.map hI).map V.int := by unfold hs2V; rw [List.map_map]; rfl
/-! ### an order, one hand more -/
theorem run_snoc : ∀ {hs : List Bool} {S T : LS} (g : Bool), S.run hs = .ok T → S.run (hs ++ [g]) = T.run [g]
  | [], S, T, g, h => by cases h; rfl
  | a :: hs, S, T, g, h => by
    cases hx : S.err a with
    | some x => rw [run_err hx] at h; cases h
    | none =>
      obtain ⟨s, hs'⟩ := err_next hx
      rw [run_ok hx hs'] at h
      rw [List.cons_append, run_ok hx hs']
      exact run_snoc g h
theorem run_one {T : LS} {g : Bool} : T.run [g] = T.stepE g := by
  show (match T.stepE g with | .error e => Except.error e | .ok S' => S'.run []) = _
  cases T.stepE g <;> rfl
theorem hI_mod (c : Int) : ∃ g : Bool, c % 2 = hI g := by
  rcases (show c % 2 = 0 ∨ c % 2 = 1 by omega) with e | e
  · exact ⟨false, e⟩
  · exact ⟨true, e⟩
theorem hs2V_snoc (hs : List Bool) (g : Bool) : hs2V hs ++ [V.int (hI g)] = hs2V (hs ++ [g]) := by unfold hs2V; rw [List.map_append]; rfl
end G
namespace G
open PySem PySem.Spec PyProof.Rows L2
theorem bits_div {c k : Int} (hk : 0 < k) : Builtin.Int.intBits (c / k) ≤ Builtin.Int.intBits c := by
  refine bits_mono ?_
  rcases Int.lt_or_le c 0 with h0 | h0
  · have h1 : c ≤ c / k := Int.le_ediv_of_mul_le (a := c) (b := c) hk (by
      have e : c * k - c = c * (k - 1) := by rw [Int.mul_sub, Int.mul_one]
      have q : c * (k - 1) ≤ 0 := Int.mul_nonpos_of_nonpos_of_nonneg (by omega) (by omega)
      omega)
    have h2 : c / k < 0 := Int.ediv_neg_of_neg_of_pos h0 hk
    omega
  · have h1 : c / k ≤ c := Int.ediv_le_self _ h0
    have h2 : 0 ≤ c / k := Int.ediv_nonneg h0 (by omega)
    omega
theorem bt_div_add {ns : List Int} (h : ∀ z ∈ ns, Builtin.Int.intBits z ≤ 1048576) (i : Int) {k t : Int} (hk : 0 < k) (h0 : 0 ≤ t) (h1 : t ≤ 1000) : Bt (cellI ns i / k + t) :=
  Bt.add (bt_of (Nat.le_trans (bits_div hk) (cell_bits h i))) h0 h1 (Nat.le_trans (Nat.le_trans (bits_div hk) (cell_bits h i)) (by decide))
theorem errWordX_ne {o : Str} (ho : o ≠ "") {S : LS} {g : Bool} {e : Err} (x : S.err g = some e) : errWordX o (some e) ≠ "" := by
  rcases err4 x with z | z | z | z <;> subst z
  · exact ho
  · exact (by decide +kernel : ("waits" : Str) ≠ "")
  · exact (by decide +kernel : ("again" : Str) ≠ "")
  · exact (by decide +kernel : ("not held" : Str) ≠ "")
theorem two_f {α : Type} {x y : α} : two x y false = x := rfl
theorem two_t {α : Type} {x y : α} : two x y true = y := rfl
/-- an order so far, the law's own stand beside it -/
structure Led (r0 r1 : List Stp) (bs : List Int) (hs : List Bool) (w : Str) (S : LS) : Prop where
  o : S.Ok
  rows : S.rows = two r0 r1
  box : S.boxes.length = bs.length
  run : (w = "" ∧ (LS.start (two r0 r1) bs).run hs = .ok S) ∨ (∃ e, w = errWord (some e) ∧ w ≠ "" ∧ (LS.start (two r0 r1) bs).run hs = .error e)
theorem Led.init {r0 r1 : List Stp} {bs : List Int} (o : (LS.start (two r0 r1) bs).Ok) : Led r0 r1 bs [] "" (LS.start (two r0 r1) bs) := ⟨o, rfl, rfl, .inl ⟨rfl, rfl⟩⟩
theorem Led.okRun {r0 r1 : List Stp} {bs : List Int} {hs : List Bool} {S : LS} (d : Led r0 r1 bs hs "" S) : (LS.start (two r0 r1) bs).run hs = .ok S := by
  rcases d.run with ⟨_, h⟩ | ⟨e, _, h, _⟩
  · exact h
  · exact absurd rfl h
theorem Led.err {r0 r1 : List Stp} {bs : List Int} {hs : List Bool} {S : LS} (d : Led r0 r1 bs hs "" S) {g : Bool} {e : Err} (x : S.err g = some e) : Led r0 r1 bs (hs ++ [g]) (errWord (some e)) S :=
  ⟨d.o, d.rows, d.box, .inr ⟨e, rfl, errWordX_ne (by decide +kernel) x, by rw [run_snoc g d.okRun, run_one, stepE_err x]⟩⟩
theorem Led.go {r0 r1 : List Stp} {bs : List Int} {hs : List Bool} {S : LS} (d : Led r0 r1 bs hs "" S) {g : Bool} {s : Stp} (x : S.err g = none) (hn : S.next g = some s) : Led r0 r1 bs (hs ++ [g]) "" (S.eff g s) :=
  ⟨d.o.eff hn, by rw [eff_rows]; exact d.rows, by rw [eff_boxes]; exact d.box, .inl ⟨rfl, by rw [run_snoc g d.okRun, run_one, stepE_ok x hn]⟩⟩
theorem kp_order {O : Addr} {A : SA} {H H1 H2 : Hp} (p : Kp (O :: A.fp) H H1) (k : Kp [O] H1 H2) : Kp (O :: A.fp) H H2 := p.step k fun a h => by
  have e : a = O := by simpa using h
  rw [e]; exact .inl List.mem_cons_self
theorem kp_stand {O : Addr} {A : SA} {H H1 H2 : Hp} (p : Kp (O :: A.fp) H H1) (k : Kp A.fp H1 H2) : Kp (O :: A.fp) H H2 := p.step k fun a h => .inl (List.mem_cons_of_mem _ h)
/-- what the list of the order is apart from -/
structure OrdAp (O : Addr) (A : SA) : Prop where
  p : A.p ≠ O
  w : A.w ≠ O
  row : ∀ h, A.row h ≠ O
  b : A.b ≠ O
  n : A.n ≠ O
  q : A.q ≠ O
theorem StandAt.ord {O : Addr} {H H' : Hp} {A : SA} {S : LS} (L : StandAt H A S) (k : Kp [O] H H') (d : OrdAp O A) : StandAt H' A S :=
  L.keep k (by simpa using d.p) (by simpa using d.w) (fun h => by simpa using d.row h) (by simpa using d.b) (by simpa using d.n) (by simpa using d.q)
theorem OrdAp.nin {O : Addr} {A : SA} (d : OrdAp O A) : O ∉ A.fp := by
  simp only [SA.fp, List.mem_cons, List.not_mem_nil, or_false, not_or]
  exact ⟨d.p.symm, d.b.symm, d.n.symm, d.q.symm⟩
theorem nin_ofp {O x : Addr} {A : SA} (h0 : x ≠ O) (h1 : x ≠ A.p) (h2 : x ≠ A.b) (h3 : x ≠ A.n) (h4 : x ≠ A.q) : x ∉ O :: A.fp := by
  simp only [SA.fp, List.mem_cons, List.not_mem_nil, or_false, not_or]
  exact ⟨h0, h1, h2, h3, h4⟩
/-- a stand that is built: its places are new, none of them is another's -/
theorem StandAt.built {H : Hp} {p b n q w a0 a1 : Addr} {p0 p1 : List Addr} {r0 r1 : List Stp} {bs : List Int} (top : H p = some (.lst [.ref b, .ref n, .ref q, .non, .ref w])) (rws : H w = some (.lst [.ref a0, .ref a1])) (R0 : RowAt H a0 p0 r0) (R1 : RowAt H a1 p1 r1)
    (box : H b = some (.lst (bs.map V.int))) (num : H n = some (.lst [.int 0, .int 0])) (pls : H q = some (.lst [.int 0, .int 0])) (pb : p ≠ b) (pn : p ≠ n) (pq : p ≠ q) (pw : p ≠ w) (pr0 : p ≠ a0) (pr1 : p ≠ a1) (bn : b ≠ n) (bq : b ≠ q) (nq : n ≠ q) (wb : w ≠ b) (wn : w ≠ n) (wq : w ≠ q)
    (rb0 : a0 ≠ b) (rb1 : a1 ≠ b) (rn0 : a0 ≠ n) (rn1 : a1 ≠ n) (rq0 : a0 ≠ q) (rq1 : a1 ≠ q) : StandAt H ⟨p, b, n, q, w, two a0 a1, two p0 p1⟩ (LS.start (two r0 r1) bs) :=
  ⟨top, rws, fun h => by cases h <;> first | exact R0 | exact R1, box, num, pls, pb, pn, pq, pw, fun h => by cases h <;> first | exact pr0 | exact pr1, bn, bq, nq, wb, wn, wq, fun h => by cases h <;> first | exact rb0 | exact rb1,
   fun h => by cases h <;> first | exact rn0 | exact rn1, fun h => by cases h <;> first | exact rq0 | exact rq1⟩
theorem start_ok2 {r0 r1 : List Stp} {bs : List Int} (l0 : r0.length ≤ 60) (l1 : r1.length ≤ 60) (b0 : ∀ s ∈ r0, inBox bs.length s = true) (b1 : ∀ s ∈ r1, inBox bs.length s = true) : (LS.start (two r0 r1) bs).Ok where
  len := fun h => by cases h <;> first | exact l0 | exact l1
  box := fun h s hs => by
    cases h
    · exact b0 s hs
    · exact b1 s hs
  pl := fun h => Nat.zero_le _
end G
namespace G
open PySem PySem.Spec PyProof.Rows L2
theorem useWordN {w : Str} {H : Hp} {Q : VK} {E : XK} {A : SA} {S : LS} {g : Bool} (L : StandAt H A S) (o : S.Ok) (e : S.err g = none) (k : ∀ H', Kp [] H H' → Q (.str "") H') : spWord w [.ref A.p, .int (hI g)] H Q E := useWord L o fun H' kp => by rw [e]; exact k H' kp
theorem useWordE {w : Str} (hw : w ≠ "") {H : Hp} {Q : VK} {E : XK} {A : SA} {S : LS} {g : Bool} {x : Err} (L : StandAt H A S) (o : S.Ok) (e : S.err g = some x) (k : ∀ H', errWordX w (some x) ≠ "" → Kp [] H H' → Q (.str (errWordX w (some x))) H') : spWord w [.ref A.p, .int (hI g)] H Q E := useWord L o fun H' kp => by rw [e]; exact k H' (errWordX_ne hw e) kp
theorem hs2V_len (hs : List Bool) : (hs2V hs).length = hs.length := by unfold hs2V; rw [List.length_map]
end G

namespace G
open PySem PySem.Spec PyProof.Rows L2
/-! ### who is ahead in an order -/
theorem hI_inj {g h : Bool} : hI g = hI h ↔ g = h := by cases g <;> cases h <;> decide
def byOrd (rows : Bool → List Stp) : (Bool → Nat) → List (Bool × Stp) → List Bool → Option (List (Bool × Stp))
  | _, acc, [] => some acc
  | pl, acc, h :: hs => match (rows h)[pl h]? with
    | none => none
    | some s => byOrd rows (upB pl h (pl h + 1)) (acc ++ [(h, s)]) hs
theorem byOrd_none {rows : Bool → List Stp} {pl : Bool → Nat} {acc : List (Bool × Stp)} {h : Bool} {hs : List Bool} (e : (rows h)[pl h]? = none) : byOrd rows pl acc (h :: hs) = none := by rw [byOrd, e]
theorem byOrd_some {rows : Bool → List Stp} {pl : Bool → Nat} {acc : List (Bool × Stp)} {h : Bool} {hs : List Bool} {s : Stp} (e : (rows h)[pl h]? = some s) : byOrd rows pl acc (h :: hs) = byOrd rows (upB pl h (pl h + 1)) (acc ++ [(h, s)]) hs := by rw [byOrd, e]
/-- what is done, as pairs in the heap -/
structure PairsAt (H : Hp) (ts : List Addr) (acc : List (Bool × Stp)) : Prop where
  n : ts.length = acc.length
  e : ∀ (i : Nat) (t : Addr) (x : Bool × Stp), ts[i]? = some t → acc[i]? = some x → ∃ p, H t = some (.tup [.int (hI x.1), .ref p]) ∧ H p = some (.tup x.2.enc)
theorem PairsAt.keep {W : List Addr} {H H' : Hp} {ts : List Addr} {acc : List (Bool × Stp)} (r : PairsAt H ts acc) (k : Kp W H H') : PairsAt H' ts acc :=
  ⟨r.n, fun i t x h1 h2 => by obtain ⟨p, a, b⟩ := r.e i t x h1 h2; exact ⟨p, k.getT a, k.getT b⟩⟩
theorem PairsAt.nil {H : Hp} : PairsAt H [] [] := ⟨rfl, fun i p s h => by simp at h⟩
theorem PairsAt.push {W : List Addr} {H H' : Hp} {t p : Addr} {ts : List Addr} {acc : List (Bool × Stp)} {g : Bool} {s : Stp} (r : PairsAt H ts acc) (k : Kp W H H') (ht : H' t = some (.tup [.int (hI g), .ref p])) (hp : H' p = some (.tup s.enc)) : PairsAt H' (ts ++ [t]) (acc ++ [(g, s)]) := by
  refine ⟨by simp [r.n], fun i q x h1 h2 => ?_⟩
  by_cases hi : i < ts.length
  · rw [List.getElem?_append_left hi] at h1
    rw [List.getElem?_append_left (by rw [← r.n]; exact hi)] at h2
    exact (r.keep k).e i q x h1 h2
  · rw [List.getElem?_append_right (by omega)] at h1
    rw [List.getElem?_append_right (by rw [← r.n]; omega)] at h2
    have e1 : i - ts.length = 0 := by
      cases z : i - ts.length with
      | zero => rfl
      | succ n => rw [z] at h1; simp at h1
    rw [e1] at h1
    rw [← r.n, e1] at h2
    have a1 : t = q := by simpa using h1
    have a2 : (g, s) = x := by simpa using h2
    subst a1 a2
    exact ⟨p, ht, hp⟩
theorem PairsAt.get {H : Hp} {ts : List Addr} {acc : List (Bool × Stp)} (r : PairsAt H ts acc) {i : Nat} (hi : i < acc.length) : ∃ t p g s, ts[i]? = some t ∧ acc[i]? = some (g, s) ∧ atI (ts.map V.ref) (i : Int) = some (.ref t) ∧ H t = some (.tup [.int (hI g), .ref p]) ∧ H p = some (.tup s.enc) := by
  have hp : i < ts.length := by rw [r.n]; exact hi
  obtain ⟨p, a, b⟩ := r.e i ts[i] acc[i] (List.getElem?_eq_getElem hp) (List.getElem?_eq_getElem hi)
  exact ⟨ts[i], p, acc[i].1, acc[i].2, List.getElem?_eq_getElem hp, List.getElem?_eq_getElem hi, at_of rfl (by rw [List.getElem?_map, List.getElem?_eq_getElem hp]; rfl), a, b⟩
def hit (x y : Bool × Stp) : Prop := x.1 ≠ y.1 ∧ apartS x.2 y.2 = false
def Ahd (acc : List (Bool × Stp)) (h : Bool) : Prop := ∃ (i j : Nat) (x y : Bool × Stp), acc[i]? = some x ∧ acc[j]? = some y ∧ i < j ∧ x.1 = h ∧ hit x y
def Pre (acc : List (Bool × Stp)) (j i : Nat) (h : Bool) : Prop := ∃ (i' j' : Nat) (x y : Bool × Stp), acc[i']? = some x ∧ acc[j']? = some y ∧ i' < j' ∧ (j' < j ∨ (j' = j ∧ i' < i)) ∧ x.1 = h ∧ hit x y
theorem pre_zero {acc : List (Bool × Stp)} {h : Bool} : ¬ Pre acc 0 0 h := fun ⟨_, _, _, _, _, _, _, q, _⟩ => by omega
theorem pre_row {acc : List (Bool × Stp)} {j : Nat} {h : Bool} : Pre acc (j + 1) 0 h ↔ Pre acc j j h := by
  constructor
  · rintro ⟨i', j', x, y, a, b, c, d, e⟩
    exact ⟨i', j', x, y, a, b, c, by omega, e⟩
  · rintro ⟨i', j', x, y, a, b, c, d, e⟩
    exact ⟨i', j', x, y, a, b, c, by omega, e⟩
theorem pre_all {acc : List (Bool × Stp)} {h : Bool} : Pre acc acc.length 0 h ↔ Ahd acc h := by
  constructor
  · rintro ⟨i', j', x, y, a, b, c, d, e⟩
    exact ⟨i', j', x, y, a, b, c, e⟩
  · rintro ⟨i', j', x, y, a, b, c, e⟩
    have := (List.getElem?_eq_some_iff.mp b).1
    exact ⟨i', j', x, y, a, b, c, by omega, e⟩
theorem pre_next {acc : List (Bool × Stp)} {i j : Nat} {h : Bool} {x y : Bool × Stp} (hx : acc[i]? = some x) (hy : acc[j]? = some y) (hij : i < j) : Pre acc j (i + 1) h ↔ Pre acc j i h ∨ (x.1 = h ∧ hit x y) := by
  constructor
  · rintro ⟨i', j', x', y', a, b, c, d, e⟩
    by_cases q : j' = j ∧ i' = i
    · obtain ⟨rfl, rfl⟩ := q
      rw [hx] at a; rw [hy] at b
      cases a; cases b
      exact .inr e
    · exact .inl ⟨i', j', x', y', a, b, c, by omega, e⟩
  · rintro (⟨i', j', x', y', a, b, c, d, e⟩ | e)
    · exact ⟨i', j', x', y', a, b, c, by omega, e⟩
    · exact ⟨i, j, x, y, hx, hy, hij, by omega, e⟩
def Row (acc : List (Bool × Stp)) (y : Bool × Stp) (i : Nat) (h : Bool) : Prop := ∃ (i' : Nat) (x : Bool × Stp), i' < i ∧ acc[i']? = some x ∧ x.1 = h ∧ hit x y
theorem row_next {acc : List (Bool × Stp)} {i : Nat} {h : Bool} {x y : Bool × Stp} (hx : acc[i]? = some x) : Row acc y (i + 1) h ↔ Row acc y i h ∨ (x.1 = h ∧ hit x y) := by
  constructor
  · rintro ⟨i', x', a, b, e⟩
    by_cases q : i' = i
    · subst q
      rw [hx] at b; cases b
      exact .inr e
    · exact .inl ⟨i', x', by omega, b, e⟩
  · rintro (⟨i', x', a, b, e⟩ | e)
    · exact ⟨i', x', by omega, b, e⟩
    · exact ⟨i, x, by omega, hx, e⟩
theorem ahd_snoc {acc : List (Bool × Stp)} {y : Bool × Stp} {h : Bool} : Ahd (acc ++ [y]) h ↔ Ahd acc h ∨ Row acc y acc.length h := by
  constructor
  · rintro ⟨i, j, x, z, a, b, c, e⟩
    have hj := (List.getElem?_eq_some_iff.mp b).1
    rw [List.length_append, List.length_singleton] at hj
    have hi : i < acc.length := by omega
    rw [List.getElem?_append_left hi] at a
    by_cases q : j < acc.length
    · rw [List.getElem?_append_left q] at b
      exact .inl ⟨i, j, x, z, a, b, c, e⟩
    · have ej : j = acc.length := by omega
      subst ej
      have b' : y = z := by simpa using b
      subst b'
      exact .inr ⟨i, x, hi, a, e⟩
  · rintro (⟨i, j, x, z, a, b, c, e⟩ | ⟨i, x, hi, a, e⟩)
    · have hj := (List.getElem?_eq_some_iff.mp b).1
      exact ⟨i, j, x, z, by rw [List.getElem?_append_left (by omega)]; exact a, by rw [List.getElem?_append_left hj]; exact b, c, e⟩
    · exact ⟨i, acc.length, x, y, by rw [List.getElem?_append_left hi]; exact a, by simp, hi, e⟩
theorem ahd_nil {h : Bool} : ¬ Ahd [] h := fun ⟨_, _, _, _, a, _⟩ => by simp at a
/-- one more pair is looked at, and found -/
theorem fnd_yes {f : Bool → Bool} {P P' : Bool → Prop} {x y : Bool × Stp} (hf : ∀ h, f h = true ↔ P h) (hn : ∀ h, P' h ↔ P h ∨ (x.1 = h ∧ hit x y)) (hh : hit x y) : ∀ h, upB f x.1 true h = true ↔ P' h := fun h => by
  rw [hn]
  by_cases e : h = x.1
  · subst e; rw [upB_same]; exact ⟨fun _ => .inr ⟨rfl, hh⟩, fun _ => rfl⟩
  · rw [upB_ne e, hf]; exact ⟨.inl, fun q => q.elim id fun q => absurd q.1.symm e⟩
theorem fnd_no {f : Bool → Bool} {P P' : Bool → Prop} {x y : Bool × Stp} (hf : ∀ h, f h = true ↔ P h) (hn : ∀ h, P' h ↔ P h ∨ (x.1 = h ∧ hit x y)) (hh : ¬ hit x y) : ∀ h, f h = true ↔ P' h := fun h => by
  rw [hn, hf]
  exact ⟨.inl, fun q => q.elim id fun q => absurd q.2 hh⟩
theorem fnd_eq {f g : Bool → Bool} {P : Bool → Prop} (h1 : ∀ h, f h = true ↔ P h) (h2 : ∀ h, g h = true ↔ P h) (h : Bool) : f h = g h := by
  have := (h1 h).trans (h2 h).symm
  cases hf : f h <;> cases hg : g h <;> simp_all
def spStepsBy (er : Err → Addr) : Sp := fun vs H Q E => ∃ (a0 a1 o : Addr) (p0 p1 : List Addr) (r0 r1 : List Stp) (hs : List Bool), vs = [.ref a0, .ref a1, .ref o] ∧ RowAt H a0 p0 r0 ∧ RowAt H a1 p1 r1 ∧ H o = some (.lst (hs2V hs)) ∧ hs.length ≤ 200 ∧
  (∀ H', byOrd (two r0 r1) (fun _ => 0) [] hs = none → Kp [] H H' → E (.ref (er .noTurn)) none H') ∧
  (∀ acc D ts H', byOrd (two r0 r1) (fun _ => 0) [] hs = some acc → acc.length ≤ hs.length → Fre H D → Kp [] H H' → H' D = some (.lst (ts.map V.ref)) → PairsAt H' ts acc → Q (.ref D) H')
def spAhead (er : Err → Addr) : Sp := fun vs H Q E => ∃ (a0 a1 o : Addr) (p0 p1 : List Addr) (r0 r1 : List Stp) (hs : List Bool), vs = [.ref a0, .ref a1, .ref o] ∧ RowAt H a0 p0 r0 ∧ RowAt H a1 p1 r1 ∧ H o = some (.lst (hs2V hs)) ∧ hs.length ≤ 200 ∧
  (∀ H', byOrd (two r0 r1) (fun _ => 0) [] hs = none → Kp [] H H' → E (.ref (er .noTurn)) none H') ∧
  (∀ acc (f : Bool → Bool) p H', byOrd (two r0 r1) (fun _ => 0) [] hs = some acc → (∀ h, f h = true ↔ Ahd acc h) → Fre H p → Kp [] H H' → H' p = some (.tup [.bl (f false), .bl (f true)]) → Q (.ref p) H')
/-- a thing is found by the row -/
theorem RowAt.two {H : Hp} {a0 a1 : Addr} {p0 p1 : List Addr} {r0 r1 : List Stp} (R0 : RowAt H a0 p0 r0) (R1 : RowAt H a1 p1 r1) (g : Bool) : RowAt H (two a0 a1 g) (two p0 p1 g) (two r0 r1 g) := by
  cases g
  · exact R0
  · exact R1
end G
namespace G
open PySem PySem.Spec PyProof.Rows L2
def spApartL : Sp := fun vs H Q _ => ∃ (p q : Addr) (a b : Stp), vs = [.ref p, .ref q] ∧ H p = some (.tup a.enc) ∧ H q = some (.tup b.enc) ∧ ∀ H', Kp [] H H' → Q (.bl (apartS a b)) H'
theorem useApartL {H : Hp} {Q : VK} {E : XK} {p q : Addr} {a b : Stp} (h1 : H p = some (.tup a.enc)) (h2 : H q = some (.tup b.enc)) (k : ∀ H', Kp [] H H' → Q (.bl (apartS a b)) H') : spApartL [.ref p, .ref q] H Q E := ⟨p, q, a, b, rfl, h1, h2, k⟩
def spLawAhead : Sp := fun vs H Q _ => ∃ (a0 a1 o R : Addr) (p0 p1 : List Addr) (r0 r1 : List Stp) (hs : List Bool), vs = [.ref o, .ref R] ∧ H R = some (.lst [.ref a0, .ref a1]) ∧ RowAt H a0 p0 r0 ∧ RowAt H a1 p1 r1 ∧ H o = some (.lst (hs2V hs)) ∧ hs.length ≤ 200 ∧
  (∀ H', byOrd (two r0 r1) (fun _ => 0) [] hs = none → Kp [] H H' → Q .non H') ∧
  (∀ acc (f : Bool → Bool) F H', byOrd (two r0 r1) (fun _ => 0) [] hs = some acc → (∀ h, f h = true ↔ Ahd acc h) → Fre H F → Kp [] H H' → H' F = some (.lst [.bl (f false), .bl (f true)]) → Q (.ref F) H')
theorem up_cast {pl : Bool → Nat} {g : Bool} (h : Bool) : upB (fun b => (pl b : Int)) g ((pl g : Int) + 1) h = ((upB pl g (pl g + 1) h : Nat) : Int) := by unfold upB; split <;> simp
def spNumA : Sp := fun vs H Q _ => ∃ (c : Int), vs = [.int c] ∧ Bt c ∧ ∀ n : Int, Q (.int n) H
theorem useNumA {H : Hp} {Q : VK} {E : XK} {c : Int} (h1 : Bt c) (k : ∀ n : Int, Q (.int n) H) : spNumA [.int c] H Q E := ⟨c, rfl, h1, k⟩
/-- a step that was built -/
def MadeS (H H' : Hp) (p : Addr) (s : Stp) : Prop := Fre H p ∧ Kp [] H H' ∧ H' p = some (.tup s.enc)
def spStep13 : Sp := fun vs H Q _ => ∃ (c : Int), vs = [.int c] ∧ Bt c ∧ ∀ s p H', MadeS H H' p s → Q (.ref p) H'
theorem useStep13 {H : Hp} {Q : VK} {E : XK} {c : Int} (h1 : Bt c) (k : ∀ s p H', MadeS H H' p s → Q (.ref p) H') : spStep13 [.int c] H Q E := ⟨c, rfl, h1, k⟩
def spTold13 : Sp := fun vs H Q _ => ∃ (a0 a1 o : Addr) (p0 p1 : List Addr) (r0 r1 : List Stp) (hs : List Bool), vs = [.ref a0, .ref a1, .ref o] ∧ RowAt H a0 p0 r0 ∧ RowAt H a1 p1 r1 ∧ H o = some (.lst (hs2V hs)) ∧ hs.length ≤ 200 ∧
  (∀ H', byOrd (two r0 r1) (fun _ => 0) [] hs = none → Kp [] H H' → Q (.bl true) H') ∧
  (∀ acc (f : Bool → Bool) p H', byOrd (two r0 r1) (fun _ => 0) [] hs = some acc → (∀ h, f h = true ↔ Ahd acc h) → Fre H p → Kp [] H H' → H' p = some (.tup [.bl (f false), .bl (f true)]) → Q (.ref p) H')
theorem vCnt {K : PySem.W.Frag} {H : Hp} {Q : VK} {p : Addr} {hs : List Bool} {i : Int} (h : SqL K H p (hs2V hs)) (q : Q (.int (((hs.map hI).count i : Nat) : Int)) H) : rCntI K (.ref p) [.int i] H Q := ⟨p, hs.map hI, i, rfl, rfl, by rw [← hs2V_ints]; exact h, q⟩
end G
namespace G
open PySem PySem.Spec PyProof.Rows L2
theorem toBl {Q : VK} {H : Hp} {b c : Bool} (q : Q (.bl c) H) (e : c = b) : Q (.bl b) H := e ▸ q
end G

namespace G
open PySem PySem.Spec PyProof.Rows L2
/-! ### takes and frees by turns -/
def alt : Bool → List Stp → Bool
  | _, [] => true
  | held, s :: r => match s with
    | .take => !held && alt true r
    | .free => held && alt false r
    | _ => alt held r
def heldBy : Bool → List Stp → Bool
  | held, [] => held
  | held, s :: r => match s with
    | .take => heldBy true r
    | .free => heldBy false r
    | _ => heldBy held r
/-- the guard's word behind a held -/
def altOk (held : Bool) (s : Stp) : Bool := match s with
  | .take => !held | .free => held | _ => true
def heldS (held : Bool) (s : Stp) : Bool := match s with
  | .take => true | .free => false | _ => held
theorem alt_cons {held : Bool} {s : Stp} {r : List Stp} : alt held (s :: r) = (altOk held s && alt (heldS held s) r) := by cases s <;> simp [alt, altOk, heldS]
theorem heldBy_cons {held : Bool} {s : Stp} {r : List Stp} : heldBy held (s :: r) = heldBy (heldS held s) r := by cases s <;> simp [heldBy, heldS]
theorem heldS_G {h : Bool} {s : Stp} (e : s.isG = true) : heldS h s = s.isT := by cases s <;> first | rfl | cases e
theorem heldS_N {h : Bool} {s : Stp} (e : s.isG = false) : heldS h s = h := by cases s <;> first | rfl | cases e
theorem alt_snoc : ∀ {r : List Stp} {held : Bool} {s : Stp}, alt held (r ++ [s]) = (alt held r && altOk (heldBy held r) s)
  | [], held, s => by simp [alt_cons, alt, heldBy]
  | x :: r, held, s => by rw [List.cons_append, alt_cons, alt_cons, alt_snoc, heldBy_cons, Bool.and_assoc]
theorem heldBy_snoc : ∀ {r : List Stp} {held : Bool} {s : Stp}, heldBy held (r ++ [s]) = heldS (heldBy held r) s
  | [], held, s => by simp [heldBy_cons, heldBy]
  | x :: r, held, s => by rw [List.cons_append, heldBy_cons, heldBy_cons, heldBy_snoc]
/-- what refuses a step, by the guard's holder -/
def errH (hd : Option Bool) (g : Bool) (s : Stp) : Option Err := match s with
  | .take => if hd = some (!g) then some .waits else if hd = some g then some .again else none
  | .free => if hd = some g then none else some .notHeld
  | _ => none
theorem err_some {S : LS} {g : Bool} {s : Stp} (h : S.next g = some s) : S.err g = errH S.hd g s := by
  unfold LS.err
  rw [h]
  show (if S.waits g = true then some Err.waits else S.gErr g s) = _
  rw [waits_some h]
  cases s <;> simp [Stp.isT, LS.gErr, errH]
def hdS (hd : Option Bool) (g : Bool) (s : Stp) : Option Bool := match s with
  | .take => some g | .free => none | _ => hd
theorem eff_hdS {S : LS} {g : Bool} {s : Stp} : (S.eff g s).hd = hdS S.hd g s := by cases s <;> rfl
/-- each row goes on by turns -/
def Alt (S : LS) : Prop := ∀ h, alt (decide (S.hd = some h)) ((S.rows h).drop (S.pl h)) = true
theorem drop_next {S : LS} {g : Bool} {s : Stp} (h : S.next g = some s) : (S.rows g).drop (S.pl g) = s :: (S.rows g).drop (S.pl g + 1) := drop_get h
theorem Alt.ok {S : LS} (a : Alt S) {g : Bool} {s : Stp} (h : S.next g = some s) : altOk (decide (S.hd = some g)) s = true ∧ alt (heldS (decide (S.hd = some g)) s) ((S.rows g).drop (S.pl g + 1)) = true := by
  have := a g
  rw [drop_next h, alt_cons, Bool.and_eq_true] at this
  exact this
def canB (S : LS) (g : Bool) : Bool := match S.next g with
  | none => false
  | some s => !s.isT || decide (S.hd = none)
theorem Alt.can {S : LS} (a : Alt S) {g : Bool} : canB S g = true ↔ S.err g = none := by
  unfold canB
  cases h : S.next g with
  | none => rw [err_none h]; exact ⟨fun z => Bool.noConfusion z, fun z => by cases z⟩
  | some s =>
    rw [err_some h]
    have := (a.ok h).1
    cases s <;> simp [Stp.isT, errH, altOk] at this ⊢
    · cases hd : S.hd with
      | none => simp
      | some b => rw [hd] at this; cases b <;> cases g <;> simp at this ⊢
    · exact this
theorem canB_next {S : LS} {g : Bool} (h : canB S g = true) : ∃ s, S.next g = some s := by
  unfold canB at h
  cases e : S.next g with
  | none => rw [e] at h; cases h
  | some s => exact ⟨s, rfl⟩
theorem eff_next_ne {S : LS} {g h : Bool} {s : Stp} (n : h ≠ g) : (S.eff g s).next h = S.next h := by
  unfold LS.next
  rw [eff_rows, eff_pl, upB_ne n]
theorem Alt.eff {S : LS} (a : Alt S) {g : Bool} {s : Stp} (e : S.err g = none) (h : S.next g = some s) : Alt (S.eff g s) := fun k => by
  rw [eff_rows, eff_pl, eff_hdS]
  rw [err_some h] at e
  by_cases q : k = g
  · subst q
    rw [upB_same]
    have h2 := (a.ok h).2
    have : decide (hdS S.hd k s = some k) = heldS (decide (S.hd = some k)) s := by cases s <;> first | rfl | simp [hdS, heldS]
    rw [this]; exact h2
  · rw [upB_ne q]
    have h2 := a k
    have : decide (hdS S.hd g s = some k) = decide (S.hd = some k) := by
      have ek : k = !g := by cases k <;> cases g <;> simp_all
      cases s with
      | take =>
        have n2 : ¬ S.hd = some k := by
          intro z
          unfold errH at e
          dsimp only at e
          rw [if_pos (by rw [← ek]; exact z)] at e
          cases e
        rw [decide_eq_false n2]
        exact decide_eq_false fun z => q (Option.some.inj z).symm
      | free =>
        have n2 : ¬ S.hd = some k := by
          intro z
          unfold errH at e
          dsimp only at e
          rw [if_neg (by rw [z]; intro y; exact q (Option.some.inj y))] at e
          cases e
        rw [decide_eq_false n2]
        rfl
      | _ => rfl
    rw [this]; exact h2
theorem Alt.start {r0 r1 : List Stp} {bs : List Int} (h0 : alt false r0 = true) (h1 : alt false r1 = true) : Alt (LS.start (two r0 r1) bs) := fun h => by
  cases h
  · exact h0
  · exact h1
/-! ### two steps that are apart -/
theorem eff_eq {S : LS} {g : Bool} {s : Stp} : S.eff g s = { S.act g s with pl := upB S.pl g (S.pl g + 1) } := by
  show ({ S.act g s with pl := upB (S.act g s).pl g ((S.act g s).pl g + 1) } : LS) = _
  rw [act_pl]
theorem upB_comm {α : Type} {f : Bool → α} {g h : Bool} {x y : α} (n : g ≠ h) : upB (upB f g x) h y = upB (upB f h y) g x := by
  funext k
  unfold upB
  by_cases k1 : k = h
  · have k2 : ¬ k = g := fun z => n (z.symm.trans k1)
    rw [if_pos k1, if_neg k2, if_pos k1]
  · by_cases k2 : k = g
    · rw [if_neg k1, if_pos k2, if_pos k2]
    · rw [if_neg k1, if_neg k2, if_neg k2, if_neg k1]
theorem getD_set_ne {l : List Int} {i j : Nat} {x : Int} (n : i ≠ j) : (l.set i x).getD j 0 = l.getD j 0 := by
  rw [List.getD_eq_getElem?_getD, List.getD_eq_getElem?_getD, List.getElem?_set_ne n]
theorem isB_isG {s t : Stp} (h : s.isB = true) : (s.isG && t.isG) = false := by cases s <;> first | rfl | cases h
theorem act_comm {S : LS} {g : Bool} {s t : Stp} (hs : s.isB = true → 0 ≤ s.arg) (ht : t.isB = true → 0 ≤ t.arg) (ap : apartS s t = true) : (S.act (!g) t).act g s = (S.act g s).act (!g) t := by
  have ng : g ≠ !g := by cases g <;> decide
  have nb : s.isB = true → t.isB = true → s.isS = true ∨ t.isS = true → s.arg.toNat ≠ t.arg.toNat := fun a b c e => by
    have h1 := hs a
    have h2 := ht b
    have e2 : s.arg = t.arg := by omega
    unfold apartS at ap
    rw [if_neg (by rw [isB_isG a]; exact Bool.false_ne_true), if_pos (by rw [a, b, decide_eq_true e2]; rfl)] at ap
    rcases c with c | c <;> rw [c] at ap <;> simp at ap
  cases s <;> cases t <;> first
    | (exfalso; revert ap; simp [apartS, Stp.isG]; done)
    | (simp only [LS.act, LS.box, upB_ne ng, upB_ne ng.symm, upB_comm ng]; done)
    | (simp only [LS.act, LS.box, upB_ne ng, upB_ne ng.symm, upB_comm ng.symm]; done)
    | (have q := nb rfl rfl (by simp [Stp.isS]); simp only [Stp.arg] at q; simp only [LS.act, LS.box, upB_ne ng, upB_ne ng.symm, getD_set_ne q, getD_set_ne q.symm, List.set_comm _ _ q]; done)
def LS.wpl (S : LS) (p : Bool → Nat) : LS := ⟨S.rows, S.boxes, S.num, p, S.hd⟩
theorem eff_wpl {S : LS} {g : Bool} {s : Stp} : S.eff g s = (S.act g s).wpl (upB S.pl g (S.pl g + 1)) := by
  show (⟨(S.act g s).rows, (S.act g s).boxes, (S.act g s).num, upB (S.act g s).pl g ((S.act g s).pl g + 1), (S.act g s).hd⟩ : LS) = _
  rw [act_pl]; rfl
theorem act_wpl {S : LS} {p : Bool → Nat} {g : Bool} {s : Stp} : (S.wpl p).act g s = (S.act g s).wpl p := by cases s <;> rfl
theorem eff_comm {S : LS} {g : Bool} {s t : Stp} (hs : s.isB = true → 0 ≤ s.arg) (ht : t.isB = true → 0 ≤ t.arg) (ap : apartS s t = true) : (S.eff (!g) t).eff g s = (S.eff g s).eff (!g) t := by
  have ng : g ≠ !g := by cases g <;> decide
  have e1 : (S.eff (!g) t).eff g s = ((S.act (!g) t).act g s).wpl (upB (upB S.pl (!g) (S.pl (!g) + 1)) g (S.pl g + 1)) := by
    rw [eff_wpl, eff_pl, eff_wpl, act_wpl, upB_ne ng]; rfl
  have e2 : (S.eff g s).eff (!g) t = ((S.act g s).act (!g) t).wpl (upB (upB S.pl g (S.pl g + 1)) (!g) (S.pl (!g) + 1)) := by
    rw [eff_wpl, eff_pl, eff_wpl, act_wpl, upB_ne ng.symm]; rfl
  rw [e1, e2, act_comm hs ht ap, upB_comm ng]
theorem errH_hd {hd : Option Bool} {g h : Bool} {s t : Stp} (ap : apartS s t = true) : errH (hdS hd g s) h t = errH hd h t := by
  cases s <;> cases t <;> first | rfl | (exfalso; revert ap; simp [apartS, Stp.isG]; done)
theorem LS.Ok.arg {S : LS} (o : S.Ok) {g : Bool} {s : Stp} (h : S.next g = some s) : s.isB = true → 0 ≤ s.arg := fun hB => by
  have := o.box g s (List.mem_of_getElem? h)
  unfold inBox at this
  rw [hB] at this
  simp at this
  exact this.1
/-- two neighbours that are apart, exchanged -/
theorem swap {S : LS} (o : S.Ok) {g : Bool} {s t : Stp} (hs : S.next g = some s) (ht : S.next (!g) = some t) (ap : apartS s t = true) (rest : List Bool) {T : LS} (r : S.run (g :: (!g) :: rest) = .ok T) : S.run ((!g) :: g :: rest) = .ok T := by
  have ng : g ≠ !g := by cases g <;> decide
  have e1 : S.err g = none := by
    cases h : S.err g with
    | none => rfl
    | some x => rw [run_err h] at r; cases r
  rw [run_ok e1 hs] at r
  have ht2 : (S.eff g s).next (!g) = some t := by rw [eff_next_ne ng.symm]; exact ht
  have hs2 : (S.eff (!g) t).next g = some s := by rw [eff_next_ne ng]; exact hs
  have e2 : (S.eff g s).err (!g) = none := by
    cases h : (S.eff g s).err (!g) with
    | none => rfl
    | some x => rw [run_err h] at r; cases r
  rw [run_ok e2 ht2] at r
  have f1 : S.err (!g) = none := by rw [err_some ht2, eff_hdS, errH_hd ap] at e2; rw [err_some ht]; exact e2
  have f2 : (S.eff (!g) t).err g = none := by rw [err_some hs2, eff_hdS, errH_hd (by rw [apartS_comm]; exact ap)]; rw [err_some hs] at e1; exact e1
  rw [run_ok f1 ht, run_ok f2 hs2, eff_comm (o.arg hs) (o.arg ht) ap]
  exact r
theorem run_append : ∀ {a b : List Bool} {S : LS}, S.run (a ++ b) = match S.run a with | .ok T => T.run b | .error e => .error e
  | [], b, S => rfl
  | g :: a, b, S => by
    cases h : S.err g with
    | some e => rw [List.cons_append, run_err h, run_err h]
    | none =>
      obtain ⟨s, hs⟩ := err_next h
      rw [List.cons_append, run_ok h hs, run_ok h hs]
      exact run_append
theorem run_Ok : ∀ {hs : List Bool} {S T : LS}, S.Ok → S.run hs = .ok T → T.Ok
  | [], S, T, o, h => by cases h; exact o
  | g :: hs, S, T, o, h => by
    cases hx : S.err g with
    | some x => rw [run_err hx] at h; cases h
    | none =>
      obtain ⟨s, hs'⟩ := err_next hx
      rw [run_ok hx hs'] at h
      exact run_Ok (o.eff hs') h
end G
namespace G
open PySem PySem.Spec PyProof.Rows L2
/-! ### promises -/
theorem useNeT {H : Hp} {Q : VK} {a : Stp} (q : Q (.bl (!a.isT)) H) : rNe (.str a.word) (.str "take") H Q := vNe rfl (by rw [word_isT]; exact q)
def spStepG : Sp := fun vs H Q _ => ∃ (c many : Int) (held : Bool), vs = [.int c, .int many, .bl held] ∧ Bt c ∧ 0 < many ∧ ∀ s p H', Made H H' many p s → altOk held s = true → Q (.ref p) H'
theorem useStepG {H : Hp} {Q : VK} {E : XK} {c many : Int} {held : Bool} (h1 : Bt c) (h2 : 0 < many) (k : ∀ s p H', Made H H' many p s → altOk held s = true → Q (.ref p) H') : spStepG [.int c, .int many, .bl held] H Q E := ⟨c, many, held, rfl, h1, h2, k⟩
def spRowG8 (K : PySem.W.Frag) : Sp := fun vs H Q _ => ∃ (a : Addr) (ns : List Int) (st : Int) (n : Nat) (many : Int), vs = [.ref a, .int st, .int n, .int many] ∧ SqL K H a (ns.map V.int) ∧ (∀ z ∈ ns, Builtin.Int.intBits z ≤ 1048576) ∧ 0 ≤ st ∧ n ≤ 60 ∧ 0 < many ∧
  ∀ p ps rs H', rs.length = n → (∀ s ∈ rs, inBox many s = true) → alt false rs = true → Fre H p → Kp [] H H' → RowAt H' p ps rs → Q (.ref p) H'
theorem useRowG8 {K : PySem.W.Frag} {H : Hp} {Q : VK} {E : XK} {a : Addr} {ns : List Int} {st m many : Int} (n : Nat) (em : m = (n : Int)) (h1 : SqL K H a (ns.map V.int)) (h2 : ∀ z ∈ ns, Builtin.Int.intBits z ≤ 1048576) (h3 : 0 ≤ st) (h4 : n ≤ 60) (h5 : 0 < many)
    (k : ∀ p ps rs H', rs.length = n → (∀ s ∈ rs, inBox many s = true) → alt false rs = true → Fre H p → Kp [] H H' → RowAt H' p ps rs → Q (.ref p) H') : spRowG8 K [.ref a, .int st, .int m, .int many] H Q E := by
  subst em
  exact ⟨a, ns, st, n, many, rfl, h1, h2, h3, h4, h5, k⟩
theorem canB_eq {S : LS} {g : Bool} : (match S.next g with | none => false | some s => !s.isT || decide (S.hd = none)) = canB S g := rfl
theorem useCanB {H : Hp} {Q : VK} {E : XK} {A : SA} {S : LS} {g : Bool} (L : StandAt H A S) (o : S.Ok) (k : ∀ H', Kp [] H H' → Q (.bl (canB S g)) H') : spCan [.ref A.p, .int (hI g)] H Q E := useCan L o k
def spSame : Sp := fun vs H Q _ => ∃ (a0 a1 b o : Addr) (p0 p1 : List Addr) (r0 r1 : List Stp) (bs : List Int) (hs : List Bool) (A : SA) (S : LS), vs = [.ref a0, .ref a1, .ref b, .ref o, .ref A.p] ∧ RowAt H a0 p0 r0 ∧ RowAt H a1 p1 r1 ∧ H b = some (.lst (bs.map V.int)) ∧ H o = some (.lst (hs2V hs)) ∧ (LS.start (two r0 r1) bs).Ok ∧ StandAt H A S ∧ S.boxes.length ≤ 100 ∧ (LS.start (two r0 r1) bs).run hs = .ok S ∧ ∀ H', Kp [] H H' → Q (.bl true) H'
theorem useSame {H : Hp} {Q : VK} {E : XK} {a0 a1 b o : Addr} {p0 p1 : List Addr} {r0 r1 : List Stp} {bs : List Int} {hs : List Bool} {A : SA} {S : LS} (R0 : RowAt H a0 p0 r0) (R1 : RowAt H a1 p1 r1) (hb : H b = some (.lst (bs.map V.int))) (ho : H o = some (.lst (hs2V hs))) (so : (LS.start (two r0 r1) bs).Ok) (L : StandAt H A S) (lb : S.boxes.length ≤ 100) (r : (LS.start (two r0 r1) bs).run hs = .ok S)
    (k : ∀ H', Kp [] H H' → Q (.bl true) H') : spSame [.ref a0, .ref a1, .ref b, .ref o, .ref A.p] H Q E := ⟨a0, a1, b, o, p0, p1, r0, r1, bs, hs, A, S, rfl, R0, R1, hb, ho, so, L, lb, r, k⟩
/-- range(j), j perhaps below nought -/
theorem vrForRz {σ : St} {H : Hp} {n b c : St → Hp → Prop} {r : VK} {t : TS} {g : TG} {j : Int} (h1 : -1000 ≤ j) (h2 : j ≤ 1000000) (Pv : Nat → St → Hp → Prop) (h0 : Pv 0 σ H)
    (hs : ∀ (i : Nat) σ H, i < j.toNat → Pv i σ H → g (.int (i : Int)) σ H fun σ2 H2 => t ⟨Pv (i + 1), r, n, Pv (i + 1)⟩ σ2 H2) (hd : ∀ σ H, Pv j.toNat σ H → n σ H) : rForR g t ⟨n, r, b, c⟩ σ [.int j] H := by
  refine ⟨j, rfl, by omega, by omega, ?_⟩
  exact for_range (lo := 0) (n := j.toNat) (D := ⟨n, r, b, c⟩) Pv h0 (fun i σ H hi p => by rw [Int.zero_add]; exact hs i σ H hi p) hd
theorem cutV_lo {xs : List V} {k : Nat} (h : k ≤ xs.length) : cutV xs none (some (k : Int)) = xs.take k := by
  unfold cutV
  rw [HT.sIx_nat, HT.sIx_none, List.drop_zero, Nat.sub_zero, Nat.min_eq_left h]
theorem cutV_hi {xs : List V} {k : Nat} (h : k ≤ xs.length) : cutV xs (some (k : Int)) none = xs.drop k := by
  unfold cutV
  rw [HT.sIx_nat, HT.sIx_none, Nat.min_eq_left h]
  exact List.take_of_length_le (by rw [List.length_drop]; omega)
/-- the steps that an order does, by its places -/
def TraceOf (S0 : LS) (hs : List Bool) (ss : List Stp) : Prop := ss.length = hs.length ∧ ∀ (k : Nat) (g : Bool), hs[k]? = some g → ∃ Sk, S0.run (hs.take k) = .ok Sk ∧ Sk.next g = ss[k]?
theorem TraceOf.nil {S0 : LS} : TraceOf S0 [] [] := ⟨rfl, fun k g h => by simp at h⟩
theorem TraceOf.snoc {S0 S : LS} {hs : List Bool} {ss : List Stp} (t : TraceOf S0 hs ss) {g : Bool} {s : Stp} (r : S0.run hs = .ok S) (hn : S.next g = some s) : TraceOf S0 (hs ++ [g]) (ss ++ [s]) := by
  refine ⟨by simp [t.1], fun k h hk => ?_⟩
  by_cases q : k < hs.length
  · rw [List.getElem?_append_left q] at hk
    obtain ⟨Sk, a, b⟩ := t.2 k h hk
    exact ⟨Sk, by rw [List.take_append_of_le_length (by omega)]; exact a, by rw [List.getElem?_append_left (by rw [t.1]; exact q)]; exact b⟩
  · have hl := (List.getElem?_eq_some_iff.mp hk).1
    rw [List.length_append, List.length_singleton] at hl
    have ek : k = hs.length := by omega
    subst ek
    have e : g = h := by simpa using hk
    subst e
    exact ⟨S, by rw [List.take_left]; exact r, by rw [hn, ← t.1]; simp⟩
/-- the order with two neighbours exchanged -/
theorem TraceOf.turned {S0 S : LS} {hs : List Bool} {ss : List Stp} (t : TraceOf S0 hs ss) (o : S0.Ok) (r : S0.run hs = .ok S) {k : Nat} {g h : Bool} {s u : Stp} (h1 : hs[k]? = some g) (h2 : hs[k + 1]? = some h) (n : g ≠ h) (s1 : ss[k]? = some s) (s2 : ss[k + 1]? = some u) (ap : apartS s u = true) :
    S0.run (hs.take k ++ [h, g] ++ hs.drop (k + 2)) = .ok S := by
  have eh : h = !g := by cases g <;> cases h <;> simp_all
  subst eh
  obtain ⟨Sk, a, b⟩ := t.2 k g h1
  obtain ⟨Sl, a2, b2⟩ := t.2 (k + 1) (!g) h2
  rw [s1] at b
  rw [s2] at b2
  have e1 : hs = hs.take k ++ g :: (!g) :: hs.drop (k + 2) := by
    conv => lhs; rw [← List.take_append_drop k hs]
    rw [drop_get h1, drop_get h2]
  have r2 := r
  rw [e1, run_append, a] at r2
  replace r2 : Sk.run (g :: (!g) :: hs.drop (k + 2)) = .ok S := r2
  have ht : hs.take (k + 1) = hs.take k ++ [g] := by rw [List.take_add_one, h1]; rfl
  rw [ht, run_append, a] at a2
  have e0 : Sk.err g = none := by
    cases x : Sk.err g with
    | none => rfl
    | some y => rw [run_err x] at r2; cases r2
  have a3 : Sk.run [g] = .ok Sl := a2
  rw [run_ok e0 b] at a3
  cases a3
  rw [eff_next_ne (by cases g <;> decide)] at b2
  have := swap (run_Ok o a) b b2 ap (hs.drop (k + 2)) r2
  rw [List.append_assoc, run_append, a]
  exact this
end G
namespace G
open PySem PySem.Spec PyProof.Rows L2
/-- what the loop over an order's cells keeps -/
structure LedC (r0 r1 : List Stp) (bs : List Int) (hs : List Bool) (S : LS) : Prop where
  o : S.Ok
  alt : Alt S
  rows : S.rows = two r0 r1
  box : S.boxes.length = bs.length
  run : (LS.start (two r0 r1) bs).run hs = .ok S
theorem LedC.init {r0 r1 : List Stp} {bs : List Int} (o : (LS.start (two r0 r1) bs).Ok) (h0 : G.alt false r0 = true) (h1 : G.alt false r1 = true) : LedC r0 r1 bs [] (LS.start (two r0 r1) bs) := ⟨o, Alt.start h0 h1, rfl, rfl, rfl⟩
theorem LedC.go {r0 r1 : List Stp} {bs : List Int} {hs : List Bool} {S : LS} (d : LedC r0 r1 bs hs S) {g : Bool} {s : Stp} (x : S.err g = none) (hn : S.next g = some s) : LedC r0 r1 bs (hs ++ [g]) (S.eff g s) :=
  ⟨d.o.eff hn, d.alt.eff x hn, by rw [eff_rows]; exact d.rows, by rw [eff_boxes]; exact d.box, by rw [run_snoc g d.run, run_one, stepE_ok x hn]⟩
theorem nin_zofp {Z O x : Addr} {A : SA} (hz : x ≠ Z) (h : x ∉ O :: A.fp) : x ∉ Z :: O :: A.fp := nin_cons hz h
theorem kp_zo {Z O : Addr} {A : SA} {H H1 H2 : Hp} (p : Kp (Z :: O :: A.fp) H H1) (k : Kp [O] H1 H2) : Kp (Z :: O :: A.fp) H H2 := p.step k fun a h => by
  have e : a = O := by simpa using h
  rw [e]; exact .inl (by simp)
theorem kp_zz {Z O : Addr} {A : SA} {H H1 H2 : Hp} (p : Kp (Z :: O :: A.fp) H H1) (k : Kp [Z] H1 H2) : Kp (Z :: O :: A.fp) H H2 := p.step k fun a h => by
  have e : a = Z := by simpa using h
  rw [e]; exact .inl (by simp)
theorem kp_zs {Z O : Addr} {A : SA} {H H1 H2 : Hp} (p : Kp (Z :: O :: A.fp) H H1) (k : Kp A.fp H1 H2) : Kp (Z :: O :: A.fp) H H2 := p.step k fun a h => .inl (List.mem_cons_of_mem _ (List.mem_cons_of_mem _ h))
theorem OrdAp.fwdN {O : Addr} {A : SA} (d : OrdAp O A) {W : List Addr} {H H' : Hp} {o : HO} (k : Kp A.fp H H') (h : H O = some o) : H' O = some o := k.get h d.nin
end G
namespace G
open PySem PySem.Spec PyProof.Rows L2
theorem at_hs {hs : List Bool} {i : Nat} {g : Bool} (h : hs[i]? = some g) : atI (hs2V hs) (i : Int) = some (.int (hI g)) := at_of rfl (by unfold hs2V; rw [List.getElem?_map, h]; rfl)
theorem at_ps {ps : List Addr} {i : Nat} {p : Addr} (h : ps[i]? = some p) : atI (ps.map V.ref) (i : Int) = some (.ref p) := at_of rfl (by rw [List.getElem?_map, h]; rfl)
theorem hs2V_take {hs : List Bool} {i : Nat} : (hs2V hs).take i = hs2V (hs.take i) := by unfold hs2V; rw [List.map_take]
theorem hs2V_drop {hs : List Bool} {i : Nat} : (hs2V hs).drop i = hs2V (hs.drop i) := by unfold hs2V; rw [List.map_drop]
theorem hs2V_app {a b : List Bool} : hs2V a ++ hs2V b = hs2V (a ++ b) := by unfold hs2V; rw [List.map_append]
theorem StpsAt.get {H : Hp} {ps : List Addr} {rs : List Stp} (r : StpsAt H ps rs) {i : Nat} (h : i < rs.length) : ∃ p s, ps[i]? = some p ∧ rs[i]? = some s ∧ H p = some (.tup s.enc) := by
  have hp : i < ps.length := by rw [r.n]; exact h
  exact ⟨ps[i], rs[i], List.getElem?_eq_getElem hp, List.getElem?_eq_getElem h, r.e i _ _ (List.getElem?_eq_getElem hp) (List.getElem?_eq_getElem h)⟩
end G

namespace G
open PySem PySem.Spec PyProof.Rows L2
/-! ### rows that free the guard at their end: always one can go on -/
def Rel (S : LS) : Prop := ∀ h, heldBy (decide (S.hd = some h)) ((S.rows h).drop (S.pl h)) = false
theorem hd_keep {S : LS} {g k : Bool} {s : Stp} (a : Alt S) (e : S.err g = none) (h : S.next g = some s) (q : k ≠ g) : decide (hdS S.hd g s = some k) = decide (S.hd = some k) := by
  rw [err_some h] at e
  have ek : k = !g := by cases k <;> cases g <;> simp_all
  cases s with
  | take =>
    have n2 : ¬ S.hd = some k := by
      intro z
      unfold errH at e
      dsimp only at e
      rw [if_pos (by rw [← ek]; exact z)] at e
      cases e
    rw [decide_eq_false n2]
    exact decide_eq_false fun z => q (Option.some.inj z).symm
  | free =>
    have n2 : ¬ S.hd = some k := by
      intro z
      unfold errH at e
      dsimp only at e
      rw [if_neg (by rw [z]; intro y; exact q (Option.some.inj y))] at e
      cases e
    rw [decide_eq_false n2]
    rfl
  | _ => rfl
theorem Rel.eff {S : LS} (r : Rel S) (a : Alt S) {g : Bool} {s : Stp} (e : S.err g = none) (h : S.next g = some s) : Rel (S.eff g s) := fun k => by
  rw [eff_rows, eff_pl, eff_hdS]
  by_cases q : k = g
  · subst q
    rw [upB_same]
    have h2 := r k
    rw [drop_next h, heldBy_cons] at h2
    have : decide (hdS S.hd k s = some k) = heldS (decide (S.hd = some k)) s := by cases s <;> first | rfl | simp [hdS, heldS]
    rw [this]; exact h2
  · rw [upB_ne q, hd_keep a e h q]
    exact r k
theorem Rel.start {r0 r1 : List Stp} {bs : List Int} (h0 : heldBy false r0 = false) (h1 : heldBy false r1 = false) : Rel (LS.start (two r0 r1) bs) := fun h => by
  cases h
  · exact h0
  · exact h1
theorem canB_no {S : LS} {g : Bool} {s : Stp} (h : S.next g = some s) (c : canB S g = false) : s = .take ∧ S.hd ≠ none := by
  unfold canB at c
  rw [h] at c
  cases s <;> simp [Stp.isT] at c
  exact ⟨rfl, c⟩
theorem progress {S : LS} (a : Alt S) (r : Rel S) (c : ∀ h, canB S h = false) (h : Bool) : S.next h = none := by
  cases e : S.next h with
  | none => rfl
  | some s =>
    exfalso
    obtain ⟨rfl, hn⟩ := canB_no e (c h)
    have h1 := (a.ok e).1
    have n1 : S.hd ≠ some h := fun z => by rw [decide_eq_true z] at h1; cases h1
    have hd : S.hd = some (!h) := hd_other hn n1
    have r2 := r (!h)
    rw [decide_eq_true hd] at r2
    cases e2 : S.next (!h) with
    | none =>
      have : (S.rows (!h)).drop (S.pl (!h)) = [] := List.drop_eq_nil_of_le (List.getElem?_eq_none_iff.mp e2)
      rw [this] at r2
      cases r2
    | some t =>
      obtain ⟨rfl, _⟩ := canB_no e2 (c (!h))
      have h3 := (a.ok e2).1
      rw [decide_eq_true hd] at h3
      cases h3
def left (S : LS) : Nat := ((S.rows false).length - S.pl false) + ((S.rows true).length - S.pl true)
theorem left_eff {S : LS} {g : Bool} {s : Stp} (h : S.next g = some s) : left (S.eff g s) + 1 = left S := by
  have hl := next_lt h
  unfold left
  rw [eff_rows, eff_pl]
  cases g
  · rw [upB_same, upB_ne (by decide)]; omega
  · rw [upB_same, upB_ne (by decide)]; omega
theorem left_zero {S : LS} (h : left S = 0) (o : S.Ok) (g : Bool) : S.pl g = (S.rows g).length := by
  unfold left at h
  have h0 := o.pl false
  have h1 := o.pl true
  cases g <;> omega
theorem next_zero {S : LS} (h : left S = 0) (o : S.Ok) (g : Bool) : S.next g = none := by
  rw [next_none o]
  exact decide_eq_true (left_zero h o g)
theorem left_next {S : LS} (o : S.Ok) (h : ∀ g, S.next g = none) : left S = 0 := by
  have h0 := of_decide_eq_true ((next_none o).mp (h false))
  have h1 := of_decide_eq_true ((next_none o).mp (h true))
  unfold left
  omega
theorem run_left : ∀ {hs : List Bool} {S T : LS}, S.run hs = .ok T → T.rows = S.rows ∧ left T + hs.length = left S
  | [], S, T, h => by cases h; exact ⟨rfl, rfl⟩
  | g :: hs, S, T, h => by
    cases hx : S.err g with
    | some x => rw [run_err hx] at h; cases h
    | none =>
      obtain ⟨s, hs'⟩ := err_next hx
      rw [run_ok hx hs'] at h
      obtain ⟨a, b⟩ := run_left h
      have := left_eff hs'
      exact ⟨a.trans (eff_rows S g s), by rw [List.length_cons]; omega⟩
theorem run_take {hs : List Bool} {S T : LS} (k : Nat) (h : S.run hs = .ok T) : ∃ T', S.run (hs.take k) = .ok T' := by
  rw [← List.take_append_drop k hs, run_append] at h
  cases e : S.run (hs.take k) with
  | ok T' => exact ⟨T', rfl⟩
  | error x => rw [e] at h; cases h
/-! ### the steps of an order that can be done -/
theorem byOrd_run : ∀ {hs : List Bool} {S T : LS} (acc : List (Bool × Stp)) (rest : List Bool), S.run hs = .ok T → ∃ tr, tr.length = hs.length ∧ byOrd S.rows S.pl acc (hs ++ rest) = byOrd S.rows T.pl (acc ++ tr) rest
  | [], S, T, acc, rest, h => by cases h; exact ⟨[], rfl, by rw [List.append_nil]; rfl⟩
  | g :: hs, S, T, acc, rest, h => by
    cases hx : S.err g with
    | some x => rw [run_err hx] at h; cases h
    | none =>
      obtain ⟨s, hs'⟩ := err_next hx
      rw [run_ok hx hs'] at h
      obtain ⟨tr, l, e⟩ := byOrd_run (acc ++ [(g, s)]) rest h
      rw [eff_rows, eff_pl] at e
      refine ⟨(g, s) :: tr, by simp [l], ?_⟩
      rw [List.cons_append, byOrd_some (show (S.rows g)[S.pl g]? = some s from hs'), e, List.append_assoc]
      rfl
theorem byOrd_all {hs : List Bool} {S T : LS} (h : S.run hs = .ok T) : ∃ acc, byOrd S.rows S.pl [] hs = some acc ∧ acc.length = hs.length := by
  obtain ⟨tr, l, e⟩ := byOrd_run [] [] h
  rw [List.append_nil, List.nil_append] at e
  exact ⟨tr, e, l⟩
theorem byOrd_more {hs : List Bool} {S T : LS} (h : S.run hs = .ok T) (g : Bool) (n : T.next g = none) : byOrd S.rows S.pl [] (hs ++ [g]) = none := by
  obtain ⟨tr, l, e⟩ := byOrd_run [] [g] h
  rw [e]
  have hr := (run_left h).1
  exact byOrd_none (by rw [← hr]; exact n)
/-! ### an order in which one hand is not ahead tells what the plain one tells -/
theorem byOrd_acc : ∀ {hs : List Bool} {rows : Bool → List Stp} {pl : Bool → Nat} {acc : List (Bool × Stp)}, byOrd rows pl acc hs = (byOrd rows pl [] hs).map (acc ++ ·)
  | [], rows, pl, acc => by simp [byOrd]
  | g :: hs, rows, pl, acc => by
    cases e : (rows g)[pl g]? with
    | none => rw [byOrd_none e, byOrd_none e]; rfl
    | some s =>
      rw [byOrd_some e, byOrd_some e, byOrd_acc (acc := acc ++ [(g, s)]), byOrd_acc (acc := [] ++ [(g, s)])]
      cases byOrd rows (upB pl g (pl g + 1)) [] hs <;> simp
theorem ahd_cons {acc : List (Bool × Stp)} {x : Bool × Stp} {h : Bool} (n : ¬ Ahd (x :: acc) h) : ¬ Ahd acc h ∧ ∀ y ∈ acc, x.1 = h → ¬ hit x y := by
  refine ⟨fun ⟨i, j, y, z, a, b, c, e⟩ => n ⟨i + 1, j + 1, y, z, by simpa using a, by simpa using b, by omega, e⟩, fun y hy e hh => ?_⟩
  obtain ⟨j, hj⟩ := List.mem_iff_getElem?.mp hy
  exact n ⟨0, j + 1, x, y, rfl, by simpa using hj, by omega, e, hh⟩
/-- b's step is put behind a steps of the other hand -/
theorem move : ∀ (a : Nat) {S T : LS} {b : Bool} {s : Stp} {B : List Bool}, S.Ok → S.next b = some s → (∀ i, i < a → ∀ t, (S.rows (!b))[S.pl (!b) + i]? = some t → apartS s t = true) → S.run (b :: (List.replicate a (!b) ++ B)) = .ok T → S.run (List.replicate a (!b) ++ b :: B) = .ok T
  | 0, S, T, b, s, B, o, hs, ap, r => r
  | a + 1, S, T, b, s, B, o, hs, ap, r => by
    have e1 : S.err b = none := by
      cases h : S.err b with
      | none => rfl
      | some x => rw [run_err h] at r; cases r
    have r2 := r
    rw [List.replicate_succ, List.cons_append] at r2 ⊢
    have r3 := r2
    rw [run_ok e1 hs] at r3
    have nb : (!b) ≠ b := by cases b <;> decide
    have nb2 : b ≠ !b := by cases b <;> decide
    cases ht : S.next (!b) with
    | none =>
      have : (S.eff b s).next (!b) = none := by rw [eff_next_ne nb]; exact ht
      rw [run_err (err_none this)] at r3
      cases r3
    | some t =>
      have apt : apartS s t = true := ap 0 (by omega) t (by rw [Nat.add_zero]; exact ht)
      have r4 := swap o hs ht apt _ r2
      have e2 : S.err (!b) = none := by
        cases h : S.err (!b) with
        | none => rfl
        | some x => rw [run_err h] at r4; cases r4
      rw [run_ok e2 ht] at r4 ⊢
      refine move a (o.eff ht) (by rw [eff_next_ne nb2]; exact hs) (fun i hi u hu => ?_) r4
      rw [eff_rows, eff_pl, upB_same] at hu
      exact ap (i + 1) (by omega) u (by rw [← hu]; congr 1; omega)
theorem byOrd_mem : ∀ {hs : List Bool} {rows : Bool → List Stp} {pl : Bool → Nat} {acc : List (Bool × Stp)} {h : Bool} {i : Nat} {t : Stp}, byOrd rows pl [] hs = some acc → i < hs.count h → (rows h)[pl h + i]? = some t → (h, t) ∈ acc
  | [], rows, pl, acc, h, i, t, e, hi, ht => by simp at hi
  | g :: hs, rows, pl, acc, h, i, t, e, hi, ht => by
    cases q : (rows g)[pl g]? with
    | none => rw [byOrd_none q] at e; cases e
    | some s =>
      rw [byOrd_some q, byOrd_acc] at e
      cases e2 : byOrd rows (upB pl g (pl g + 1)) [] hs with
      | none => rw [e2] at e; cases e
      | some acc' =>
        rw [e2] at e
        have ea : (g, s) :: acc' = acc := by simpa using e
        subst ea
        by_cases hg : h = g
        · subst hg
          cases i with
          | zero =>
            rw [Nat.add_zero, q] at ht
            cases ht
            exact List.mem_cons_self
          | succ i =>
            rw [List.count_cons_self] at hi
            refine List.mem_cons_of_mem _ (byOrd_mem e2 (i := i) (by omega) ?_)
            rw [upB_same, ← ht]; congr 1; omega
        · rw [List.count_cons_of_ne (fun z => hg z.symm)] at hi
          refine List.mem_cons_of_mem _ (byOrd_mem e2 hi ?_)
          rw [upB_ne hg]; exact ht
theorem sort : ∀ {hs : List Bool} {S T : LS} {b : Bool} {acc : List (Bool × Stp)}, S.Ok → S.run hs = .ok T → byOrd S.rows S.pl [] hs = some acc → ¬ Ahd acc b → S.run (List.replicate (hs.count (!b)) (!b) ++ List.replicate (hs.count b) b) = .ok T
  | [], S, T, b, acc, o, r, ac, n => r
  | g :: hs, S, T, b, acc, o, r, ac, n => by
    have e1 : S.err g = none := by
      cases h : S.err g with
      | none => rfl
      | some x => rw [run_err h] at r; cases r
    obtain ⟨s, hs'⟩ := err_next e1
    have r2 := r
    rw [run_ok e1 hs'] at r2
    rw [byOrd_some (show (S.rows g)[S.pl g]? = some s from hs'), byOrd_acc] at ac
    cases e : byOrd S.rows (upB S.pl g (S.pl g + 1)) [] hs with
    | none => rw [e] at ac; cases ac
    | some acc' =>
      rw [e] at ac
      have ea : (g, s) :: acc' = acc := by simpa using ac
      subst ea
      obtain ⟨n1, n2⟩ := ahd_cons n
      have ih := sort (b := b) (o.eff hs') r2 (by rw [eff_rows, eff_pl]; exact e) n1
      by_cases q : g = b
      · subst q
        have c1 : (g :: hs).count (!g) = hs.count (!g) := by rw [List.count_cons_of_ne (by cases g <;> decide)]
        have c2 : (g :: hs).count g = hs.count g + 1 := List.count_cons_self
        rw [c1, c2, List.replicate_succ]
        refine move _ o hs' (fun i hi t ht => ?_) (by rw [run_ok e1 hs']; exact ih)
        have hm : ((!g), t) ∈ acc' := byOrd_mem e hi (by rw [upB_ne (by cases g <;> decide)]; exact ht)
        have := n2 _ hm rfl
        cases hap : apartS s t with
        | true => rfl
        | false => exact absurd ⟨(by intro z; cases g <;> cases z), hap⟩ this
      · have eg : g = !b := by cases g <;> cases b <;> simp_all
        subst eg
        have c1 : ((!b) :: hs).count (!b) = hs.count (!b) + 1 := List.count_cons_self
        have c2 : ((!b) :: hs).count b = hs.count b := by rw [List.count_cons_of_ne (by cases b <;> decide)]
        rw [c1, c2, List.replicate_succ, List.cons_append, run_ok e1 hs']
        exact ih
end G
namespace G
open PySem PySem.Spec PyProof.Rows L2
/-! ### promises -/
def spRowG9 : Sp := fun vs H Q _ => ∃ (a : Addr) (cs : List Int) (many : Int), vs = [.ref a, .int many] ∧ H a = some (.lst (cs.map V.int)) ∧ cs.length ≤ 59 ∧ (∀ c ∈ cs, Bt c) ∧ 0 < many ∧
  ∀ p ps rs H', rs.length ≤ cs.length + 1 → (∀ s ∈ rs, inBox many s = true) → alt false rs = true → heldBy false rs = false → Fre H p → Kp [] H H' → RowAt H' p ps rs → Q (.ref p) H'
theorem useRowG9 {H : Hp} {Q : VK} {E : XK} {a : Addr} {cs : List Int} {many : Int} (h1 : H a = some (.lst (cs.map V.int))) (h2 : cs.length ≤ 59) (h3 : ∀ c ∈ cs, Bt c) (h4 : 0 < many)
    (k : ∀ p ps rs H', rs.length ≤ cs.length + 1 → (∀ s ∈ rs, inBox many s = true) → alt false rs = true → heldBy false rs = false → Fre H p → Kp [] H H' → RowAt H' p ps rs → Q (.ref p) H') : spRowG9 [.ref a, .int many] H Q E := ⟨a, cs, many, rfl, h1, h2, h3, h4, k⟩
def spOrder9 : Sp := fun vs H Q _ => ∃ (c : Addr) (cs : List Int) (ev : Int) (A : SA) (r0 r1 : List Stp) (bs : List Int), vs = [.ref c, .int ev, .ref A.p] ∧ H c = some (.lst (cs.map V.int)) ∧ cs.length ≤ 63 ∧ 0 < ev ∧ StandAt H A (LS.start (two r0 r1) bs) ∧ c ∉ A.fp ∧ (LS.start (two r0 r1) bs).Ok ∧ alt false r0 = true ∧ alt false r1 = true ∧ heldBy false r0 = false ∧ heldBy false r1 = false ∧
  ∀ O hs S H', LedC r0 r1 bs hs S → (∀ g, S.next g = none) → Fre H O → Kp A.fp H H' → StandAt H' A S → H' O = some (.lst (hs2V hs)) → Q (.ref O) H'
def spLawAhead9 : Sp := fun vs H Q _ => ∃ (a0 a1 o R : Addr) (p0 p1 : List Addr) (r0 r1 : List Stp) (hs : List Bool) (acc : List (Bool × Stp)), vs = [.ref o, .ref R] ∧ H R = some (.lst [.ref a0, .ref a1]) ∧ RowAt H a0 p0 r0 ∧ RowAt H a1 p1 r1 ∧ H o = some (.lst (hs2V hs)) ∧ hs.length ≤ 200 ∧ byOrd (two r0 r1) (fun _ => 0) [] hs = some acc ∧
  (∀ (f : Bool → Bool) F H', (∀ h, f h = true ↔ Ahd acc h) → Fre H F → Kp [] H H' → H' F = some (.lst [.bl (f false), .bl (f true)]) → Q (.ref F) H')
def spPair : Sp := fun vs H Q _ => ∃ (p F : Addr) (f g : Bool → Bool), vs = [.ref p, .ref F] ∧ H p = some (.tup [.bl (f false), .bl (f true)]) ∧ H F = some (.lst [.bl (g false), .bl (g true)]) ∧ (∀ h, f h = g h) ∧ Q (.bl true) H
theorem usePair {H : Hp} {Q : VK} {E : XK} {p F : Addr} {f g : Bool → Bool} (h1 : H p = some (.tup [.bl (f false), .bl (f true)])) (h2 : H F = some (.lst [.bl (g false), .bl (g true)])) (h3 : ∀ h, f h = g h) (k : Q (.bl true) H) : spPair [.ref p, .ref F] H Q E := ⟨p, F, f, g, rfl, h1, h2, h3, k⟩
def spMore : Sp := fun vs H Q _ => ∃ (a0 a1 o : Addr) (p0 p1 : List Addr) (r0 r1 : List Stp) (hs : List Bool), vs = [.ref a0, .ref a1, .ref o] ∧ RowAt H a0 p0 r0 ∧ RowAt H a1 p1 r1 ∧ H o = some (.lst (hs2V hs)) ∧ hs.length ≤ 200 ∧ byOrd (two r0 r1) (fun _ => 0) [] hs = none ∧ ∀ H', Kp [] H H' → Q (.bl true) H'
theorem hs_count {r0 r1 : List Stp} {bs : List Int} : ∀ {hs : List Bool} {S T : LS} (g : Bool), S.run hs = .ok T → T.pl g = S.pl g + hs.count g
  | [], S, T, g, h => by cases h; simp
  | x :: hs, S, T, g, h => by
    cases hx : S.err x with
    | some e => rw [run_err hx] at h; cases h
    | none =>
      obtain ⟨s, hs'⟩ := err_next hx
      rw [run_ok hx hs'] at h
      rw [hs_count (r0 := r0) (r1 := r1) (bs := bs) g h, eff_pl]
      by_cases q : g = x
      · subst q; rw [upB_same, List.count_cons_self]; omega
      · rw [upB_ne q, List.count_cons_of_ne (fun z => q z.symm)]
/-- the plain order of two whole rows -/
theorem plain_of {r0 r1 : List Stp} {bs : List Int} {hs : List Bool} {T : LS} {b : Bool} {acc : List (Bool × Stp)} (o : (LS.start (two r0 r1) bs).Ok) (d : LedC r0 r1 bs hs T) (e : ∀ g, T.next g = none) (ac : byOrd (two r0 r1) (fun _ => 0) [] hs = some acc) (n : ¬ Ahd acc b) :
    (LS.start (two r0 r1) bs).run (List.replicate (two r0 r1 (!b)).length (!b) ++ List.replicate (two r0 r1 b).length b) = .ok T := by
  have := sort (b := b) o d.run ac n
  have c : ∀ g, hs.count g = (two r0 r1 g).length := fun g => by
    have h1 := hs_count (r0 := r0) (r1 := r1) (bs := bs) g d.run
    have h2 := of_decide_eq_true ((next_none d.o).mp (e g))
    rw [d.rows] at h2
    rw [← h2, h1]
    show _ = 0 + _
    omega
  rw [c, c] at this
  exact this
end G
namespace G
open PySem PySem.Spec PyProof.Rows L2
/-- what is left of a plain order, row by row -/
def restP (R : Bool → List Stp) (ld : Bool) : Nat → List Bool
  | 0 => List.replicate (R ld).length ld ++ List.replicate (R (!ld)).length (!ld)
  | 1 => List.replicate (R (!ld)).length (!ld)
  | _ => []
theorem restP_step {R : Bool → List Stp} {ld : Bool} {i : Nat} {x : V} (h : [V.int (hI ld), V.int (1 - hI ld)][i]? = some x) : ∃ g, x = .int (hI g) ∧ restP R ld i = List.replicate (R g).length g ++ restP R ld (i + 1) := by
  match i, h with
  | 0, h => cases h; exact ⟨ld, rfl, rfl⟩
  | 1, h => cases h; exact ⟨!ld, by rw [hI_not], by simp [restP]⟩
  | i + 2, h => simp at h
/-- a stand of one's own on its way through a plain order -/
structure PlainAt (H : Hp) (A : SA) (R : Bool → List Stp) (n : Nat) (T : LS) (rest : List Bool) (S : LS) : Prop where
  L : StandAt H A S
  o : S.Ok
  rows : S.rows = R
  box : S.boxes.length = n
  run : S.run rest = .ok T
theorem PlainAt.keep0 {H H' : Hp} {A : SA} {R : Bool → List Stp} {n : Nat} {T S : LS} {rest : List Bool} (p : PlainAt H A R n T rest S) (k : Kp [] H H') : PlainAt H' A R n T rest S := ⟨p.L.keep0 k, p.o, p.rows, p.box, p.run⟩
theorem PlainAt.err {H : Hp} {A : SA} {R : Bool → List Stp} {n : Nat} {T S : LS} {g : Bool} {rest : List Bool} (p : PlainAt H A R n T (g :: rest) S) : S.err g = none := by
  cases h : S.err g with
  | none => rfl
  | some x => have := p.run; rw [run_err h] at this; cases this
theorem PlainAt.go {H H' : Hp} {A : SA} {R : Bool → List Stp} {n : Nat} {T S : LS} {g : Bool} {rest : List Bool} (p : PlainAt H A R n T (g :: rest) S) {s : Stp} (hn : S.next g = some s) (L : StandAt H' A (S.eff g s)) : PlainAt H' A R n T rest (S.eff g s) :=
  ⟨L, p.o.eff hn, by rw [eff_rows]; exact p.rows, by rw [eff_boxes]; exact p.box, by rw [← run_ok p.err hn]; exact p.run⟩
theorem PlainAt.done {H : Hp} {A : SA} {R : Bool → List Stp} {n : Nat} {T S : LS} (p : PlainAt H A R n T [] S) : S = T := by
  have := p.run
  cases this
  rfl
end G

namespace G
open PySem PySem.Spec PyProof.Rows L2
/-! ### weaving by turns -/
def goesB (S : LS) (g : Bool) : Bool := !S.over g && !S.waits g
theorem goes_next {S : LS} (o : S.Ok) {g : Bool} (h : goesB S g = true) : ∃ s, S.next g = some s ∧ S.err g = S.gErr g s := by
  unfold goesB at h
  rw [Bool.and_eq_true] at h
  obtain ⟨s, hs⟩ := next_some (S := S) o (h := g) (by simpa using h.1)
  exact ⟨s, hs, err_g hs (by simpa using h.2)⟩
theorem gErr2 {S : LS} {g : Bool} {s : Stp} {e : Err} (h : S.gErr g s = some e) : e = .again ∨ e = .notHeld := by
  cases s <;> simp only [LS.gErr] at h <;> (try cases h)
  · split at h
    · cases h; exact .inl rfl
    · cases h
  · split at h
    · cases h
    · cases h; exact .inr rfl
/-- a hand goes on as far as it can -/
inductive Far : LS → Bool → List Bool → Except Err (LS × List Bool) → Prop
  | stop {S : LS} {h : Bool} {o : List Bool} : goesB S h = false → Far S h o (.ok (S, o))
  | err {S : LS} {h : Bool} {o : List Bool} {e : Err} : goesB S h = true → S.err h = some e → Far S h o (.error e)
  | go {S : LS} {h : Bool} {o : List Bool} {s : Stp} {r : Except Err (LS × List Bool)} : goesB S h = true → S.err h = none → S.next h = some s → Far (S.eff h s) h (o ++ [h]) r → Far S h o r
/-- the first hand, then the second one, and so on -/
inductive Rounds : LS → List Bool → Except Err (LS × List Bool) → Prop
  | done {S : LS} {o : List Bool} : S.over false = true → S.over true = true → Rounds S o (.ok (S, o))
  | stuck {S : LS} {o : List Bool} : (S.over false && S.over true) = false → goesB S false = false → goesB S true = false → Rounds S o (.error .stuck)
  | err0 {S : LS} {o : List Bool} {e : Err} : (goesB S false || goesB S true) = true → Far S false o (.error e) → Rounds S o (.error e)
  | err1 {S S1 : LS} {o o1 : List Bool} {e : Err} : (goesB S false || goesB S true) = true → Far S false o (.ok (S1, o1)) → Far S1 true o1 (.error e) → Rounds S o (.error e)
  | step {S S1 S2 : LS} {o o1 o2 : List Bool} {r : Except Err (LS × List Bool)} : (goesB S false || goesB S true) = true → Far S false o (.ok (S1, o1)) → Far S1 true o1 (.ok (S2, o2)) → Rounds S2 o2 r → Rounds S o r
/-- the turns, then the rounds -/
inductive Weave : LS → List Bool → List Bool → Except Err (LS × List Bool) → Prop
  | rest {S : LS} {o : List Bool} {r : Except Err (LS × List Bool)} : Rounds S o r → Weave S o [] r
  | pass {S : LS} {o : List Bool} {h : Bool} {ts : List Bool} {r : Except Err (LS × List Bool)} : goesB S h = false → Weave S o ts r → Weave S o (h :: ts) r
  | err {S : LS} {o : List Bool} {h : Bool} {ts : List Bool} {e : Err} : goesB S h = true → S.err h = some e → Weave S o (h :: ts) (.error e)
  | go {S : LS} {o : List Bool} {h : Bool} {ts : List Bool} {s : Stp} {r : Except Err (LS × List Bool)} : goesB S h = true → S.err h = none → S.next h = some s → Weave (S.eff h s) (o ++ [h]) ts r → Weave S o (h :: ts) r
theorem Far.det {S : LS} {h : Bool} {o : List Bool} {r : Except Err (LS × List Bool)} (f : Far S h o r) : ∀ {r'}, Far S h o r' → r = r' := by
  induction f with
  | stop g => intro r' f'; cases f' with
    | stop _ => rfl
    | err g' _ => rw [g] at g'; cases g'
    | go g' _ _ _ => rw [g] at g'; cases g'
  | err g e => intro r' f'; cases f' with
    | stop g' => rw [g] at g'; cases g'
    | err _ e' => rw [e] at e'; cases e'; rfl
    | go _ e' _ _ => rw [e] at e'; cases e'
  | go g e n _ ih => intro r' f'; cases f' with
    | stop g' => rw [g] at g'; cases g'
    | err _ e' => rw [e] at e'; cases e'
    | go _ _ n' f' => rw [n] at n'; cases n'; exact ih f'
theorem over_goes {S : LS} {g : Bool} (h : S.over g = true) : goesB S g = false := by unfold goesB; rw [h]; rfl
theorem Rounds.det {S : LS} {o : List Bool} {r : Except Err (LS × List Bool)} (f : Rounds S o r) : ∀ {r'}, Rounds S o r' → r = r' := by
  induction f with
  | @done S o a b =>
    intro r' f'
    have g0 := over_goes a
    have g1 := over_goes b
    cases f' with
    | done _ _ => rfl
    | stuck a' _ _ => rw [a, b] at a'; cases a'
    | err0 g _ => rw [g0, g1] at g; cases g
    | err1 g _ _ => rw [g0, g1] at g; cases g
    | step g _ _ _ => rw [g0, g1] at g; cases g
  | @stuck S o a g0 g1 =>
    intro r' f'
    cases f' with
    | done a' b' => rw [a', b'] at a; cases a
    | stuck _ _ _ => rfl
    | err0 g _ => rw [g0, g1] at g; cases g
    | err1 g _ _ => rw [g0, g1] at g; cases g
    | step g _ _ _ => rw [g0, g1] at g; cases g
  | @err0 S o e g f0 =>
    intro r' f'
    cases f' with
    | done a b => rw [over_goes a, over_goes b] at g; cases g
    | stuck _ g0 g1 => rw [g0, g1] at g; cases g
    | err0 _ f0' => exact (by cases f0.det f0'; rfl)
    | err1 _ f0' _ => cases f0.det f0'
    | step _ f0' _ _ => cases f0.det f0'
  | @err1 S S1 o o1 e g f0 f1 =>
    intro r' f'
    cases f' with
    | done a b => rw [over_goes a, over_goes b] at g; cases g
    | stuck _ g0 g1 => rw [g0, g1] at g; cases g
    | err0 _ f0' => cases f0.det f0'
    | err1 _ f0' f1' => cases f0.det f0'; cases f1.det f1'; rfl
    | step _ f0' f1' _ => cases f0.det f0'; cases f1.det f1'
  | @step S S1 S2 o o1 o2 r g f0 f1 _ ih =>
    intro r' f'
    cases f' with
    | done a b => rw [over_goes a, over_goes b] at g; cases g
    | stuck _ g0 g1 => rw [g0, g1] at g; cases g
    | err0 _ f0' => cases f0.det f0'
    | err1 _ f0' f1' => cases f0.det f0'; cases f1.det f1'
    | step _ f0' f1' f2' => cases f0.det f0'; cases f1.det f1'; exact ih f2'
theorem Weave.det {S : LS} {o ts : List Bool} {r : Except Err (LS × List Bool)} (f : Weave S o ts r) : ∀ {r'}, Weave S o ts r' → r = r' := by
  induction f with
  | rest f => intro r' f'; cases f' with
    | rest f' => exact f.det f'
  | pass g _ ih => intro r' f'; cases f' with
    | pass _ f' => exact ih f'
    | err g' _ => rw [g] at g'; cases g'
    | go g' _ _ _ => rw [g] at g'; cases g'
  | err g e => intro r' f'; cases f' with
    | pass g' _ => rw [g] at g'; cases g'
    | err _ e' => rw [e] at e'; cases e'; rfl
    | go _ e' _ _ => rw [e] at e'; cases e'
  | go g e n _ ih => intro r' f'; cases f' with
    | pass g' _ => rw [g] at g'; cases g'
    | err _ e' => rw [e] at e'; cases e'
    | go _ _ n' f' => rw [n] at n'; cases n'; exact ih f'
/-- what is done by going far: the order is as much longer as the rest is shorter -/
theorem Far.len {S : LS} {h : Bool} {o : List Bool} {r : Except Err (LS × List Bool)} (f : Far S h o r) : ∀ {S1 o1}, r = .ok (S1, o1) → G.left S1 + o1.length = G.left S + o.length ∧ o.length ≤ o1.length ∧ (goesB S h = true → o.length < o1.length) := by
  induction f with
  | stop g => intro S1 o1 e; cases e; exact ⟨rfl, Nat.le_refl _, fun g' => by rw [g] at g'; cases g'⟩
  | err g e => intro S1 o1 e'; cases e'
  | go g e n _ ih =>
    intro S1 o1 e'
    obtain ⟨a, b, _⟩ := ih e'
    have hl := left_eff n
    rw [List.length_append, List.length_singleton] at a b
    exact ⟨by omega, by omega, fun _ => by omega⟩
theorem over_of {S : LS} (o : S.Ok) {g : Bool} (h : left S = 0) : S.over g = true := decide_eq_true (left_zero h o g)
theorem over_left {S : LS} (h0 : S.over false = true) (h1 : S.over true = true) : left S = 0 := by
  have a := of_decide_eq_true h0
  have b := of_decide_eq_true h1
  unfold left
  omega
/-! ### promises -/
def spGoes (C : Addr) : Sp := fun vs H Q _ => ∃ (A : LA) (S : LS) (g : Bool), vs = [.ref A.p, .int (hI g)] ∧ LoomAt C H A S ∧ S.Ok ∧ Q (.bl (goesB S g)) H
theorem useGoes {C : Addr} {H : Hp} {Q : VK} {E : XK} {A : LA} {S : LS} {g : Bool} (L : LoomAt C H A S) (o : S.Ok) (k : Q (.bl (goesB S g)) H) : spGoes C [.ref A.p, .int (hI g)] H Q E := ⟨A, S, g, rfl, L, o, k⟩
theorem useGoes0 {C : Addr} {H : Hp} {Q : VK} {E : XK} {A : LA} {S : LS} (L : LoomAt C H A S) (o : S.Ok) (k : Q (.bl (goesB S false)) H) : spGoes C [.ref A.p, .int 0] H Q E := useGoes (g := false) L o k
theorem useGoes1 {C : Addr} {H : Hp} {Q : VK} {E : XK} {A : LA} {S : LS} (L : LoomAt C H A S) (o : S.Ok) (k : Q (.bl (goesB S true)) H) : spGoes C [.ref A.p, .int 1] H Q E := useGoes (g := true) L o k
def spWoven (er : Err → Addr) : Sp := fun vs H Q E => ∃ (a0 a1 b t : Addr) (x0 x1 : List V) (c0 c1 : List Thg) (bs : List Int) (ts : List Bool), vs = [.ref a0, .ref a1, .ref b, .ref t] ∧ H a0 = some (.lst x0) ∧ H a1 = some (.lst x1) ∧ ThRow H x0 c0 ∧ ThRow H x1 c1 ∧ H b = some (.lst (bs.map V.int)) ∧ H t = some (.lst (hs2V ts)) ∧
  (∀ e H', loomErr c0 c1 bs.length = some e → Kp [] H H' → E (.ref (er e)) none H') ∧
  (loomErr c0 c1 bs.length = none → ∀ r0 r1, c0 = r0.map (fun s => some s.enc) → c1 = r1.map (fun s => some s.enc) → (LS.start (two r0 r1) bs).Ok →
    (∀ e H', Weave (LS.start (two r0 r1) bs) [] ts (.error e) → (e = .again ∨ e = .notHeld ∨ e = .stuck) → Kp [] H H' → E (.ref (er e)) none H') ∧
    (∀ S o p l n w H', Weave (LS.start (two r0 r1) bs) [] ts (.ok (S, o)) → S.boxes.length = bs.length → o.length ≤ 120 → Fre H p → Fre H l → Fre H n → Fre H w → l ≠ n → l ≠ w → n ≠ w → Kp [] H H' → H' p = some (.tup [.ref l, .ref n, .ref w]) → H' l = some (.lst (S.boxes.map V.int)) → H' n = some (.lst [.int (S.num false), .int (S.num true)]) → H' w = some (.lst (hs2V o)) → Q (.ref p) H'))
theorem useWoven {er : Err → Addr} {H : Hp} {Q : VK} {E : XK} {a0 a1 b t : Addr} {p0 p1 : List Addr} {r0 r1 : List Stp} {bs : List Int} {ts : List Bool} (R0 : RowAt H a0 p0 r0) (R1 : RowAt H a1 p1 r1) (hb : H b = some (.lst (bs.map V.int))) (ht : H t = some (.lst (hs2V ts))) (k : (LS.start (two r0 r1) bs).Ok)
    (ke : ∀ e H', Weave (LS.start (two r0 r1) bs) [] ts (.error e) → (e = .again ∨ e = .notHeld ∨ e = .stuck) → Kp [] H H' → E (.ref (er e)) none H')
    (kq : ∀ S o p l n w H', Weave (LS.start (two r0 r1) bs) [] ts (.ok (S, o)) → S.boxes.length = bs.length → o.length ≤ 120 → Fre H p → Fre H l → Fre H n → Fre H w → l ≠ n → l ≠ w → n ≠ w → Kp [] H H' → H' p = some (.tup [.ref l, .ref n, .ref w]) → H' l = some (.lst (S.boxes.map V.int)) → H' n = some (.lst [.int (S.num false), .int (S.num true)]) → H' w = some (.lst (hs2V o)) → Q (.ref p) H') :
    spWoven er [.ref a0, .ref a1, .ref b, .ref t] H Q E :=
  ⟨a0, a1, b, t, _, _, _, _, bs, ts, rfl, R0.l, R1.l, R0.th, R1.th, hb, ht, fun e H' he _ => absurd (he.symm.trans ((loomErr_1 (c1 := r1.map fun s => some s.enc) (show needC (r0.map fun s => some s.enc) bs.length = none from ok_needC k false)).trans (ok_needC k true))) (by intro z; cases z), fun _ q0 q1 e0 e1 _ => by
    have f0 := rows_inj e0
    have f1 := rows_inj e1
    subst f0 f1
    exact ⟨ke, kq⟩⟩
/-- a loom that is led on, its order beside it -/
structure LoomO (C : Addr) (H0 H : Hp) (A : LA) (O : Addr) (rows : Bool → List Stp) (n : Nat) (S : LS) (o : List Bool) : Prop where
  kp : Kp (O :: A.fp) H0 H
  L : LoomAt C H A S
  ok : S.Ok
  ord : H O = some (.lst (hs2V o))
  rws : S.rows = rows
  box : S.boxes.length = n
  len : left S + o.length ≤ 120
theorem LoomO.hz {C : Addr} {H0 H : Hp} {A : LA} {O : Addr} {rows : Bool → List Stp} {n : Nat} {S : LS} {o : List Bool} (l : LoomO C H0 H A O rows n S o) : (hs2V o).length < sizeLine := len_lt (by rw [hs2V_len]; have := l.len; omega)
/-- a step more, and its hand in the order -/
theorem LoomO.go {C : Addr} {H0 H H1 H2 : Hp} {A : LA} {O : Addr} {rows : Bool → List Stp} {n : Nat} {S : LS} {o : List Bool} (l : LoomO C H0 H A O rows n S o) (dO : O ∉ A.fp) (dr : ∀ x, x = A.p ∨ x = A.r ∨ x = A.b ∨ x = A.n ∨ x = A.q ∨ x = A.row false ∨ x = A.row true → x ≠ O) {g : Bool} {s : Stp} (hn : S.next g = some s) (k : Kp A.fp H H1) (L : LoomAt C H1 A (S.eff g s)) (k2 : Kp [O] H1 H2) (e : H2 O = some (.lst (hs2V o ++ [.int (hI g)]))) : LoomO C H0 H2 A O rows n (S.eff g s) (o ++ [g]) := by
  have nn : ∀ {x}, x ≠ O → x ∉ [O] := fun {x} h => by simpa using h
  refine ⟨(l.kp.step k fun a h => .inl (List.mem_cons_of_mem _ h)).step k2 fun a h => ?_, L.keep k2 (nn (dr _ (by simp))) (nn (dr _ (by simp))) (fun h => by cases h <;> exact nn (dr _ (by simp))) (nn (dr _ (by simp))) (nn (dr _ (by simp))) (nn (dr _ (by simp))), l.ok.eff hn, by rw [← hs2V_snoc]; exact e, by rw [eff_rows]; exact l.rws, by rw [eff_boxes]; exact l.box, ?_⟩
  · have e : a = O := by simpa using h
    rw [e]; exact .inl List.mem_cons_self
  · have := l.len
    have := left_eff hn
    rw [List.length_append, List.length_singleton]
    omega
/-- what may follow -/
def Fol (S0 : LS) (ts : List Bool) (S : LS) (o : List Bool) : Prop := ∀ r, Rounds S o r → Weave S0 [] ts r
def Fol1 (S0 : LS) (ts : List Bool) (S : LS) (o : List Bool) : Prop := (∀ e, Far S true o (.error e) → Weave S0 [] ts (.error e)) ∧ ∀ S2 o2, Far S true o (.ok (S2, o2)) → Fol S0 ts S2 o2
def FolX (S0 : LS) (ts : List Bool) : Nat → LS → List Bool → Prop
  | 0, S, o => (∀ e, Far S false o (.error e) → Weave S0 [] ts (.error e)) ∧ ∀ S2 o2, Far S false o (.ok (S2, o2)) → Fol1 S0 ts S2 o2
  | 1, S, o => Fol1 S0 ts S o
  | _, S, o => Fol S0 ts S o
theorem FolX.of {S0 S : LS} {ts o : List Bool} (f : Fol S0 ts S o) (g : (goesB S false || goesB S true) = true) : FolX S0 ts 0 S o :=
  ⟨fun e h => f _ (.err0 g h), fun S1 o1 h => ⟨fun e h1 => f _ (.err1 g h h1), fun S2 o2 h1 r hr => f r (.step g h h1 hr)⟩⟩
/-- at hand i: the ends of going far -/
theorem FolX.far {S0 S : LS} {ts o : List Bool} {i : Nat} {g : Bool} (hi : (i = 0 ∧ g = false) ∨ (i = 1 ∧ g = true)) (f : FolX S0 ts i S o) : (∀ e, Far S g o (.error e) → Weave S0 [] ts (.error e)) ∧ ∀ S2 o2, Far S g o (.ok (S2, o2)) → FolX S0 ts (i + 1) S2 o2 := by
  rcases hi with ⟨rfl, rfl⟩ | ⟨rfl, rfl⟩
  · exact f
  · exact f
def FarF (S0 : LS) (ts : List Bool) (i : Nat) (g : Bool) (S : LS) (o : List Bool) : Prop := (∀ e, Far S g o (.error e) → Weave S0 [] ts (.error e)) ∧ ∀ S2 o2, Far S g o (.ok (S2, o2)) → FolX S0 ts (i + 1) S2 o2
theorem FarF.go {S0 S : LS} {ts o : List Bool} {i : Nat} {g : Bool} (f : FarF S0 ts i g S o) (h : goesB S g = true) (e : S.err g = none) {s : Stp} (n : S.next g = some s) : FarF S0 ts i g (S.eff g s) (o ++ [g]) := ⟨fun x hx => f.1 x (.go h e n hx), fun S2 o2 h2 => f.2 S2 o2 (.go h e n h2)⟩
theorem FarF.stop {S0 S : LS} {ts o : List Bool} {i : Nat} {g : Bool} (f : FarF S0 ts i g S o) (h : goesB S g = false) : FolX S0 ts (i + 1) S o := f.2 S o (.stop h)
theorem FarF.err {S0 S : LS} {ts o : List Bool} {i : Nat} {g : Bool} (f : FarF S0 ts i g S o) (h : goesB S g = true) {e : Err} (x : S.err g = some e) : Weave S0 [] ts (.error e) := f.1 e (.err h x)
end G
namespace G
open PySem PySem.Spec PyProof.Rows L2
theorem whTest {tc : TT} {σ : St} {H : Hp} {F : Bool → Hp → Prop} (b : Bool) (h : ∀ G : Bool → Hp → Prop, G b H → tc σ H G) (k : F b H) : tc σ H F := h F k
theorem LoomO.keep0 {C : Addr} {H0 H H1 : Hp} {A : LA} {O : Addr} {rows : Bool → List Stp} {n : Nat} {S : LS} {o : List Bool} (l : LoomO C H0 H A O rows n S o) (k : Kp [] H H1) : LoomO C H0 H1 A O rows n S o := ⟨l.kp.step0 k, l.L.keep0 k, l.ok, k.get0 l.ord, l.rws, l.box, l.len⟩
/-- what a round has done so far -/
def Prog (S : LS) (o : List Bool) : Nat → LS → List Bool → Prop
  | 0, S', o' => S' = S ∧ o' = o
  | 1, S', o' => o.length < o'.length ∨ (S' = S ∧ o' = o ∧ goesB S true = true)
  | _, S', o' => o.length < o'.length
theorem Prog.next {S S1 S2 : LS} {o o1 o2 : List Bool} {i : Nat} {g : Bool} (hi : (i = 0 ∧ g = false) ∨ (i = 1 ∧ g = true)) (hg : (goesB S false || goesB S true) = true) (p : Prog S o i S1 o1) (hend : goesB S2 g = false) (h : (S2 = S1 ∧ o2 = o1) ∨ o1.length < o2.length) : Prog S o (i + 1) S2 o2 := by
  rcases hi with ⟨rfl, rfl⟩ | ⟨rfl, rfl⟩
  · obtain ⟨rfl, rfl⟩ := p
    rcases h with ⟨rfl, rfl⟩ | h
    · rw [hend] at hg
      exact .inr ⟨rfl, rfl, hg⟩
    · exact .inl h
  · rcases p with p | ⟨rfl, rfl, g1⟩
    · rcases h with ⟨rfl, rfl⟩ | h
      · exact p
      · exact (Nat.lt_trans p h : o.length < o2.length)
    · rcases h with ⟨rfl, rfl⟩ | h
      · rw [hend] at g1; cases g1
      · exact h
theorem hand01 {i : Nat} {x : V} (h : [V.int 0, V.int 1][i]? = some x) : ∃ g, x = .int (hI g) ∧ ((i = 0 ∧ g = false) ∨ (i = 1 ∧ g = true)) := by
  match i, h with
  | 0, h => cases h; exact ⟨false, rfl, .inl ⟨rfl, rfl⟩⟩
  | 1, h => cases h; exact ⟨true, rfl, .inr ⟨rfl, rfl⟩⟩
  | i + 2, h => simp at h
end G

namespace G
open PySem PySem.Spec PyProof.Rows L2
/-! ### weaving rows that go by turns and free the guard: it ends, and the order can be done -/
theorem goes_err {S : LS} (a : Alt S) (o : S.Ok) {g : Bool} (h : goesB S g = true) : S.err g = none := by
  obtain ⟨s, hs, e⟩ := goes_next o h
  rw [e]
  have ak := (a.ok hs).1
  cases s with
  | take =>
    have n1 : S.hd ≠ some g := fun z => by rw [decide_eq_true z] at ak; cases ak
    exact if_neg n1
  | free => exact if_pos (of_decide_eq_true ak)
  | _ => rfl
theorem goes_can {S : LS} (a : Alt S) (o : S.Ok) {g : Bool} (h : goesB S g = false) : canB S g = false := by
  cases c : canB S g with
  | false => rfl
  | true =>
    obtain ⟨s, hs⟩ := canB_next c
    have e := a.can.mp c
    have hv : S.over g = false := by
      cases v : S.over g with
      | false => rfl
      | true => rw [(next_none o).mpr v] at hs; cases hs
    have hw : S.waits g = false := by
      cases w : S.waits g with
      | false => rfl
      | true => rw [err_waits hs w] at e; cases e
    unfold goesB at h
    rw [hv, hw] at h
    cases h
theorem Alt.runA : ∀ {hs : List Bool} {S T : LS}, Alt S → S.run hs = .ok T → Alt T
  | [], S, T, a, h => by cases h; exact a
  | g :: hs, S, T, a, h => by
    cases hx : S.err g with
    | some x => rw [run_err hx] at h; cases h
    | none =>
      obtain ⟨s, hs'⟩ := err_next hx
      rw [run_ok hx hs'] at h
      exact Alt.runA (a.eff hx hs') h
theorem Rel.runR : ∀ {hs : List Bool} {S T : LS}, Rel S → Alt S → S.run hs = .ok T → Rel T
  | [], S, T, r, a, h => by cases h; exact r
  | g :: hs, S, T, r, a, h => by
    cases hx : S.err g with
    | some x => rw [run_err hx] at h; cases h
    | none =>
      obtain ⟨s, hs'⟩ := err_next hx
      rw [run_ok hx hs'] at h
      exact Rel.runR (r.eff a hx hs') (a.eff hx hs') h
theorem Far.run {S : LS} {h : Bool} {o : List Bool} {r : Except Err (LS × List Bool)} (f : Far S h o r) : Alt S → S.Ok → ∃ S1 o1, r = .ok (S1, o ++ o1) ∧ S.run o1 = .ok S1 := by
  induction f with
  | @stop S h o g => intro a ok; exact ⟨S, [], by rw [List.append_nil], rfl⟩
  | err g e => intro a ok; rw [goes_err a ok g] at e; cases e
  | @go S h o s r g e n _ ih =>
    intro a ok
    obtain ⟨S1, o1, e1, e2⟩ := ih (a.eff e n) (ok.eff n)
    exact ⟨S1, h :: o1, by rw [e1, List.append_assoc]; rfl, by rw [run_ok e n]; exact e2⟩
theorem run_app {S T U : LS} {a b : List Bool} (h1 : S.run a = .ok T) (h2 : T.run b = .ok U) : S.run (a ++ b) = .ok U := by
  rw [run_append, h1]; exact h2
theorem Rounds.run {S : LS} {o : List Bool} {r : Except Err (LS × List Bool)} (f : Rounds S o r) : Alt S → Rel S → S.Ok → ∃ S1 o1, r = .ok (S1, o ++ o1) ∧ S.run o1 = .ok S1 ∧ ∀ g, S1.next g = none := by
  induction f with
  | @done S o h0 h1 => intro a rl ok; exact ⟨S, [], by rw [List.append_nil], rfl, fun g => by cases g <;> exact (next_none ok).mpr (by assumption)⟩
  | @stuck S o hv g0 g1 =>
    intro a rl ok
    exfalso
    have pn := progress a rl fun h => by
      cases h
      · exact goes_can a ok g0
      · exact goes_can a ok g1
    rw [(next_none ok).mp (pn false), (next_none ok).mp (pn true)] at hv
    cases hv
  | err0 g f0 => intro a rl ok; obtain ⟨S1, o1, e, _⟩ := f0.run a ok; cases e
  | err1 g f0 f1 =>
    intro a rl ok
    obtain ⟨T1, p1, e, r1⟩ := f0.run a ok
    cases e
    obtain ⟨T2, p2, e, _⟩ := f1.run (a.runA r1) (run_Ok ok r1)
    cases e
  | step g f0 f1 _ ih =>
    intro a rl ok
    obtain ⟨T1, p1, e, r1⟩ := f0.run a ok
    cases e
    have a1 := a.runA r1
    have l1 := rl.runR a r1
    have k1 := run_Ok ok r1
    obtain ⟨T2, p2, e, r2⟩ := f1.run a1 k1
    cases e
    obtain ⟨S3, o3, e3, r3, n3⟩ := ih (a1.runA r2) (l1.runR a1 r2) (run_Ok k1 r2)
    exact ⟨S3, p1 ++ (p2 ++ o3), by rw [e3]; simp, run_app r1 (run_app r2 r3), n3⟩
theorem Weave.run {S : LS} {o ts : List Bool} {r : Except Err (LS × List Bool)} (f : Weave S o ts r) : Alt S → Rel S → S.Ok → ∃ S1 o1, r = .ok (S1, o ++ o1) ∧ S.run o1 = .ok S1 ∧ ∀ g, S1.next g = none := by
  induction f with
  | rest f => intro a rl ok; exact f.run a rl ok
  | pass g _ ih => intro a rl ok; exact ih a rl ok
  | err g e => intro a rl ok; rw [goes_err a ok g] at e; cases e
  | @go S o h ts s r g e n _ ih =>
    intro a rl ok
    obtain ⟨S1, o1, e1, r1, n1⟩ := ih (a.eff e n) (rl.eff a e n) (ok.eff n)
    exact ⟨S1, h :: o1, by rw [e1, List.append_assoc]; rfl, by rw [run_ok e n]; exact r1, n1⟩
/-! ### rows under the guard -/
/-- a step that is apart from all others -/
def ntr (s : Stp) : Prop := s.isG = false ∧ s.isB = false
theorem ntr_apart {s t : Stp} (h : ntr s) : apartS s t = true := by
  unfold apartS
  rw [h.1, h.2]; rfl
theorem ntr_apart' {s t : Stp} (h : ntr t) : apartS s t = true := by rw [apartS_comm]; exact ntr_apart h
structure GR (rs : List Stp) (a z : Nat) : Prop where
  lt : a < z
  tk : ∀ k, rs[k]? = some .take ↔ k = a
  fr : ∀ k, rs[k]? = some .free ↔ k = z
  nt : ∀ k s, rs[k]? = some s → k < a ∨ z < k → ntr s
theorem GR.mk' {bef mid beh : List Stp} (h1 : ∀ s ∈ bef, ntr s) (h2 : ∀ s ∈ mid, s.isG = false) (h3 : ∀ s ∈ beh, ntr s) : GR (bef ++ .take :: (mid ++ .free :: beh)) bef.length (bef.length + 1 + mid.length) := by
  have at_ : ∀ k s, (bef ++ Stp.take :: (mid ++ .free :: beh))[k]? = some s → (k < bef.length ∧ s ∈ bef) ∨ (k = bef.length ∧ s = .take) ∨ (bef.length < k ∧ k < bef.length + 1 + mid.length ∧ s ∈ mid) ∨ (k = bef.length + 1 + mid.length ∧ s = .free) ∨ (bef.length + 1 + mid.length < k ∧ s ∈ beh) := by
    intro k s h
    by_cases c1 : k < bef.length
    · rw [List.getElem?_append_left c1] at h
      exact .inl ⟨c1, List.mem_of_getElem? h⟩
    · rw [List.getElem?_append_right (by omega)] at h
      cases e : k - bef.length with
      | zero => rw [e] at h; exact .inr (.inl ⟨by omega, by simpa using h.symm⟩)
      | succ j =>
        rw [e, List.getElem?_cons_succ] at h
        by_cases c2 : j < mid.length
        · rw [List.getElem?_append_left c2] at h
          exact .inr (.inr (.inl ⟨by omega, by omega, List.mem_of_getElem? h⟩))
        · rw [List.getElem?_append_right (by omega)] at h
          cases e2 : j - mid.length with
          | zero => rw [e2] at h; exact .inr (.inr (.inr (.inl ⟨by omega, by simpa using h.symm⟩)))
          | succ i =>
            rw [e2, List.getElem?_cons_succ] at h
            exact .inr (.inr (.inr (.inr ⟨by omega, List.mem_of_getElem? h⟩)))
  refine ⟨by omega, fun k => ⟨fun h => ?_, fun h => ?_⟩, fun k => ⟨fun h => ?_, fun h => ?_⟩, fun k s h hk => ?_⟩
  · rcases at_ k _ h with ⟨_, q⟩ | ⟨q, _⟩ | ⟨_, _, q⟩ | ⟨_, q⟩ | ⟨_, q⟩
    · have := (h1 _ q).1; cases this
    · exact q
    · have := h2 _ q; cases this
    · cases q
    · have := (h3 _ q).1; cases this
  · subst h; simp
  · rcases at_ k _ h with ⟨_, q⟩ | ⟨_, q⟩ | ⟨_, _, q⟩ | ⟨q, _⟩ | ⟨_, q⟩
    · have := (h1 _ q).1; cases this
    · cases q
    · have := h2 _ q; cases this
    · exact q
    · have := (h3 _ q).1; cases this
  · subst h
    rw [List.getElem?_append_right (by omega), show bef.length + 1 + mid.length - bef.length = mid.length + 1 by omega, List.getElem?_cons_succ, List.getElem?_append_right (by omega), Nat.sub_self]
    rfl
  · rcases at_ k _ h with ⟨_, q⟩ | ⟨q, _⟩ | ⟨q1, q2, _⟩ | ⟨q, _⟩ | ⟨_, q⟩
    · exact h1 _ q
    · omega
    · omega
    · omega
    · exact h3 _ q
theorem alt_ng : ∀ {r : List Stp} {h : Bool} {t : List Stp}, (∀ s ∈ r, s.isG = false) → alt h (r ++ t) = alt h t ∧ heldBy h (r ++ t) = heldBy h t
  | [], h, t, _ => ⟨rfl, rfl⟩
  | s :: r, h, t, hr => by
    have hs := hr s List.mem_cons_self
    have := alt_ng (r := r) (h := h) (t := t) fun x hx => hr x (List.mem_cons_of_mem _ hx)
    rw [List.cons_append, alt_cons, heldBy_cons, heldS_N hs]
    have e : altOk h s = true := by cases s <;> first | rfl | cases hs
    rw [e, this.1, this.2]
    exact ⟨rfl, rfl⟩
theorem alt_guard {bef mid beh : List Stp} (h1 : ∀ s ∈ bef, ntr s) (h2 : ∀ s ∈ mid, s.isG = false) (h3 : ∀ s ∈ beh, ntr s) : alt false (bef ++ .take :: (mid ++ .free :: beh)) = true ∧ heldBy false (bef ++ .take :: (mid ++ .free :: beh)) = false := by
  obtain ⟨e1, e2⟩ := alt_ng (h := false) (t := .take :: (mid ++ .free :: beh)) fun s hs => (h1 s hs).1
  obtain ⟨e3, e4⟩ := alt_ng (h := true) (t := .free :: beh) h2
  obtain ⟨e5, e6⟩ := alt_ng (r := beh) (h := false) (t := []) fun s hs => (h3 s hs).1
  rw [List.append_nil] at e5 e6
  rw [e1, e2, alt_cons, heldBy_cons]
  show (altOk false .take && alt true (mid ++ .free :: beh)) = true ∧ heldBy true (mid ++ .free :: beh) = false
  rw [e3, e4, alt_cons, heldBy_cons]
  show (altOk false .take && (altOk true .free && alt false beh)) = true ∧ heldBy false beh = false
  rw [e5, e6]
  exact ⟨rfl, rfl⟩
/-! ### who takes the guard first -/
structure JJ (S : LS) (a z : Bool → Nat) : Prop where
  gr : ∀ h, GR (S.rows h) (a h) (z h)
  hd : ∀ h, S.hd = some h ↔ (a h < S.pl h ∧ S.pl h ≤ z h)
theorem JJ.eff {S : LS} {a z : Bool → Nat} (j : JJ S a z) {g : Bool} {s : Stp} (e : S.err g = none) (n : S.next g = some s) : JJ (S.eff g s) a z := by
  refine ⟨fun h => by rw [eff_rows]; exact j.gr h, fun h => ?_⟩
  rw [eff_pl, eff_hdS]
  rw [err_some n] at e
  have ng : (!g) ≠ g := by cases g <;> decide
  have hcase : h = g ∨ h = !g := by cases h <;> cases g <;> simp
  have jg := j.hd g
  have jn := j.hd (!g)
  have n' : (S.rows g)[S.pl g]? = some s := n
  have tk := (j.gr g).tk (S.pl g)
  have fr := (j.gr g).fr (S.pl g)
  have lt := (j.gr g).lt
  rw [n'] at tk fr
  cases s with
  | take =>
    have ek : S.pl g = a g := tk.mp rfl
    have hn : S.hd = none := by
      unfold errH at e
      dsimp only at e
      split at e
      · cases e
      · split at e
        · cases e
        · rename_i q1 q2
          cases hh : S.hd with
          | none => rfl
          | some b => rw [hh] at q1 q2; cases b <;> cases g <;> simp at q1 q2
    rcases hcase with rfl | rfl
    · rw [upB_same]; exact ⟨fun _ => by omega, fun _ => rfl⟩
    · rw [upB_ne ng, ← jn, hn]
      exact ⟨fun z => (ng (Option.some.inj z).symm).elim, fun z => by cases z⟩
  | free =>
    have ek : S.pl g = z g := fr.mp rfl
    have hs : S.hd = some g := by
      unfold errH at e
      dsimp only at e
      split at e
      · assumption
      · cases e
    rcases hcase with rfl | rfl
    · rw [upB_same]; exact ⟨fun q => (by cases q), fun q => by omega⟩
    · rw [upB_ne ng, ← jn, hs]
      exact ⟨fun q => (by cases q), fun q => (ng (Option.some.inj q).symm).elim⟩
  | _ =>
    have n1 : S.pl g ≠ a g := fun q => by have := tk.mpr q; cases this
    have n2 : S.pl g ≠ z g := fun q => by have := fr.mpr q; cases this
    show S.hd = some h ↔ _
    rcases hcase with rfl | rfl
    · rw [upB_same, jg]; exact ⟨fun q => by omega, fun q => by omega⟩
    · rw [upB_ne ng, jn]
theorem byOrd_idx : ∀ {hs : List Bool} {rows : Bool → List Stp} {pl : Bool → Nat} {acc : List (Bool × Stp)} {y : Bool × Stp}, byOrd rows pl [] hs = some acc → y ∈ acc → ∃ k, pl y.1 ≤ k ∧ (rows y.1)[k]? = some y.2
  | [], rows, pl, acc, y, e, hy => by cases e; cases hy
  | g :: hs, rows, pl, acc, y, e, hy => by
    cases q : (rows g)[pl g]? with
    | none => rw [byOrd_none q] at e; cases e
    | some s =>
      rw [byOrd_some q, byOrd_acc] at e
      cases e2 : byOrd rows (upB pl g (pl g + 1)) [] hs with
      | none => rw [e2] at e; cases e
      | some acc' =>
        rw [e2] at e
        have ea : (g, s) :: acc' = acc := by simpa using e
        subst ea
        rcases List.mem_cons.mp hy with rfl | hy
        · exact ⟨pl g, Nat.le_refl _, q⟩
        · obtain ⟨k, h1, h2⟩ := byOrd_idx e2 hy
          refine ⟨k, Nat.le_trans ?_ h1, h2⟩
          by_cases c : y.1 = g
          · rw [c, upB_same]; omega
          · rw [upB_ne c]; exact Nat.le_refl _
theorem ahd_cons_mk {acc : List (Bool × Stp)} {x : Bool × Stp} {h : Bool} (n : ¬ Ahd acc h) (m : ∀ y ∈ acc, x.1 = h → ¬ hit x y) : ¬ Ahd (x :: acc) h := by
  rintro ⟨i, j, y, z, a, b, c, e, hh⟩
  cases j with
  | zero => omega
  | succ j =>
    have b' : acc[j]? = some z := by simpa using b
    cases i with
    | zero =>
      have : x = y := by simpa using a
      subst this
      exact m z (List.mem_of_getElem? b') e hh
    | succ i => exact n ⟨i, j, y, z, by simpa using a, b', by omega, e, hh⟩
theorem nohit_l {x y : Bool × Stp} (h : ntr x.2) : ¬ hit x y := fun z => by have := z.2; rw [ntr_apart h] at this; cases this
theorem nohit_r {x y : Bool × Stp} (h : ntr y.2) : ¬ hit x y := fun z => by have := z.2; rw [ntr_apart' h] at this; cases this
/-- f has taken the guard, the other one not before f freed it -/
theorem after_take : ∀ {hs : List Bool} {S T : LS} {a z : Bool → Nat} {f : Bool} {acc : List (Bool × Stp)}, JJ S a z → a f < S.pl f → (a (!f) < S.pl (!f) → z f < S.pl f) → S.run hs = .ok T → byOrd S.rows S.pl [] hs = some acc → ¬ Ahd acc (!f)
  | [], S, T, a, z, f, acc, j, h1, h2, r, e => by cases e; exact ahd_nil
  | g :: hs, S, T, a, z, f, acc, j, h1, h2, r, e => by
    have e1 : S.err g = none := by
      cases h : S.err g with
      | none => rfl
      | some x => rw [run_err h] at r; cases r
    obtain ⟨s, hn⟩ := err_next e1
    rw [run_ok e1 hn] at r
    rw [byOrd_some (show (S.rows g)[S.pl g]? = some s from hn), byOrd_acc] at e
    cases e2 : byOrd S.rows (upB S.pl g (S.pl g + 1)) [] hs with
    | none => rw [e2] at e; cases e
    | some acc' =>
      rw [e2] at e
      have ea : (g, s) :: acc' = acc := by simpa using e
      subst ea
      have j' := j.eff e1 hn
      have nf : f ≠ !f := by cases f <;> decide
      have ha : a f < (S.eff g s).pl f := by
        rw [eff_pl]
        by_cases c : f = g
        · subst c; rw [upB_same]; omega
        · rw [upB_ne c]; exact h1
      have hb : a (!f) < (S.eff g s).pl (!f) → z f < (S.eff g s).pl f := by
        rw [eff_pl]
        by_cases c : g = f
        · subst c
          rw [upB_same, upB_ne nf.symm]
          intro q; have := h2 q; omega
        · have ec : g = !f := by cases g <;> cases f <;> simp_all
          subst ec
          rw [upB_same, upB_ne nf]
          intro q
          by_cases q2 : a (!f) < S.pl (!f)
          · exact h2 q2
          · have q3 : S.pl (!f) = a (!f) := by omega
            have tk := ((j.gr (!f)).tk (S.pl (!f))).mpr q3
            have es : s = .take := by
              have : (S.rows (!f))[S.pl (!f)]? = some s := hn
              rw [tk] at this; cases this; rfl
            subst es
            rw [err_some hn] at e1
            have hnf : S.hd ≠ some f := by
              intro y
              unfold errH at e1
              dsimp only at e1
              rw [Bool.not_not, if_pos y] at e1
              cases e1
            rw [Ne, j.hd f] at hnf
            omega
      refine ahd_cons_mk (after_take j' ha hb r (by rw [eff_rows, eff_pl]; exact e2)) fun y hy hg => ?_
      have hg : g = !f := hg
      subst hg
      by_cases crit : a (!f) ≤ S.pl (!f)
      · by_cases yf : y.1 = f
        · have hz : z f < (S.eff (!f) s).pl f := hb (by rw [eff_pl, upB_same]; omega)
          rw [eff_pl] at hz
          obtain ⟨k, k1, k2⟩ := byOrd_idx e2 hy
          rw [yf] at k1 k2
          exact nohit_r ((j.gr f).nt k y.2 k2 (.inr (by omega)))
        · intro hh
          apply hh.1
          show (!f) = y.1
          cases h : y.1 <;> cases f <;> simp_all
      · exact nohit_l ((j.gr (!f)).nt _ s hn (.inl (by omega)))
inductive FirstT (rows : Bool → List Stp) : (Bool → Nat) → List Bool → Bool → Prop
  | nil {pl : Bool → Nat} : FirstT rows pl [] false
  | here {pl : Bool → Nat} {g : Bool} {hs : List Bool} : (rows g)[pl g]? = some .take → FirstT rows pl (g :: hs) g
  | next {pl : Bool → Nat} {g f : Bool} {hs : List Bool} {s : Stp} : (rows g)[pl g]? = some s → s ≠ .take → FirstT rows (upB pl g (pl g + 1)) hs f → FirstT rows pl (g :: hs) f
theorem before_take : ∀ {hs : List Bool} {S T : LS} {a z : Bool → Nat} {f : Bool} {acc : List (Bool × Stp)}, JJ S a z → (∀ h, S.pl h ≤ a h) → S.run hs = .ok T → byOrd S.rows S.pl [] hs = some acc → FirstT S.rows S.pl hs f → ¬ Ahd acc (!f)
  | [], S, T, a, z, f, acc, j, hp, r, e, ft => by cases e; exact ahd_nil
  | g :: hs, S, T, a, z, f, acc, j, hp, r, e, ft => by
    have e1 : S.err g = none := by
      cases h : S.err g with
      | none => rfl
      | some x => rw [run_err h] at r; cases r
    obtain ⟨s, hn⟩ := err_next e1
    have hn' : (S.rows g)[S.pl g]? = some s := hn
    rw [run_ok e1 hn] at r
    rw [byOrd_some hn', byOrd_acc] at e
    cases e2 : byOrd S.rows (upB S.pl g (S.pl g + 1)) [] hs with
    | none => rw [e2] at e; cases e
    | some acc' =>
      rw [e2] at e
      have ea : (g, s) :: acc' = acc := by simpa using e
      subst ea
      have j' := j.eff e1 hn
      have e3 : byOrd (S.eff g s).rows (S.eff g s).pl [] hs = some acc' := by rw [eff_rows, eff_pl]; exact e2
      cases ft with
      | here ht =>
        have es : s = .take := by rw [hn'] at ht; cases ht; rfl
        subst es
        have ek := ((j.gr g).tk _).mp hn'
        have ng : (!g) ≠ g := by cases g <;> decide
        have hpn := hp (!g)
        refine ahd_cons_mk (after_take (f := g) j' (by rw [eff_pl, upB_same]; omega) (by rw [eff_pl, upB_ne ng]; intro q; omega) r e3) fun y hy hg => ?_
        exact absurd hg (by show g ≠ !g; exact ng.symm)
      | next hs' hne ft' =>
        rw [hn'] at hs'
        cases hs'
        have nk : S.pl g ≠ a g := fun q => hne (by have := ((j.gr g).tk _).mpr q; rw [hn'] at this; exact Option.some.inj this)
        have hpg := hp g
        refine ahd_cons_mk (before_take j' (fun h => ?_) r e3 (by rw [eff_rows, eff_pl]; exact ft')) fun y hy _ => nohit_l ((j.gr g).nt _ s hn' (.inl (by omega)))
        rw [eff_pl]
        by_cases c : h = g
        · subst c; rw [upB_same]; omega
        · rw [upB_ne c]; exact hp h
/-- where one row has neither boxes nor guard -/
theorem bare_ahd {hs : List Bool} {rows : Bool → List Stp} {pl : Bool → Nat} {acc : List (Bool × Stp)} {b : Bool} (hb : ∀ s ∈ rows b, ntr s) (e : byOrd rows pl [] hs = some acc) (h : Bool) : ¬ Ahd acc h := by
  rintro ⟨i, j, x, y, a, c, _, _, hh⟩
  obtain ⟨k1, _, h1⟩ := byOrd_idx e (List.mem_of_getElem? a)
  obtain ⟨k2, _, h2⟩ := byOrd_idx e (List.mem_of_getElem? c)
  by_cases xb : x.1 = b
  · rw [xb] at h1
    exact nohit_l (hb _ (List.mem_of_getElem? h1)) hh
  · have yb : y.1 = b := by
      have := hh.1
      cases hx : x.1 <;> cases hy : y.1 <;> cases b <;> simp_all
    rw [yb] at h2
    exact nohit_r (hb _ (List.mem_of_getElem? h2)) hh
end G
namespace G
open PySem PySem.Spec PyProof.Rows L2
theorem StpsAt.app {H : Hp} {ps qs : List Addr} {rs ss : List Stp} (a : StpsAt H ps rs) (b : StpsAt H qs ss) : StpsAt H (ps ++ qs) (rs ++ ss) := by
  refine ⟨by simp [a.n, b.n], fun i p s h1 h2 => ?_⟩
  by_cases hi : i < ps.length
  · rw [List.getElem?_append_left hi] at h1
    rw [List.getElem?_append_left (by rw [← a.n]; exact hi)] at h2
    exact a.e i p s h1 h2
  · rw [List.getElem?_append_right (by omega)] at h1
    rw [List.getElem?_append_right (by rw [← a.n]; omega), ← a.n] at h2
    exact b.e _ p s h1 h2
theorem StpsAt.one {H : Hp} {p : Addr} {s : Stp} (h : H p = some (.tup s.enc)) : StpsAt H [p] [s] := StpsAt.nil.push (W := []) Kp.refl h
theorem inBox_ntr {s : Stp} (h : ntr s) (m : Int) : inBox m s = true := by unfold inBox; rw [h.2]; rfl
theorem inBox_zero {s : Stp} (h : inBox 0 s = true) : s.isB = false := by
  unfold inBox at h
  cases e : s.isB with
  | false => rfl
  | true =>
    rw [e] at h
    simp at h
    omega
def spStep11 : Sp := fun vs H Q _ => ∃ (c many : Int), vs = [.int c, .int many] ∧ Bt c ∧ 0 ≤ many ∧ ∀ s p H', Made H H' many p s → s.isG = false → Q (.ref p) H'
theorem useStep11 {H : Hp} {Q : VK} {E : XK} {c many : Int} (h1 : Bt c) (h2 : 0 ≤ many) (k : ∀ s p H', Made H H' many p s → s.isG = false → Q (.ref p) H') : spStep11 [.int c, .int many] H Q E := ⟨c, many, rfl, h1, h2, k⟩
/-- a row of this law -/
def GRow (bare : Bool) (many : Int) (rs : List Stp) : Prop := rs.length ≤ 16 ∧ (∀ s ∈ rs, inBox many s = true) ∧ if bare = true then (∀ s ∈ rs, ntr s) else ∃ bef mid beh, rs = bef ++ .take :: (mid ++ .free :: beh) ∧ (∀ s ∈ bef, ntr s) ∧ (∀ s ∈ mid, s.isG = false) ∧ (∀ s ∈ beh, ntr s)
def spRow11 (K : PySem.W.Frag) : Sp := fun vs H Q _ => ∃ (a : Addr) (ns : List Int) (st : Int) (n : Nat) (many : Int) (bare : Bool), vs = [.ref a, .int st, .int n, .int many, .bl bare] ∧ SqL K H a (ns.map V.int) ∧ (∀ z ∈ ns, Builtin.Int.intBits z ≤ 1048576) ∧ 0 ≤ st ∧ n ≤ 10 ∧ 1 ≤ many ∧ many ≤ 9 ∧
  ∀ p ps rs H', GRow bare many rs → Fre H p → Kp [] H H' → RowAt H' p ps rs → Q (.ref p) H'
def spLed : Sp := fun vs H Q _ => ∃ (o : Addr) (A : SA) (S0 T : LS) (hs : List Bool), vs = [.ref o, .ref A.p] ∧ H o = some (.lst (hs2V hs)) ∧ o ∉ A.fp ∧ StandAt H A S0 ∧ S0.Ok ∧ Alt S0 ∧ S0.run hs = .ok T ∧ (∀ g, T.next g = none) ∧ ∀ H', Kp A.fp H H' → StandAt H' A T → Q (.bl true) H'
def spFirst : Sp := fun vs H Q _ => ∃ (a0 a1 o R : Addr) (p0 p1 : List Addr) (r0 r1 : List Stp) (hs : List Bool) (acc : List (Bool × Stp)), vs = [.ref o, .ref R] ∧ H R = some (.lst [.ref a0, .ref a1]) ∧ RowAt H a0 p0 r0 ∧ RowAt H a1 p1 r1 ∧ H o = some (.lst (hs2V hs)) ∧ byOrd (two r0 r1) (fun _ => 0) [] hs = some acc ∧
  ∀ f H', FirstT (two r0 r1) (fun _ => 0) hs f → Kp [] H H' → Q (.int (hI f)) H'
theorem eqv_take (s : Stp) : PyData.eqv s.dat (.tuple [.str "take"]) = s.isT := by
  cases s <;> first | rfl | decide +kernel | simp [Stp.dat, PyData.eqv, PyData.eqvAll, Stp.isT]
theorem dat_shaped (s : Stp) : SeqAt.shaped s.dat = true := by
  unfold SeqAt.shaped
  have := dat_depth s
  rw [dat_lay, decide_eq_true (show s.dat.depth ≤ 64 by omega)]; rfl
theorem useEqTake {K : PySem.W.Frag} {H : Hp} {Q : VK} {p q : Addr} {s : Stp} (h1 : H p = some (.tup s.enc)) (h2 : H q = some (.tup [.str "take"])) (k : Q (.bl s.isT) H) : rEqD K (.ref p) (.ref q) H Q :=
  ⟨_, _, dp_step h1, dp_step (s := .take) h2, dat_shaped s, dat_shaped .take, by rw [show PyData.eqv s.dat Stp.take.dat = s.isT from eqv_take s]; exact k⟩
end G
namespace G
open PySem PySem.Spec PyProof.Rows L2
/-- a row is not the list of rows that is made -/
theorem row_ne {H : Hp} {D : Addr} {rr : List (Addr × List Addr × List Stp)} {j : Nat} {x : Addr × List Addr × List Stp} (R : RowAt H x.1 x.2.1 x.2.2) (h : H D = some (.lst (rr.map fun x => V.ref x.1))) (hx : rr[j]? = some x) : x.1 ≠ D := fun e => by
  have l := R.l
  rw [e, h] at l
  have l2 : (rr.map fun x => V.ref x.1) = x.2.1.map V.ref := by
    injection l with l; injection l
  have g1 : (x.2.1.map V.ref)[j]? = some (V.ref x.1) := by rw [← l2, List.getElem?_map, hx]; rfl
  obtain ⟨p, s, ep, hs, hp⟩ := R.step g1
  have : p = x.1 := (V.ref.inj ep).symm
  rw [this, e, h] at hp
  cases hp
theorem vLcInts {α : Type} {f : α → Bool} {l : List α} {b : α} : (l.map fun x => V.int (hI (f x))) ++ [V.int (hI (f b))] = (l ++ [b]).map fun x => V.int (hI (f x)) := by rw [List.map_append]; rfl
theorem GRow.alt {bare : Bool} {m : Int} {rs : List Stp} (g : GRow bare m rs) : G.alt false rs = true ∧ heldBy false rs = false := by
  obtain ⟨_, _, h⟩ := g
  cases bare with
  | true =>
    rw [if_pos rfl] at h
    have := alt_ng (r := rs) (h := false) (t := []) fun s hs => (h s hs).1
    rw [List.append_nil] at this
    exact this
  | false =>
    rw [if_neg (by decide)] at h
    obtain ⟨bef, mid, beh, rfl, h1, h2, h3⟩ := h
    exact alt_guard h1 h2 h3
theorem GRow.gr {m : Int} {rs : List Stp} (g : GRow false m rs) : ∃ a z, GR rs a z := by
  obtain ⟨_, _, h⟩ := g
  rw [if_neg (by decide)] at h
  obtain ⟨bef, mid, beh, rfl, h1, h2, h3⟩ := h
  exact ⟨_, _, GR.mk' h1 h2 h3⟩
/-- the first taker's rows first -/
theorem first_ahd {r0 r1 : List Stp} {bs : List Int} {m : Int} {hs : List Bool} {T : LS} {f : Bool} {acc : List (Bool × Stp)} (g0 : GRow false m r0) (g1 : GRow false m r1) (r : (LS.start (two r0 r1) bs).run hs = .ok T) (ac : byOrd (two r0 r1) (fun _ => 0) [] hs = some acc) (ft : FirstT (two r0 r1) (fun _ => 0) hs f) : ¬ Ahd acc (!f) := by
  obtain ⟨a0, z0, q0⟩ := g0.gr
  obtain ⟨a1, z1, q1⟩ := g1.gr
  have j : JJ (LS.start (two r0 r1) bs) (two a0 a1) (two z0 z1) := ⟨fun h => by cases h <;> first | exact q0 | exact q1, fun h => ⟨fun z => (by cases z), fun z => absurd z.1 (Nat.not_lt_zero _)⟩⟩
  exact before_take j (fun h => Nat.zero_le _) r ac ft
end G
namespace G
open PySem PySem.Spec PyProof.Rows L2
theorem useLed {H : Hp} {Q : VK} {E : XK} {o : Addr} {A : SA} {S0 T : LS} {hs : List Bool} (h1 : H o = some (.lst (hs2V hs))) (h2 : o ∉ A.fp) (h3 : StandAt H A S0) (h4 : S0.Ok) (h5 : Alt S0) (h6 : S0.run hs = .ok T) (h7 : ∀ g, T.next g = none) (k : ∀ H', Kp A.fp H H' → StandAt H' A T → Q (.bl true) H') : spLed [.ref o, .ref A.p] H Q E := ⟨o, A, S0, T, hs, rfl, h1, h2, h3, h4, h5, h6, h7, k⟩
theorem useFirst {H : Hp} {Q : VK} {E : XK} {a0 a1 o R : Addr} {p0 p1 : List Addr} {r0 r1 : List Stp} {hs : List Bool} {acc : List (Bool × Stp)} (h1 : H R = some (.lst [.ref a0, .ref a1])) (h2 : RowAt H a0 p0 r0) (h3 : RowAt H a1 p1 r1) (h4 : H o = some (.lst (hs2V hs))) (h5 : byOrd (two r0 r1) (fun _ => 0) [] hs = some acc)
    (k : ∀ f H', FirstT (two r0 r1) (fun _ => 0) hs f → Kp [] H H' → Q (.int (hI f)) H') : spFirst [.ref o, .ref R] H Q E := ⟨a0, a1, o, R, p0, p1, r0, r1, hs, acc, rfl, h1, h2, h3, h4, h5, k⟩
end G

namespace G
open PySem PySem.Spec PyProof.Rows L2
/-! ### list.count of flat items -/
def rCntF (K : PySem.W.Frag) : V → List V → Hp → VK → Prop := fun x xs H Q => ∃ (p : Addr) (ys : List V) (y : V), x = .ref p ∧ xs = [y] ∧ SqL K H p ys ∧ flatV y = true ∧ ys.all flatV = true ∧ Q (.int ((ys.countP fun z => eqV z y : Nat) : Int)) H
theorem countP_eqU {y : V} : ∀ {us : List Value} {ys : List V}, Vals ys us → ys.all flatV = true → us.countP (eqU y) = ys.countP fun z => eqV z y
  | _, _, .nil, _ => rfl
  | _, _, .cons r rest, f => by
    rw [List.all_cons, Bool.and_eq_true] at f
    rw [List.countP_cons, List.countP_cons, countP_eqU rest f.2, eqU_of r f.1]
theorem mt_countF {X : Cx} : MtR X "list.count" (rCntF X.K) := by
  rintro pins s σ H x xs v us Q I rx rxs ⟨p, ys, y, rfl, rfl, hs, fy, fys, q⟩
  cases rx
  obtain ⟨u, rfl, ru⟩ := rxs.one
  obtain ⟨its, rv, ⟨⟨c1, c2, c3, c4⟩, n, stands, hc, hdn, hd⟩, hln⟩ := I.list hs
  dsimp only at hc hd
  subst hc hd
  refine call_meets PySem.F.slot_list_count ⟨_, stands, rfl⟩ PySem.F.entry_list_count (PySem.F.args_list_count_2 _ _) (SeqAt.list_countAt p its.toArray n c2 c4 u (eqU y)) ?_
  refine ⟨stands, fun w hw => mem_eqAt ru fy rv fys w (by simpa using hw), ?_⟩
  refine ⟨.int ((ys.countP fun z => eqV z y : Nat) : Int), H, I.tok _, ⟨s.toks, ?_⟩, q⟩
  have e : its.toArray.toList.countP (eqU y) = ys.countP fun z => eqV z y := countP_eqU rv fys
  rw [e]
theorem vCntF {K : PySem.W.Frag} {H : Hp} {Q : VK} {p : Addr} {ys : List V} {y : V} (h : SqL K H p ys) (fy : flatV y = true) (fys : ys.all flatV = true) (q : Q (.int ((ys.countP fun z => eqV z y : Nat) : Int)) H) : rCntF K (.ref p) [y] H Q := ⟨p, ys, y, rfl, rfl, h, fy, fys, q⟩
/-! ### the words of a row -/
def wordsV (rs : List Stp) : List V := rs.map fun s => V.str s.word
def Stp.isF : Stp → Bool
  | .free => true | _ => false
theorem wordsV_flat (rs : List Stp) : (wordsV rs).all flatV = true := by
  unfold wordsV
  rw [List.all_map]
  exact List.all_eq_true.mpr fun s _ => rfl
theorem eqV_take (s : Stp) : eqV (.str s.word) (.str "take") = s.isT := by cases s <;> simp only [Stp.word, Stp.isT] <;> decide +kernel
theorem eqV_free (s : Stp) : eqV (.str s.word) (.str "free") = s.isF := by cases s <;> simp only [Stp.word, Stp.isF] <;> decide +kernel
theorem cnt_take (rs : List Stp) : ((wordsV rs).countP fun z => eqV z (.str "take")) = rs.countP Stp.isT := by
  unfold wordsV
  rw [List.countP_map]
  exact List.countP_congr fun s _ => by show eqV (.str s.word) (.str "take") = true ↔ _; rw [eqV_take]
theorem cnt_free (rs : List Stp) : ((wordsV rs).countP fun z => eqV z (.str "free")) = rs.countP Stp.isF := by
  unfold wordsV
  rw [List.countP_map]
  exact List.countP_congr fun s _ => by show eqV (.str s.word) (.str "free") = true ↔ _; rw [eqV_free]
theorem at_word {rs : List Stp} {i : Nat} {s : Stp} (h : rs[i]? = some s) : atI (wordsV rs) (i : Int) = some (.str s.word) := at_of rfl (by unfold wordsV; rw [List.getElem?_map, h]; rfl)
theorem first_at {p : Stp → Bool} : ∀ {rs : List Stp}, 0 < rs.countP p → ∃ (a : Nat) (s : Stp), rs[a]? = some s ∧ p s = true ∧ ∀ (m : Nat) (t : Stp), m < a → rs[m]? = some t → p t = false
  | [], h => by simp at h
  | x :: r, h => by
    cases e : p x with
    | true => exact ⟨0, x, rfl, e, fun m t hm => by omega⟩
    | false =>
      rw [List.countP_cons_of_neg (by rw [e]; decide)] at h
      obtain ⟨a, s, h1, h2, h3⟩ := first_at h
      refine ⟨a + 1, s, by simpa using h1, h2, fun m t hm ht => ?_⟩
      cases m with
      | zero => have : x = t := by simpa using ht
                rw [← this]; exact e
      | succ m => exact h3 m t (by omega) (by simpa using ht)
theorem vIndexW {K : PySem.W.Frag} {H : Hp} {Q : VK} {p : Addr} {rs : List Stp} {w : Str} {pr : Stp → Bool} (hpr : ∀ s, eqV (.str s.word) (.str w) = pr s) (h : SqL K H p (wordsV rs)) (hc : 0 < rs.countP pr) (k : ∀ (a : Nat) s, rs[a]? = some s → pr s = true → Q (.int (a : Nat)) H) : rIndex K (.ref p) [.str w] H Q := by
  obtain ⟨a, s, h1, h2, h3⟩ := first_at hc
  refine ⟨p, wordsV rs, .str w, a, .str s.word, rfl, rfl, h, rfl, wordsV_flat rs, ?_, ?_, fun m z hm hz => ?_, k a s h1 h2⟩
  · unfold wordsV; rw [List.getElem?_map, h1]; rfl
  · rw [hpr]; exact h2
  · unfold wordsV at hz
    rw [List.getElem?_map] at hz
    cases e : rs[m]? with
    | none => rw [e] at hz; cases hz
    | some t =>
      rw [e] at hz
      have ez : V.str t.word = z := Option.some.inj hz
      subst ez
      rw [hpr]
      exact h3 m t hm e
theorem useNinG {K : PySem.W.Frag} {H : Hp} {Q : VK} {a : Stp} {p : Addr} (h : SqT K H p [.str "take", .str "free"]) (q : Q (.bl (!a.isG)) H) : rIn K true (.str a.word) (.ref p) H Q := vIn (.inr h) rfl rfl (by rw [if_pos rfl, word_isG]; exact q)
theorem useNinB {K : PySem.W.Frag} {H : Hp} {Q : VK} {a : Stp} {p : Addr} (h : SqT K H p [.str "load", .str "plus", .str "store"]) (q : Q (.bl (!a.isB)) H) : rIn K true (.str a.word) (.ref p) H Q := vIn (.inr h) rfl rfl (by rw [if_pos rfl, word_isB]; exact q)
theorem word_isF (a : Stp) : decide (V.str a.word = V.str "free") = a.isF := by
  rw [dec_str]
  cases a <;> simp only [Stp.word, Stp.isF] <;> decide +kernel
theorem useEqF {H : Hp} {Q : VK} {a : Stp} (q : Q (.bl a.isF) H) : rEq (.str a.word) (.str "free") H Q := vEq rfl (by rw [word_isF]; exact q)
/-! ### guarded rows: the law's stages, the program's counts -/
def mach : Nat → Bool → List Stp → Bool
  | st, tc, [] => !tc && decide (st ≠ 1)
  | st, tc, s :: r => if s.isT = true then (if st = 0 then mach 1 tc r else false) else if s.isF = true then (if st = 1 then mach 2 tc r else false) else mach st (tc || (s.isB && decide (st ≠ 1))) r
def Deco (rs : List Stp) : Prop := ∃ bef mid beh, rs = bef ++ .take :: (mid ++ .free :: beh) ∧ (∀ s ∈ bef, ntr s) ∧ (∀ s ∈ mid, s.isG = false) ∧ (∀ s ∈ beh, ntr s)
theorem isG_TF (s : Stp) : s.isG = (s.isT || s.isF) := by cases s <;> rfl
theorem isT_eq {s : Stp} (h : s.isT = true) : s = .take := by cases s <;> first | rfl | cases h
theorem isF_eq {s : Stp} (h : s.isF = true) : s = .free := by cases s <;> first | rfl | cases h
theorem mach2 : ∀ {r : List Stp} {tc : Bool}, mach 2 tc r = true ↔ tc = false ∧ ∀ s ∈ r, ntr s
  | [], tc => by simp [mach]
  | s :: r, tc => by
    unfold mach
    by_cases t : s.isT = true
    · rw [if_pos t, if_neg (by decide)]
      refine ⟨fun z => (by cases z), fun z => ?_⟩
      have := (z.2 s List.mem_cons_self).1
      rw [isG_TF, t] at this; cases this
    · rw [if_neg t]
      by_cases f : s.isF = true
      · rw [if_pos f, if_neg (by decide)]
        refine ⟨fun z => (by cases z), fun z => ?_⟩
        have := (z.2 s List.mem_cons_self).1
        rw [isG_TF, f, Bool.or_true] at this; cases this
      · rw [if_neg f, mach2]
        have g : s.isG = false := by rw [isG_TF]; simp at t f; rw [t, f]; rfl
        simp only [show decide ((2 : Nat) ≠ 1) = true from rfl, Bool.and_true, Bool.or_eq_false_iff, List.mem_cons, forall_eq_or_imp, ntr]
        exact ⟨fun ⟨⟨a, b⟩, c⟩ => ⟨a, ⟨g, b⟩, c⟩, fun ⟨a, ⟨_, b⟩, c⟩ => ⟨⟨a, b⟩, c⟩⟩
theorem mach1 : ∀ {r : List Stp} {tc : Bool}, mach 1 tc r = true ↔ tc = false ∧ ∃ mid beh, r = mid ++ .free :: beh ∧ (∀ s ∈ mid, s.isG = false) ∧ (∀ s ∈ beh, ntr s)
  | [], tc => by
    unfold mach
    refine ⟨fun z => by simp at z, fun ⟨_, mid, beh, e, _⟩ => ?_⟩
    have := congrArg List.length e
    simp at this
  | s :: r, tc => by
    unfold mach
    by_cases t : s.isT = true
    · rw [if_pos t, if_neg (by decide)]
      refine ⟨fun z => (by cases z), fun ⟨_, mid, beh, e, hm, hb⟩ => ?_⟩
      have es := isT_eq t
      subst es
      cases mid with
      | nil => cases e
      | cons x m =>
        cases e
        have := hm _ List.mem_cons_self
        cases this
    · rw [if_neg t]
      by_cases f : s.isF = true
      · rw [if_pos f, if_pos rfl, mach2]
        have es := isF_eq f
        subst es
        refine ⟨fun ⟨a, b⟩ => ⟨a, [], r, rfl, fun _ h => (by cases h), b⟩, fun ⟨a, mid, beh, e, hm, hb⟩ => ⟨a, ?_⟩⟩
        cases mid with
        | nil => cases e; exact hb
        | cons x m =>
          cases e
          have := hm _ List.mem_cons_self
          cases this
      · rw [if_neg f, mach1]
        have g : s.isG = false := by rw [isG_TF]; simp at t f; rw [t, f]; rfl
        simp only [show decide ((1 : Nat) ≠ 1) = false from rfl, Bool.and_false, Bool.or_false]
        refine ⟨fun ⟨a, mid, beh, e, hm, hb⟩ => ⟨a, s :: mid, beh, by rw [e]; rfl, fun x hx => ?_, hb⟩, fun ⟨a, mid, beh, e, hm, hb⟩ => ⟨a, ?_⟩⟩
        · rcases List.mem_cons.mp hx with rfl | hx
          · exact g
          · exact hm x hx
        · cases mid with
          | nil => cases e; cases g
          | cons x m =>
            cases e
            exact ⟨m, beh, rfl, fun y hy => hm y (List.mem_cons_of_mem _ hy), hb⟩
theorem mach0 : ∀ {r : List Stp} {tc : Bool}, mach 0 tc r = true ↔ tc = false ∧ ((∀ s ∈ r, ntr s) ∨ Deco r)
  | [], tc => by
    unfold mach
    simp
  | s :: r, tc => by
    unfold mach
    by_cases t : s.isT = true
    · rw [if_pos t, if_pos rfl, mach1]
      have es := isT_eq t
      subst es
      refine ⟨fun ⟨a, mid, beh, e, hm, hb⟩ => ⟨a, .inr ⟨[], mid, beh, by rw [e]; rfl, fun _ h => (by cases h), hm, hb⟩⟩, fun ⟨a, h⟩ => ⟨a, ?_⟩⟩
      rcases h with h | ⟨bef, mid, beh, e, h1, h2, h3⟩
      · have := (h _ List.mem_cons_self).1; cases this
      · cases bef with
        | nil => cases e; exact ⟨mid, beh, rfl, h2, h3⟩
        | cons x b =>
          cases e
          have := (h1 _ List.mem_cons_self).1; cases this
    · rw [if_neg t]
      by_cases f : s.isF = true
      · rw [if_pos f, if_neg (by decide)]
        have es := isF_eq f
        subst es
        refine ⟨fun z => (by cases z), fun ⟨_, h⟩ => ?_⟩
        rcases h with h | ⟨bef, mid, beh, e, h1, h2, h3⟩
        · have := (h _ List.mem_cons_self).1; cases this
        · cases bef with
          | nil => cases e
          | cons x b =>
            cases e
            have := (h1 _ List.mem_cons_self).1; cases this
      · rw [if_neg f, mach0]
        have g : s.isG = false := by rw [isG_TF]; simp at t f; rw [t, f]; rfl
        simp only [show decide ((0 : Nat) ≠ 1) = true from rfl, Bool.and_true, Bool.or_eq_false_iff]
        refine ⟨fun ⟨⟨a, b⟩, h⟩ => ⟨a, ?_⟩, fun ⟨a, h⟩ => ?_⟩
        · rcases h with h | ⟨bef, mid, beh, e, h1, h2, h3⟩
          · refine .inl fun x hx => ?_
            rcases List.mem_cons.mp hx with rfl | hx
            · exact ⟨g, b⟩
            · exact h x hx
          · refine .inr ⟨s :: bef, mid, beh, by rw [e]; rfl, fun x hx => ?_, h2, h3⟩
            rcases List.mem_cons.mp hx with rfl | hx
            · exact ⟨g, b⟩
            · exact h1 x hx
        · rcases h with h | ⟨bef, mid, beh, e, h1, h2, h3⟩
          · exact ⟨⟨a, (h _ List.mem_cons_self).2⟩, .inl fun x hx => h x (List.mem_cons_of_mem _ hx)⟩
          · cases bef with
            | nil => cases e; exact absurd rfl t
            | cons x b =>
              cases e
              exact ⟨⟨a, (h1 _ List.mem_cons_self).2⟩, .inr ⟨b, mid, beh, rfl, fun y hy => h1 y (List.mem_cons_of_mem _ hy), h2, h3⟩⟩
/-- one place alone -/
theorem uniq_at {p : Stp → Bool} : ∀ {rs : List Stp} {a k : Nat} {s t : Stp}, rs.countP p = 1 → rs[a]? = some s → p s = true → rs[k]? = some t → p t = true → a = k
  | [], a, k, s, t, h, _, _, _, _ => by simp at h
  | x :: r, a, k, s, t, h, ha, hs, hk, ht => by
    have pos : ∀ {j : Nat} {u : Stp}, r[j]? = some u → p u = true → 0 < r.countP p := fun h1 h2 => List.countP_pos_iff.mpr ⟨_, List.mem_of_getElem? h1, h2⟩
    cases a with
    | zero =>
      cases k with
      | zero => rfl
      | succ k =>
        have e : x = s := by simpa using ha
        subst e
        rw [List.countP_cons_of_pos hs] at h
        have := pos (by simpa using hk) ht
        omega
    | succ a =>
      cases k with
      | zero =>
        have e : x = t := by simpa using hk
        subst e
        rw [List.countP_cons_of_pos ht] at h
        have := pos (by simpa using ha) hs
        omega
      | succ k =>
        have ha' : r[a]? = some s := by simpa using ha
        have hk' : r[k]? = some t := by simpa using hk
        have := pos ha' hs
        cases e : p x with
        | true => rw [List.countP_cons_of_pos e] at h; omega
        | false =>
          rw [List.countP_cons_of_neg (by rw [e]; decide)] at h
          rw [uniq_at h ha' hs hk' ht]
theorem GR.split {rs : List Stp} {a z : Nat} (g : GR rs a z) : Deco rs := by
  have ha := (g.tk a).mpr rfl
  have hz := (g.fr z).mpr rfl
  have lt := g.lt
  have hzl := (List.getElem?_eq_some_iff.mp hz).1
  have e0 : rs = rs.take a ++ .take :: ((rs.drop (a + 1)).take (z - (a + 1)) ++ .free :: rs.drop (z + 1)) := by
    conv => lhs; rw [← List.take_append_drop a rs, drop_get ha, ← List.take_append_drop (z - (a + 1)) (rs.drop (a + 1)), List.drop_drop, show a + 1 + (z - (a + 1)) = z by omega, drop_get hz]
  refine ⟨_, _, _, e0, fun s hs => ?_, fun s hs => ?_, fun s hs => ?_⟩
  · obtain ⟨k, hk⟩ := List.mem_iff_getElem?.mp hs
    have hkl := (List.getElem?_eq_some_iff.mp hk).1
    rw [List.length_take] at hkl
    rw [List.getElem?_take_of_lt (by omega)] at hk
    exact g.nt k s hk (.inl (by omega))
  · obtain ⟨k, hk⟩ := List.mem_iff_getElem?.mp hs
    have hkl := (List.getElem?_eq_some_iff.mp hk).1
    rw [List.length_take, List.length_drop] at hkl
    rw [List.getElem?_take_of_lt (by omega), List.getElem?_drop] at hk
    cases q : s with
    | take => subst q; have := (g.tk _).mp hk; omega
    | free => subst q; have := (g.fr _).mp hk; omega
    | _ => rfl
  · obtain ⟨k, hk⟩ := List.mem_iff_getElem?.mp hs
    rw [List.getElem?_drop] at hk
    exact g.nt _ s hk (.inr (by omega))
/-- what the program tells -/
def GuB (rs : List Stp) (b : Bool) : Prop := (b = true ↔ ((∀ s ∈ rs, ntr s) ∨ ∃ a z, GR rs a z))
theorem GuB.mach {rs : List Stp} {b : Bool} (h : GuB rs b) : b = G.mach 0 false rs := by
  have e : b = true ↔ G.mach 0 false rs = true := by
    rw [mach0]
    refine h.trans ⟨fun q => ⟨rfl, ?_⟩, fun q => ?_⟩
    · rcases q with q | ⟨a, z, g⟩
      · exact .inl q
      · exact .inr g.split
    · rcases q.2 with q | ⟨bef, mid, beh, rfl, h1, h2, h3⟩
      · exact .inl q
      · exact .inr ⟨_, _, GR.mk' h1 h2 h3⟩
  cases b <;> cases hm : G.mach 0 false rs <;> simp_all
theorem GR.counts {rs : List Stp} {a z : Nat} (g : GR rs a z) : 0 < rs.countP Stp.isT ∧ 0 < rs.countP Stp.isF :=
  ⟨List.countP_pos_iff.mpr ⟨.take, List.mem_of_getElem? ((g.tk a).mpr rfl), rfl⟩, List.countP_pos_iff.mpr ⟨.free, List.mem_of_getElem? ((g.fr z).mpr rfl), rfl⟩⟩
theorem Deco.counts {rs : List Stp} (h : Deco rs) : rs.countP Stp.isT = 1 ∧ rs.countP Stp.isF = 1 := by
  obtain ⟨bef, mid, beh, rfl, h1, h2, h3⟩ := h
  have z : ∀ {l : List Stp}, (∀ s ∈ l, s.isG = false) → l.countP Stp.isT = 0 ∧ l.countP Stp.isF = 0 := fun {l} hl =>
    ⟨List.countP_eq_zero.mpr fun s hs q => (by have := hl s hs; rw [isG_TF, q] at this; cases this), List.countP_eq_zero.mpr fun s hs q => (by have := hl s hs; rw [isG_TF, q, Bool.or_true] at this; cases this)⟩
  obtain ⟨a1, a2⟩ := z fun s hs => (h1 s hs).1
  obtain ⟨b1, b2⟩ := z h2
  obtain ⟨c1, c2⟩ := z fun s hs => (h3 s hs).1
  simp only [List.countP_append, List.countP_cons, a1, a2, b1, b2, c1, c2, Stp.isT, Stp.isF]
  exact ⟨rfl, rfl⟩
theorem GuB.none {rs : List Stp} (h1 : rs.countP Stp.isT = 0) (h2 : rs.countP Stp.isF = 0) : GuB rs (decide (rs.countP Stp.isB = 0)) := by
  unfold GuB
  rw [decide_eq_true_eq]
  have ng : ∀ s ∈ rs, s.isG = false := fun s hs => by
    have a := List.countP_eq_zero.mp h1 s hs
    have b := List.countP_eq_zero.mp h2 s hs
    rw [isG_TF]
    simp at a b
    rw [a, b]; rfl
  refine ⟨fun h => .inl fun s hs => ⟨ng s hs, ?_⟩, fun h => ?_⟩
  · have := List.countP_eq_zero.mp h s hs
    simpa using this
  · rcases h with h | ⟨a, z, g⟩
    · exact List.countP_eq_zero.mpr fun s hs => by rw [(h s hs).2]; decide
    · have := g.counts.1; omega
theorem GuB.many {rs : List Stp} (h0 : ¬ (rs.countP Stp.isT = 0 ∧ rs.countP Stp.isF = 0)) (h : ¬ (rs.countP Stp.isT = 1 ∧ rs.countP Stp.isF = 1)) : GuB rs false := by
  refine ⟨fun z => (by cases z), fun q => ?_⟩
  exfalso
  rcases q with q | ⟨a, z, g⟩
  · exact h0 ⟨List.countP_eq_zero.mpr fun s hs y => (by have := (q s hs).1; rw [isG_TF, y] at this; cases this), List.countP_eq_zero.mpr fun s hs y => (by have := (q s hs).1; rw [isG_TF, y, Bool.or_true] at this; cases this)⟩
  · exact h g.split.counts
theorem GR.uniq {rs : List Stp} {a z b y : Nat} (g : GR rs a z) (ha : rs[b]? = some .take) (hz : rs[y]? = some .free) : b = a ∧ y = z := ⟨(g.tk b).mp ha, (g.fr y).mp hz⟩
theorem GuB.bad {rs : List Stp} {a z k : Nat} {s : Stp} (ht : rs.countP Stp.isT = 1) (ha : rs[a]? = some .take) (hz : rs[z]? = some .free) (hk : rs[k]? = some s) (hB : s.isB = true) (hn : ¬ (a < k ∧ k < z)) : GuB rs false := by
  refine ⟨fun z => (by cases z), fun q => ?_⟩
  exfalso
  rcases q with q | ⟨b, y, g⟩
  · have := (q _ (List.mem_of_getElem? ha)).1; cases this
  · obtain ⟨rfl, rfl⟩ := g.uniq ha hz
    by_cases c : k < a ∨ z < k
    · have := (g.nt k s hk c).2; rw [hB] at this; cases this
    · have h1 : k = a ∨ k = z := by omega
      rcases h1 with rfl | rfl
      · rw [ha] at hk; cases hk; cases hB
      · rw [hz] at hk; cases hk; cases hB
theorem GuB.good {rs : List Stp} {a z : Nat} (ht : rs.countP Stp.isT = 1) (hf : rs.countP Stp.isF = 1) (ha : rs[a]? = some .take) (hz : rs[z]? = some .free) (hb : ∀ k s, k < rs.length → rs[k]? = some s → s.isB = true → a < k ∧ k < z) : GuB rs (decide (a < z)) := by
  unfold GuB
  rw [decide_eq_true_eq]
  refine ⟨fun lt => .inr ⟨a, z, lt, fun k => ⟨fun h => (uniq_at ht ha rfl h rfl).symm, fun h => by rw [h]; exact ha⟩, fun k => ⟨fun h => (uniq_at hf hz rfl h rfl).symm, fun h => by rw [h]; exact hz⟩, fun k s h hk => ⟨?_, ?_⟩⟩, fun q => ?_⟩
  · cases q : s with
    | take => subst q; have := uniq_at ht ha rfl h rfl; omega
    | free => subst q; have := uniq_at hf hz rfl h rfl; omega
    | _ => rfl
  · cases q : s.isB with
    | false => rfl
    | true => have := hb k s (List.getElem?_eq_some_iff.mp h).1 h q; omega
  · rcases q with q | ⟨b, y, g⟩
    · have := (q _ (List.mem_of_getElem? ha)).1; cases this
    · obtain ⟨rfl, rfl⟩ := g.uniq ha hz
      exact g.lt
/-! ### promises -/
def spGuarded : Sp := fun vs H Q _ => ∃ (a : Addr) (ps : List Addr) (rs : List Stp), vs = [.ref a] ∧ RowAt H a ps rs ∧ rs.length ≤ 200 ∧ ∀ b H', GuB rs b → Kp [] H H' → Q (.bl b) H'
def underS (rs : List Stp) : List Stp := .take :: (rs.filter (fun s => !s.isG) ++ [.free])
def spUnder : Sp := fun vs H Q _ => ∃ (a : Addr) (ps : List Addr) (rs : List Stp), vs = [.ref a] ∧ RowAt H a ps rs ∧ rs.length ≤ 200 ∧ ∀ p qs H', Fre H p → Kp [] H H' → RowAt H' p qs (underS rs) → Q (.ref p) H'
def spLawG : Sp := fun vs H Q _ => ∃ (a : Addr) (ps : List Addr) (rs : List Stp), vs = [.ref a] ∧ RowAt H a ps rs ∧ ∀ H', Kp [] H H' → Q (.bl (mach 0 false rs)) H'
def spAlikeR : Sp := fun vs H Q _ => ∃ (a b : Addr) (ps qs : List Addr) (rs : List Stp), vs = [.ref a, .ref b] ∧ RowAt H a ps rs ∧ RowAt H b qs rs ∧ rs.length ≤ 500 ∧ Q (.bl true) H
theorem useAlikeR {H : Hp} {Q : VK} {E : XK} {a b : Addr} {ps qs : List Addr} {rs : List Stp} (h1 : RowAt H a ps rs) (h2 : RowAt H b qs rs) (h3 : rs.length ≤ 500) (k : Q (.bl true) H) : spAlikeR [.ref a, .ref b] H Q E := ⟨a, b, ps, qs, rs, rfl, h1, h2, h3, k⟩
def spStep10 : Sp := fun vs H Q _ => ∃ (c : Int) (fr : Bool), vs = [.int c, .bl fr] ∧ Bt c ∧ ∀ s p H', MadeS H H' p s → Q (.ref p) H'
def spRow10 (K : PySem.W.Frag) : Sp := fun vs H Q _ => ∃ (a : Addr) (ns : List Int) (kind : Int), vs = [.ref a, .int kind] ∧ SqL K H a (ns.map V.int) ∧ ns.length ≤ 63 ∧ (∀ z ∈ ns, Builtin.Int.intBits z ≤ 1048576) ∧ ∀ p ps rs H', rs.length ≤ 70 → Fre H p → Kp [] H H' → RowAt H' p ps rs → Q (.ref p) H'
theorem useNeStep {K : PySem.W.Frag} {H : Hp} {Q : VK} {p q : Addr} {s : Stp} (h1 : H p = some (.tup s.enc)) (h2 : H q = some (.tup s.enc)) (k : Q (.bl false) H) : rNeD K (.ref p) (.ref q) H Q :=
  ⟨_, _, dp_step h1, dp_step h2, dat_shaped s, dat_shaped s, by rw [SeqAt.eqv_refl _ (SeqAt.canLay_of_shaped (dat_shaped s))]; exact k⟩
theorem under_guB (rs : List Stp) {b : Bool} (h : GuB (underS rs) b) : b = true := h.mpr (.inr ⟨_, _, GR.mk' (bef := []) (mid := rs.filter fun s => !s.isG) (beh := []) (fun _ h => by cases h) (fun s hs => by have := (List.mem_filter.mp hs).2; simpa using this) (fun _ h => by cases h)⟩)
end G
namespace G
open PySem PySem.Spec PyProof.Rows L2
theorem at8s (c : Int) : c % 8 = 0 ∨ c % 8 = 1 ∨ c % 8 = 2 ∨ c % 8 = 3 ∨ c % 8 = 4 ∨ c % 8 = 5 ∨ c % 8 = 6 ∨ c % 8 = 7 := by omega
end G
namespace G
open PySem PySem.Spec PyProof.Rows L2
def rMax2 : List V → Hp → VK → Prop := fun xs H Q => ∃ i j, xs = [.int i, .int j] ∧ Q (.int (if j > i then j else i)) H
theorem call_maxG {X : Cx} (hc : X.calm = true) : CallR X (.builtin "max") rMax2 := call_max2 hc
theorem vMax2 {i j : Int} {H : Hp} {Q : VK} (q : Q (.int (if j > i then j else i)) H) : rMax2 [.int i, .int j] H Q := ⟨i, j, rfl, q⟩
end G
namespace G
open PySem PySem.Spec PyProof.Rows L2
theorem StpsAt.take {H : Hp} {ps : List Addr} {rs : List Stp} (r : StpsAt H ps rs) (n : Nat) : StpsAt H (ps.take n) (rs.take n) := by
  refine ⟨by rw [List.length_take, List.length_take, r.n], fun i p s h1 h2 => ?_⟩
  have hi := (List.getElem?_eq_some_iff.mp h1).1
  rw [List.length_take] at hi
  rw [List.getElem?_take_of_lt (by omega)] at h1 h2
  exact r.e i p s h1 h2
theorem StpsAt.drop {H : Hp} {ps : List Addr} {rs : List Stp} (r : StpsAt H ps rs) (n : Nat) : StpsAt H (ps.drop n) (rs.drop n) := by
  refine ⟨by rw [List.length_drop, List.length_drop, r.n], fun i p s h1 h2 => ?_⟩
  rw [List.getElem?_drop] at h1 h2
  exact r.e _ p s h1 h2
theorem RowAt.insert {W : List Addr} {H H' : Hp} {R Y t : Addr} {ps : List Addr} {rs : List Stp} (r : RowAt H R ps rs) (k : Kp W H H') (n : Nat) {s : Stp} (ht : H' t = some (.tup s.enc)) (hY : H' Y = some (.lst ((ps.take n).map V.ref ++ [V.ref t] ++ (ps.drop n).map V.ref))) :
    RowAt H' Y (ps.take n ++ [t] ++ ps.drop n) (rs.take n ++ [s] ++ rs.drop n) :=
  ((((r.stps.keep k).take n).app (StpsAt.one ht)).app ((r.stps.keep k).drop n)).row (by rw [hY, List.map_append, List.map_append]; rfl)
theorem ins_len {α : Type} {rs : List α} {s : α} {n : Nat} (h : n ≤ rs.length) : (rs.take n ++ [s] ++ rs.drop n).length = rs.length + 1 := by simp; omega
end G

namespace G
open PySem PySem.Spec PyProof.Rows L2
def top (i : Nat) : Stmt := PySem.Challenge.pw_guardrows_k10_rows_under_guard.main.body.getD i (.Pass ⟨0, 0, 0, 0⟩)

structure Txt (K : PySem.W.Frag) (mg : Str → Option Value) (aBOXED aGUARDS : Addr) : Prop where
  n_range : mg "range" = none
  n_list : mg "list" = none
  n_len : mg "len" = none
  n_min : mg "min" = none
  n_max : mg "max" = none
  n_isinstance : mg "isinstance" = none
  n_bool : mg "bool" = none
  n_tuple : mg "tuple" = none
  n_int : mg "int" = none
  g_BOXED : mg "BOXED" = some (.ref aBOXED)
  s_BOXED : ∀ H, SqT K H aBOXED [.str "load", .str "plus", .str "store"]
  g_GUARDS : mg "GUARDS" = some (.ref aGUARDS)
  s_GUARDS : ∀ H, SqT K H aGUARDS [.str "take", .str "free"]
/-! ### the steps of a reading: local words -/
local macro_rules | `(tactic| walk_at "nin") => `(tactic| first | exact nin_nil | (refine' nin_cons ?n1 ?n2; (case n1 => walk_at "ne"); (case n2 => walk_at "nin")) | fail "no")
local macro_rules | `(tactic| walk_at "ne") => `(tactic| first
  | assumption
  | exact Ne.symm (by assumption)
  | (refine' ne_fr ?f1 ?f2; (case f1 => assumption); (case f2 => walk_at "hp"); done)
  | (refine' Ne.symm (ne_fr ?f1 ?f2); (case f1 => assumption); (case f2 => walk_at "hp"); done)
  | fail "no")
local macro_rules | `(tactic| walk_at "hp") => `(tactic| first
  | assumption
  | (refine' Kp.get0 ?k1 ?k2; (case k1 => with_reducible assumption); (case k2 => walk_at "hp"); done)
  | (refine' Kp.getW ?k1 ?k2 ?k3; (case k1 => with_reducible assumption); (case k2 => walk_at "hp"); (case k3 => first | exact Or.inl rfl | exact Or.inr (by walk_at "nin")); done)
  | fail "no")
local macro_rules | `(tactic| walk_at "hs") => `(tactic| first
  | assumption
  | (refine' Kp.seq0 ?k1 ?k2; (case k1 => with_reducible assumption); (case k2 => walk_at "hs"); done)
  | (refine' Kp.seqS ?k1 ?k2 ?k3; (case k1 => with_reducible assumption); (case k2 => walk_at "hs"); (case k3 => walk_at "nin"); done)
  | fail "no")
local macro_rules | `(tactic| walk_at "hl") => `(tactic| first
  | assumption
  | (refine' SqL.of ?hl; (case hl => walk_at "hp"); done)
  | walk_at "hs"
  | fail "no")
local macro_rules | `(tactic| walk_at "ht") => `(tactic| first
  | assumption
  | (refine' SqT.of ?hl; (case hl => walk_at "hp"); done)
  | fail "no")
local macro_rules | `(tactic| walk_at "hlt") => `(tactic| first
  | (refine' Or.inl (SqL.of ?hh); (case hh => walk_at "hp"); done)
  | (refine' Or.inr ?hh; (case hh => walk_at "ht"); done)
  | (refine' Or.inl ?hh; (case hh => walk_at "hs"); done)
  | fail "no")
local macro_rules | `(tactic| walk_at "fresh") => `(tactic| first | with_reducible assumption | (refine' Fre.fwd ?ka ?kb; (case ka => with_reducible assumption); (case kb => walk_at "fresh"); done) | fail "no")
local macro_rules | `(tactic| walk_at "mem") => `(tactic| first | exact List.mem_cons_self | exact List.mem_cons_of_mem _ (by walk_at "mem") | fail "no")
local macro_rules | `(tactic| walk_at "sub") => `(tactic| first | exact sub_nil | (refine' sub_cons ?s1 ?s2; (case s1 => first | exact Or.inl (by walk_at "mem") | exact Or.inr (by walk_at "fresh")); (case s2 => walk_at "sub"); done) | fail "no")
local macro_rules | `(tactic| walk_at "kp") => `(tactic| first
  | assumption
  | exact Kp.refl
  | (refine' Kp.step0 ?kb ?ka; (case ka => with_reducible assumption); (case kb => walk_at "kp"); done)
  | (refine' Kp.stepW ?kb ?ka ?ks; (case ka => with_reducible assumption); (case ks => walk_at "sub"); (case kb => walk_at "kp"); done)
  | fail "no")
local macro_rules | `(tactic| walk_at "len") => `(tactic| first
  | assumption
  | (refine' len_le ?h; (case h => (simp only [List.length_cons, List.length_nil, List.length_append, List.length_map]; omega)); done)
  | (refine' len_lt ?h; (case h => (simp only [List.length_cons, List.length_nil, List.length_append, List.length_map]; omega)); done)
  | exact len_le (by omega) | exact len_lt (by omega)
  | fail "no")
/- plain values -/
local macro_rules | `(tactic| walk_at "pl1") => `(tactic| first | assumption | exact True.intro | exact Or.inr ⟨_, by walk_at "hp"⟩ | exact Or.inl ⟨_, by walk_at "hp"⟩ | fail "no")
local macro_rules | `(tactic| walk_at "pl") => `(tactic| first | assumption | exact pl_nil | (refine' pl_cons ?p1 ?p2; (case p1 => walk_at "pl1"); (case p2 => walk_at "pl"); done) | fail "no")
/- a side condition on ints -/
local macro_rules | `(tactic| walk_at "num") => `(tactic| first
  | exact ⟨by decide, by decide⟩
  | (show (0 : Int) < _; decide)
  | exact ⟨by decide, by decide, by decide⟩
  | exact .of_left (intBits_le_64 (by decide) (by decide))
  | exact .of_right (intBits_le_64 (by omega) (by omega))
  | exact mulBig (by assumption)
  | assumption
  | decide
  | omega
  | fail "no")
local macro_rules | `(tactic| walk_at "ati") => `(tactic| first | with_reducible assumption | rfl | exact ati2I _ _ _ | exact ati2S _ _ _ | exact at_of rfl (by assumption) | fail "no")
local macro_rules | `(tactic| walk_at "ixn") => `(tactic| first | with_reducible assumption | rfl | fail "no")
local macro_rules | `(tactic| walk_at "tyx") => `(tactic| first
  | exact TyX.base (TyOf.int _) | exact TyX.base (TyOf.bl _) | exact TyX.base TyOf.non | exact TyX.base (TyOf.str _)
  | (refine' TyX.base (TyOf.lst ?hh); (case hh => walk_at "hp"); done)
  | (refine' TyX.base (TyOf.tup ?hh); (case hh => walk_at "hp"); done)
  | fail "no")
local macro_rules | `(tactic| walk_at "v1") => `(tactic| first
  | with_reducible refine' vVar ?_
  | with_reducible refine' vC ?_
  | with_reducible refine' vOp ?_
  | with_reducible refine' vI0 ?_
  | with_reducible refine' vU ?_
  | with_reducible refine' vSeq ?_
  | with_reducible refine' vAsg ?_
  | with_reducible refine' vName ?_
  | with_reducible refine' vCons ?_
  | with_reducible refine' vNil ?_
  | with_reducible refine' vCB ?_
  | with_reducible refine' vCall ?_
  | with_reducible refine' vIfS ?_
  | with_reducible refine' vTest ?_
  | with_reducible refine' vB ?_
  | with_reducible refine' vrBl ?_
  | with_reducible refine' vRet ?_
  | with_reducible refine' vRaise ?_
  | with_reducible refine' vForL ?_
  | with_reducible refine' vLcR ?_
  | with_reducible refine' vLcL ?_
  | with_reducible refine' vYes ?_
  | with_reducible refine' vrTst1 ?_
  | with_reducible refine' vMk ?_
  | with_reducible refine' vForT ?_
  | with_reducible refine' vForR ?_
  | with_reducible refine' vrNx ?_
  | with_reducible refine' vRetN ?_
  | with_reducible refine' vDrop ?_
  | with_reducible refine' vNext ?_
  | with_reducible refine' vBreak ?_
  | with_reducible refine' vCont ?_
  | with_reducible refine' vAnd ?_
  | with_reducible refine' vOr ?_
  | with_reducible refine' vNot ?_
  | with_reducible refine' vAndV ?_
  | with_reducible refine' vOrV ?_
  | with_reducible refine' vNotV ?_
  | with_reducible refine' vIfE ?_
  | with_reducible refine' vChain ?_
  | with_reducible refine' vUn ?_
  | with_reducible refine' vLst ?_
  | with_reducible refine' vTup ?_
  | with_reducible refine' vFld ?_
  | with_reducible refine' vSF ?_
  | with_reducible refine' vSub ?_
  | with_reducible refine' vSl ?_
  | with_reducible refine' vNoPart ?_
  | with_reducible refine' vPart ?_
  | with_reducible refine' vrPart ?_
  | with_reducible refine' vMeth ?_
  | with_reducible refine' iteT ?_
  | with_reducible refine' iteF ?_
  | with_reducible refine' iteNT ?_
  | with_reducible refine' iteNF ?_
  | ((with_reducible refine' vI ?c ?_); (case c => walk_at "num"))
  | with_reducible refine' vEqI ?_
  | with_reducible refine' vNeI ?_
  | with_reducible refine' vEqS ?_
  | with_reducible refine' vNeS ?_
  | with_reducible refine' vEqB ?_
  | with_reducible refine' vNeB ?_
  | ((with_reducible refine' vEq ?c ?_); (case c => rfl))
  | ((with_reducible refine' vNe ?c ?_); (case c => rfl))
  | with_reducible refine' vIsN ?_
  | with_reducible refine' vIsB ?_
  | with_reducible refine' vNotN ?_
  | with_reducible refine' vIntB ?_
  | with_reducible refine' vIntI ?_
  | ((with_reducible refine' vStrI ?h ?_); (case h => first | assumption | exact num3_log _))
  | ((with_reducible refine' vNewL ?z ?_); (case z => exact len_ok (Nat.le_of_ble_eq_true rfl)); intro p H' fr kp at_)
  | ((with_reducible refine' vNewT ?z ?_); (case z => exact len_ok (Nat.le_of_ble_eq_true rfl)); intro p H' fr kp at_)
  | ((with_reducible refine' vLen ?h ?_); (case h => walk_at "hlt"))
  | ((with_reducible refine' vIxL ?h ?e ?_); (case h => walk_at "hl"); (case e => walk_at "ati"))
  | ((with_reducible refine' vIxT ?h ?e ?_); (case h => walk_at "ht"); (case e => walk_at "ati"))
  | ((with_reducible refine' vIsi ?h ?e ?_); (case h => walk_at "tyx"); (case e => first | exact kit_ty (r := true) (by decide +kernel) | exact kit_ty (r := false) (by decide +kernel)))
  | ((with_reducible refine' vListOf ?h ?_); (case h => walk_at "hlt"); intro p H' fr kp at_)
  | ((with_reducible refine' vTupOf ?h ?_); (case h => walk_at "hl"); intro p H' fr kp at_)
  | ((with_reducible refine' vCat ?h1 ?h2 ?z ?_); (case h1 => walk_at "hp"); (case h2 => walk_at "hp"); (case z => walk_at "len"); intro p H' fr kp at_)
  | ((with_reducible refine' vSlL ?h ?_); (case h => walk_at "hl"); intro p H' fr kp at_)
  | with_reducible refine' vBM ?_
  | ((with_reducible refine' tyAnd ?ty ?_); (case ty => first | exact tyL (by walk_at "hp") | exact tySq (by walk_at "hl")))
  | ((with_reducible refine' vAppend ?h ?z ?_); (case h => walk_at "hp"); (case z => walk_at "len"); intro H' kp at_)
  | ((with_reducible refine' useIsiStr ?h ?_); (case h => assumption))
  | ((with_reducible refine' useIsiInt ?h ?_); (case h => assumption))
  | ((with_reducible refine' useIsiBl ?h ?_); (case h => assumption))
  | ((with_reducible refine' vSetL ?h ?e ?_); (case h => walk_at "hp"); (case e => walk_at "ixn"); intro H' kp at_)
  | fail "no")
local macro_rules | `(tactic| walk_at "vc") => `(tactic| repeat' (first | walk_at "v1" | walk_at "dec"))
/- a word among written words -/
local macro_rules | `(tactic| walk_at "v1") => `(tactic| first
  | ((with_reducible refine' vInP ?h ?f1 ?f2 ?_); (case h => first | exact .inr (Txt.s_GUARDS (by assumption) _) | exact .inr (Txt.s_BOXED (by assumption) _) | walk_at "hlt"); (case f1 => rfl); (case f2 => rfl))
  | ((with_reducible refine' vInN ?h ?f1 ?f2 ?_); (case h => first | exact .inr (Txt.s_GUARDS (by assumption) _) | exact .inr (Txt.s_BOXED (by assumption) _) | walk_at "hlt"); (case f1 => rfl); (case f2 => rfl))
  | fail "no")
/- steps -/
local macro_rules | `(tactic| walk_at "v1") => `(tactic| first
  | ((with_reducible refine' useInG ?h ?_); (case h => first | exact Txt.s_GUARDS (by assumption) _ | walk_at "ht"))
  | ((with_reducible refine' useInB ?h ?_); (case h => first | exact Txt.s_BOXED (by assumption) _ | walk_at "ht"))
  | with_reducible refine' useNeS ?_
  | with_reducible refine' useNeT ?_
  | with_reducible refine' useEqF ?_
  | ((with_reducible refine' useNinG ?h ?_); (case h => first | exact Txt.s_GUARDS (by assumption) _ | walk_at "ht"))
  | ((with_reducible refine' useNinB ?h ?_); (case h => first | exact Txt.s_BOXED (by assumption) _ | walk_at "ht"))
  | with_reducible refine' useEqS ?_
  | with_reducible refine' useEqT ?_
  | with_reducible refine' useEqL ?_
  | with_reducible refine' useHoldO ?_
  | with_reducible refine' useHold ?_
  | with_reducible refine' useHoldN ?_
  | with_reducible refine' useEqA ?_
  | fail "no")
local macro_rules | `(tactic| walk_at "ati") => `(tactic| first | exact enc0 _ | exact enc1 (by assumption) | fail "no")
/- calls of small defs -/
local macro_rules | `(tactic| walk_at "bt") => `(tactic| first | assumption | exact bt_cell (by assumption) _ | exact Bt.div (by walk_at "bt") (by decide) | fail "no")
local macro_rules | `(tactic| walk_at "v1") => `(tactic| first
  | ((with_reducible refine' useApart ?h1 ?h2 ?_); (case h1 => walk_at "hp"); (case h2 => walk_at "hp"))
  | ((with_reducible refine' useCell ?h1 ?h2 ?_); (case h1 => walk_at "hl"); (case h2 => walk_at "num"))
  | ((with_reducible refine' useNum ?h1 ?_); (case h1 => walk_at "bt"))
  | ((with_reducible refine' useStep ?_); intro p H' fr kp at_)
  | with_reducible refine' useTrue ?_
  | ((with_reducible refine' useIsStepT ?h1 ?h2 ?_); (case h1 => walk_at "hp"); (case h2 => walk_at "pl"))
  | ((with_reducible refine' useIsStepL ?h1 ?_); (case h1 => walk_at "hp"))
  | ((with_reducible refine' useIsStepN ?h1 ?h2 ?_); (case h1 => exact True.intro); (case h2 => (intro p z; cases z)))
  | ((with_reducible refine' useAlike ?h1 ?h2 ?h3 ?h4 ?_); (case h1 => walk_at "hp"); (case h2 => walk_at "hp"); (case h3 => first | assumption | omega | exact Nat.le_of_ble_eq_true rfl); (case h4 => first | assumption | omega | exact Nat.le_of_ble_eq_true rfl))
  | with_reducible refine' useWholeI ?_
  | with_reducible refine' useWholeB ?_
  | with_reducible refine' useWholeN ?_
  | ((with_reducible refine' useWhole ?h1 ?_); (case h1 => walk_at "pl1"))
  | fail "no")
/- a loom -/
local macro_rules | `(tactic| walk_at "la") => `(tactic| first
  | assumption
  | (refine' LoomAt.keep0 ?l1 ?l2; (case l2 => with_reducible assumption); (case l1 => walk_at "la"); done)
  | (refine' LoomAt.keepW ?l1 ?l2 ?n1 ?n2 ?n3 ?n4 ?n5 ?n6; (case l2 => with_reducible assumption); (case l1 => walk_at "la"); (case n1 => walk_at "nin"); (case n2 => walk_at "nin"); (case n3 => (intro h; walk_at "nin")); (case n4 => walk_at "nin"); (case n5 => walk_at "nin"); (case n6 => walk_at "nin"); done)
  | fail "no")
local macro_rules | `(tactic| walk_at "fld") => `(tactic| first | exact lf_rows | exact lf_boxes | exact lf_numbers | exact lf_places | exact lf_holder | fail "no")
local macro_rules | `(tactic| walk_at "nofld") => `(tactic| first | exact lf_over | exact lf_waits | exact lf_go | exact lf_guard | exact lf_touch | exact lf_twin | fail "no")
local macro_rules | `(tactic| walk_at "cls") => `(tactic| first | assumption | exact Txt.cls (by assumption) | fail "no")
local macro_rules | `(tactic| walk_at "na") => `(tactic| first | exact Txt.na_rows (by assumption) | exact Txt.na_boxes (by assumption) | exact Txt.na_numbers (by assumption) | exact Txt.na_places (by assumption) | exact Txt.na_holder (by assumption) | fail "no")
local macro_rules | `(tactic| walk_at "v1") => `(tactic| first
  | ((with_reducible refine' vrFld ?h ?c ?na ?l ?_); (case h => first | walk_at "hp" | exact LoomAt.ins (by walk_at "la")); (case c => walk_at "cls"); (case na => walk_at "na"); (case l => walk_at "fld"))
  | ((with_reducible refine' vrSF ?h ?c ?na ?l ?_); (case h => first | walk_at "hp" | exact LoomAt.ins (by walk_at "la")); (case c => walk_at "cls"); (case na => walk_at "na"); (case l => first | exact lf_len | exact Nat.le_of_ble_eq_true rfl); intro H' kp at_)
  | ((with_reducible refine' vrMeth ?h ?l ?_); (case h => first | walk_at "hp" | exact LoomAt.ins (by walk_at "la")); (case l => walk_at "nofld"))
  | ((with_reducible refine' useOver ?h ?_); (case h => walk_at "la"))
  | ((with_reducible refine' useOver0 ?h ?_); (case h => walk_at "la"))
  | ((with_reducible refine' useOver1 ?h ?_); (case h => walk_at "la"))
  | ((with_reducible refine' useWaits ?h ?o ?_); (case h => walk_at "la"); (case o => assumption))
  | fail "no")
/- a test that the facts decide -/
local macro_rules | `(tactic| walk_at "yes") => `(tactic| first | assumption | with_reducible exact rfl | with_reducible exact non_ne_int | with_reducible exact non_ne_ref | with_reducible exact non_ne_str | omega | (simp only [List.length_cons, List.length_nil, List.length_map, List.length_append]; omega) | fail "no")
local macro_rules | `(tactic| walk_at "yesb") => `(tactic| first | assumption | decide +kernel | fail "no")
local macro_rules | `(tactic| walk_at "wp") => `(tactic| simp only [wipe1, List.set_cons_zero, List.set_cons_succ])
local macro_rules | `(tactic| walk_at "dec") => `(tactic| first
  | ((with_reducible refine' iteWT ?h ?_); (case h => walk_at "yesb"))
  | ((with_reducible refine' iteWF ?h ?_); (case h => walk_at "yesb"))
  | ((with_reducible refine' iteST ?h ?_); (case h => decide +kernel))
  | ((with_reducible refine' iteSF ?h ?_); (case h => decide +kernel))
  | ((with_reducible refine' iteDT ?h ?_); (case h => walk_at "yes"))
  | ((with_reducible refine' iteDF ?h ?_); (case h => walk_at "yes"))
  | ((with_reducible refine' iteNDT ?h ?_); (case h => walk_at "yes"))
  | ((with_reducible refine' iteNDF ?h ?_); (case h => walk_at "yes"))
  | fail "no")
/- a branch that is not decided: both ways -/
local macro_rules | `(tactic| walk_at "br") => `(tactic| first
  | with_reducible refine' vIteN (fun hb => ?_) (fun hb => ?_)
  | with_reducible refine' vIteD (fun hb => ?_) (fun hb => ?_)
  | with_reducible refine' vIteNB (fun hb => ?_) (fun hb => ?_)
  | with_reducible refine' vIte (fun hb => ?_) (fun hb => ?_)
  | fail "no")
local macro_rules | `(tactic| walk_at "vb") => `(tactic| repeat' (first | walk_at "v1" | walk_at "dec" | walk_at "br"))
local macro_rules | `(tactic| walk_at "gob") => `(tactic| (simp only [start_cc, start_cn, start_nn, cxK]; walk_at "vb"))
local macro_rules | `(tactic| walk_at "go") => `(tactic| (simp only [start_cc, start_cn, start_nn, cxK]; walk_at "vc"))
/- try .. except -/
local macro_rules | `(tactic| walk_at "v1") => `(tactic| first
  | with_reducible refine' vTryAs ?_
  | with_reducible refine' vTryMany ?_
  | with_reducible refine' vMin2 ?_
  | with_reducible refine' vMax2 ?_
  | fail "no")
/- a stand -/
local macro_rules | `(tactic| walk_at "built") => `(tactic| (refine' StandAt.built ?t1 ?t2 ?t3 ?t4 ?t5 ?t6 ?t7 ?d1 ?d2 ?d3 ?d4 ?d5 ?d6 ?d7 ?d8 ?d9 ?e1 ?e2 ?e3 ?e4 ?e5 ?e6 ?e7 ?e8 ?e9; (case t1 => walk_at "hp"); (case t2 => walk_at "hp"); (case t3 => assumption); (case t4 => assumption); (case t5 => walk_at "hp"); (case t6 => walk_at "hp"); (case t7 => walk_at "hp"); (case d1 => walk_at "ne"); (case d2 => walk_at "ne"); (case d3 => walk_at "ne"); (case d4 => walk_at "ne"); (case d5 => walk_at "ne"); (case d6 => walk_at "ne"); (case d7 => walk_at "ne"); (case d8 => walk_at "ne"); (case d9 => walk_at "ne"); (case e1 => walk_at "ne"); (case e2 => walk_at "ne"); (case e3 => walk_at "ne"); (case e4 => walk_at "ne"); (case e5 => walk_at "ne"); (case e6 => walk_at "ne"); (case e7 => walk_at "ne"); (case e8 => walk_at "ne"); (case e9 => walk_at "ne")))
local macro_rules | `(tactic| walk_at "sa") => `(tactic| first
  | assumption
  | (refine' StandAt.keep0 ?l1 ?l2; (case l2 => with_reducible assumption); (case l1 => walk_at "sa"); done)
  | fail "no")

section
abbrev s_l_cell_at : Stmt := top 6
theorem sc_l_cell_at : FnScope ["_law_script", "_law_k"] ["_law_script", "_law_k"] (defScope s_l_cell_at) := ⟨rfl, rfl, rfl, by decide +kernel, rfl, by decide +kernel, by decide +kernel⟩
abbrev s_l_number_by : Stmt := top 7
theorem sc_l_number_by : FnScope ["_law_cell"] ["_law_cell"] (defScope s_l_number_by) := ⟨rfl, rfl, rfl, by decide +kernel, rfl, by decide +kernel, by decide +kernel⟩
abbrev s_l_step_by : Stmt := top 8
theorem sc_l_step_by : FnScope ["_law_cell", "_law_free", "_law_word"] ["_law_cell", "_law_free"] (defScope s_l_step_by) := ⟨rfl, rfl, rfl, by decide +kernel, rfl, by decide +kernel, by decide +kernel⟩
abbrev s_l_row_by : Stmt := top 9
theorem sc_l_row_by : FnScope ["_law_script", "_law_kind", "_law_seed", "_law_ends", "_law_row", "_law_size", "_law_cell", "_law_step", "_law_at"] ["_law_script", "_law_kind"] (defScope s_l_row_by) := ⟨rfl, rfl, rfl, by decide +kernel, rfl, by decide +kernel, by decide +kernel⟩
abbrev s_guarded : Stmt := top 3
theorem sc_guarded : FnScope ["row", "words", "first", "last", "at", "step", "word"] ["row"] (defScope s_guarded) := ⟨rfl, rfl, rfl, by decide +kernel, rfl, by decide +kernel, by decide +kernel⟩
abbrev s_under_guard : Stmt := top 4
theorem sc_under_guard : FnScope ["row", "kept", "step"] ["row"] (defScope s_under_guard) := ⟨rfl, rfl, rfl, by decide +kernel, rfl, by decide +kernel, by decide +kernel⟩
abbrev s_l_guarded : Stmt := top 10
theorem sc_l_guarded : FnScope ["_law_row", "_law_stage", "_law_touched", "_law_step"] ["_law_row"] (defScope s_l_guarded) := ⟨rfl, rfl, rfl, by decide +kernel, rfl, by decide +kernel, by decide +kernel⟩
abbrev s_l_alike : Stmt := top 11
theorem sc_l_alike : FnScope ["_law_found", "_law_due", "_law_k"] ["_law_found", "_law_due"] (defScope s_l_alike) := ⟨rfl, rfl, rfl, by decide +kernel, rfl, by decide +kernel, by decide +kernel⟩
abbrev s_law : Stmt := top 12
theorem sc_law : FnScope ["_law_script", "_law_kind", "_law_row", "_law_handed", "_law_found", "_law_due", "_law_put", "_law_step"] ["_law_script"] (defScope s_law) := ⟨rfl, rfl, rfl, by decide +kernel, rfl, by decide +kernel, by decide +kernel⟩
variable {P : Program} {w : World} {K : PySem.W.Frag} {mg : Str → Option Value} {base : Heap} {aBOXED aGUARDS : Addr}
theorem cl_guarded {f : Addr} {fd : FuncData} (T : Txt K mg aBOXED aGUARDS) (F : Fun K "guarded" "guarded" s_guarded f fd) (hm : mg "guarded" = some (.ref f)) (hb : Binds K fd ["row"] [])  : Cl P w K mg base 1 "guarded" ["row"] spGuarded := by
  refine Cl.of F hm hb sc_guarded (fun vs H Q E h => ?_) (fun cdv A outer s H vs Q E hr h => ?_)
  · obtain ⟨a, ps, rs, rfl, _⟩ := h
    rfl
  · obtain ⟨a, ps, rs, rfl, R, hl, k⟩ := h
    refine ⟨_, (pss_cons (ps_setLc (i := 1) (own := [("step", 5)]) (g := gName 5) rfl sc_guarded.nd rfl rfl (sw_true rfl rfl rfl (by decide +kernel)) (pi_list (L2.pv 0)) (blkOk_by (own := [("step", 5)]) (N := ["row", "words", "first", "last", "at", "step", "word"]) (sc := defScope s_guarded) (by decide +kernel)) (fun _ _ _ _ _ => pg_name (i := 5) sc_guarded.nd rfl (Or.inl rfl)) (fun _ _ _ _ _ => pts_nil) (fun _ _ _ _ _ => (pe_ix (ix_tupK K rfl) (L2.pv 5) pe_int (fun _ _ => rfl))))
    (pss_cut (ps_if (PW.pt (pw_and (pt_cmpR op_eq (pe_bm PySem.F.plainAttrs_list PySem.F.slot_list_count PySem.F.type_list_count mt_countF (L2.pv 1) (pa_cons pe_str pa_nil)) pe_int (nomark _)) (pw_and1 (pt_cmpR op_eq (pe_bm PySem.F.plainAttrs_list PySem.F.slot_list_count PySem.F.type_list_count mt_countF (L2.pv 1) (pa_cons pe_str pa_nil)) pe_int (nomark _))))) (pss_one (ps_ret (pe_cmpR op_eq (pe_callB call_lenG (by rfl) T.n_len b_len (pa_cons (pe_lc (own := [("word", 6)]) (g := gName 6) rfl sc_guarded.nd (pi_list (L2.pv 1)) (blkOk_by (own := [("word", 6)]) (N := ["row", "words", "first", "last", "at", "step", "word"]) (sc := defScope s_guarded) (by decide +kernel)) (fun _ _ _ _ _ => pg_name (i := 6) sc_guarded.nd rfl (Or.inl rfl)) (fun _ _ _ _ _ => (pts_one (pt_cmpR (op_inK K rfl) (L2.pv 6) (pe_gref rfl T.g_BOXED) (by rfl)))) (fun _ _ _ _ _ => (L2.pv 6))) pa_nil)) pe_int (nomark _)))) pss_nil)
    (pss_cut (ps_if (PW.pt (pw_or (pt_cmpR op_ne (pe_bm PySem.F.plainAttrs_list PySem.F.slot_list_count PySem.F.type_list_count mt_countF (L2.pv 1) (pa_cons pe_str pa_nil)) pe_int (nomark _)) (pw_or1 (pt_cmpR op_ne (pe_bm PySem.F.plainAttrs_list PySem.F.slot_list_count PySem.F.type_list_count mt_countF (L2.pv 1) (pa_cons pe_str pa_nil)) pe_int (nomark _))))) (pss_one (ps_ret pe_bl)) pss_nil)
    (pss_cons (ps_set (i := 2) sc_guarded.nd rfl (by first | exact Or.inl rfl | exact Or.inr rfl) (pe_bm PySem.F.plainAttrs_list PySem.F.slot_list_index PySem.F.type_list_index mt_index (L2.pv 1) (pa_cons pe_str pa_nil)))
    (pss_cons (ps_set (i := 3) sc_guarded.nd rfl (by first | exact Or.inl rfl | exact Or.inr rfl) (pe_bm PySem.F.plainAttrs_list PySem.F.slot_list_index PySem.F.type_list_index mt_index (L2.pv 1) (pa_cons pe_str pa_nil)))
    (pss_cons (ps_for (passes_of rfl) rfl (pi_range1 rfl T.n_range (pa_cons (pe_callB call_lenG (by rfl) T.n_len b_len (pa_cons (L2.pv 1) pa_nil)) pa_nil)) (pg_name (i := 4) sc_guarded.nd rfl (by first | exact Or.inl rfl | exact Or.inr rfl)) (pss_one (ps_if (PW.pt (pw_and (pt_cmpR op_in_seq (pe_ix ix_list (L2.pv 1) (L2.pv 4) (fun _ _ => rfl)) (pe_gref rfl T.g_BOXED) (by rfl)) (pw_and1 (pt_not (pt_chain op_lt op_lt (L2.pv 2) (L2.pv 4) (L2.pv 3)))))) (pss_one (ps_ret pe_bl)) pss_nil)))
    (pss_one (ps_ret (pe_cmpR op_lt (L2.pv 2) (L2.pv 3) (nomark _)))))))))), ?_⟩
    have rl := R.l
    walk_at "go"
    refine vrLcL (xs := ps.map V.ref) (SqL.of rl) (by rw [List.length_map, R.n]; omega) (fun i acc _ => acc = wordsV (rs.take i)) (fun _ _ => rfl) (fun i x acc H' D hx fD k1 a1 l1 hp => ?_) (fun W acc H1 fW k1 aW l1 hp => ?_)
    · have R1 := R.keep k1 nin_nil
      obtain ⟨p, s, rfl, hs, hp2⟩ := R1.step hx
      have hi := (List.getElem?_eq_some_iff.mp hs).1
      walk_at "wp"
      walk_at "vc"
      refine vrApp fD k1 a1 l1 (by omega) fun H5 _ _ => ?_
      rw [hp, List.take_add_one, hs]
      unfold wordsV
      rw [List.map_append]; rfl
    rw [List.length_map, R.n, List.take_length] at hp
    subst hp
    have hW := SqL.of (K := K) aW
    have wl : (wordsV rs).length = rs.length := by unfold wordsV; rw [List.length_map]
    walk_at "vc"
    refine vCut (fun σ' H' => σ' = [some (.ref a), some (.ref W), none, none, none, none, none] ∧ H' = H1 ∧ ¬ (rs.countP Stp.isT = 0 ∧ rs.countP Stp.isF = 0)) ?_ ?_
    · walk_at "vc"
      refine vCntF hW rfl (wordsV_flat rs) ?_
      rw [cnt_take]
      walk_at "vc"
      refine vIteD (fun c1 => ?_) (fun c1 => ?_)
      · walk_at "vc"
        refine vCntF hW rfl (wordsV_flat rs) ?_
        rw [cnt_free]
        walk_at "vc"
        refine vIteD (fun c2 => ?_) (fun c2 => ?_)
        · walk_at "vc"
          refine vrLcL (xs := wordsV rs) hW (by rw [wl]; omega) (fun i acc _ => acc.length = (rs.take i).countP Stp.isB) (fun _ _ => rfl) (fun i x acc H' D hx fD k2 a2 l2 hp => ?_) (fun D acc H2 fD k2 a2 l2 hp => ?_)
          · unfold wordsV at hx
            rw [List.getElem?_map] at hx
            cases hs : rs[i]? with
            | none => rw [hs] at hx; cases hx
            | some s =>
              rw [hs] at hx
              have ex : V.str s.word = x := Option.some.inj hx
              subst ex
              have hi := (List.getElem?_eq_some_iff.mp hs).1
              walk_at "wp"
              walk_at "vc"
              have ec : (rs.take (i + 1)).countP Stp.isB = (rs.take i).countP Stp.isB + if s.isB = true then 1 else 0 := by rw [List.take_add_one, hs, List.countP_append]; simp [List.countP_cons]
              cases hB : s.isB with
              | true =>
                refine vrTst1 ?_
                walk_at "vc"
                refine vrApp fD k2 a2 l2 (by omega) fun H5 _ _ => ?_
                rw [ec, hB, List.length_append, hp]; rfl
              | false =>
                refine vrTst0 k2 a2 l2 ?_
                rw [ec, hB, hp]; rfl
          rw [wl, List.take_length] at hp
          walk_at "vc"
          refine toBl (k _ _ (GuB.none (by omega) (by omega)) (k1.trans k2)) ?_
          rw [hp]
          exact decide_eq_decide.mpr ⟨fun h => by omega, fun h => by omega⟩
        · walk_at "vc"
          exact ⟨rfl, rfl, fun z => c2 (by rw [z.2]; rfl)⟩
      · walk_at "vc"
        exact ⟨rfl, rfl, fun z => c1 (by rw [z.1]; rfl)⟩
    rintro σ' H' ⟨rfl, rfl, n0⟩
    refine vCut (fun σ' H2 => σ' = [some (.ref a), some (.ref W), none, none, none, none, none] ∧ H2 = H' ∧ rs.countP Stp.isT = 1 ∧ rs.countP Stp.isF = 1) ?_ ?_
    · walk_at "vc"
      refine vCntF hW rfl (wordsV_flat rs) ?_
      rw [cnt_take]
      walk_at "vc"
      refine vIteN (fun c1 => ?_) (fun c1 => ?_)
      · walk_at "vc"
        exact k _ _ (GuB.many n0 fun z => c1 (by rw [z.1]; rfl)) k1
      · walk_at "vc"
        refine vCntF hW rfl (wordsV_flat rs) ?_
        rw [cnt_free]
        walk_at "vc"
        refine vIteN (fun c2 => ?_) (fun c2 => ?_)
        · walk_at "vc"
          exact k _ _ (GuB.many n0 fun z => c2 (by rw [z.2]; rfl)) k1
        · walk_at "vc"
          exact ⟨rfl, rfl, by omega, by omega⟩
    rintro σ' H2 ⟨rfl, rfl, ht, hf⟩
    walk_at "vc"
    refine vIndexW eqV_take hW (by omega) fun x s hx hsx => ?_
    have es := isT_eq hsx
    subst es
    walk_at "vc"
    refine vIndexW eqV_free hW (by omega) fun z s hz hsz => ?_
    have es := isF_eq hsz
    subst es
    walk_at "vc"
    refine vrForR rs.length (by rw [wl]) (by omega) (fun i σ' H' => ∃ (v4 : Option V), σ' = [some (.ref a), some (.ref W), some (.int (x : Nat)), some (.int (z : Nat)), v4, none, none] ∧ H' = H2 ∧ ∀ k s, k < i → rs[k]? = some s → s.isB = true → x < k ∧ k < z) ⟨none, rfl, rfl, fun k s hk => by omega⟩ ?_ ?_
    · rintro i σ' H' hi ⟨v4, rfl, rfl, hb⟩
      obtain ⟨s, hs⟩ : ∃ s, rs[i]? = some s := ⟨rs[i], List.getElem?_eq_getElem hi⟩
      have ea := at_word hs
      have nx : ∀ {c : Prop}, (s.isB = true → x < i ∧ i < z) → ∀ k s, k < i + 1 → rs[k]? = some s → s.isB = true → x < k ∧ k < z := fun {c} h k t hk hkt hB => by
        by_cases q : k = i
        · subst q
          rw [hs] at hkt; cases hkt
          exact h hB
        · exact hb k t (by omega) hkt hB
      walk_at "vc"
      refine vIte (fun hB => ?_) (fun hB => ?_)
      · walk_at "vb"
        all_goals first
          | exact k _ _ (GuB.bad ht hx hz hs hB (by omega)) k1
          | exact ⟨_, rfl, rfl, nx (c := True) fun _ => by omega⟩
      · walk_at "vc"
        exact ⟨_, rfl, rfl, nx (c := True) fun h => by rw [hB] at h; cases h⟩
    · rintro σ' H' ⟨v4, rfl, rfl, hb⟩
      walk_at "vc"
      refine toBl (k _ _ (GuB.good ht hf hx hz hb) k1) ?_
      exact decide_eq_decide.mpr ⟨fun h => by omega, fun h => by omega⟩
theorem cl_under_guard {f : Addr} {fd : FuncData} (T : Txt K mg aBOXED aGUARDS) (F : Fun K "under_guard" "under_guard" s_under_guard f fd) (hm : mg "under_guard" = some (.ref f)) (hb : Binds K fd ["row"] [])  : Cl P w K mg base 1 "under_guard" ["row"] spUnder := by
  refine Cl.of F hm hb sc_under_guard (fun vs H Q E h => ?_) (fun cdv A outer s H vs Q E hr h => ?_)
  · obtain ⟨a, ps, rs, rfl, _⟩ := h
    rfl
  · obtain ⟨a, ps, rs, rfl, R, hl, k⟩ := h
    refine ⟨_, (pss_cons (ps_setLc (i := 1) (own := [("step", 2)]) (g := gName 2) rfl sc_under_guard.nd rfl rfl (sw_true rfl rfl rfl (by decide +kernel)) (pi_list (L2.pv 0)) (blkOk_by (own := [("step", 2)]) (N := ["row", "kept", "step"]) (sc := defScope s_under_guard) (by decide +kernel)) (fun _ _ _ _ _ => pg_name (i := 2) sc_under_guard.nd rfl (Or.inl rfl)) (fun _ _ _ _ _ => (pts_one (pt_cmpR (op_notInK K rfl) (pe_ix (ix_tupK K rfl) (L2.pv 2) pe_int (fun _ _ => rfl)) (pe_gref rfl T.g_GUARDS) (by rfl)))) (fun _ _ _ _ _ => (L2.pv 2)))
    (pss_one (ps_ret (pe_op op_cat (pe_op op_cat (pe_lst (pa_cons (pe_tup (pa_cons pe_str pa_nil)) pa_nil)) (L2.pv 1)) (pe_lst (pa_cons (pe_tup (pa_cons pe_str pa_nil)) pa_nil)))))), ?_⟩
    have rl := R.l
    walk_at "go"
    refine vrLcL (xs := ps.map V.ref) (SqL.of rl) (by rw [List.length_map, R.n]; omega) (fun i acc H' => ∃ qs, acc = qs.map V.ref ∧ StpsAt H' qs ((rs.take i).filter fun s => !s.isG)) (fun _ _ => ⟨[], rfl, .nil⟩) (fun i x acc H' D hx fD k1 a1 l1 hp => ?_) (fun W acc H1 fW k1 aW l1 hp => ?_)
    · obtain ⟨qs, rfl, S⟩ := hp
      have R1 := R.keep k1 nin_nil
      obtain ⟨p, s, rfl, hs, hp2⟩ := R1.step hx
      have hi := (List.getElem?_eq_some_iff.mp hs).1
      have ef : (rs.take (i + 1)).filter (fun s => !s.isG) = (rs.take i).filter (fun s => !s.isG) ++ if s.isG = true then [] else [s] := by
        rw [List.take_add_one, hs, List.filter_append]
        cases hq : s.isG <;> simp [hq]
      walk_at "wp"
      walk_at "vc"
      cases hG : s.isG with
      | true =>
        refine vrTst0 k1 a1 l1 ⟨qs, rfl, ?_⟩
        rw [ef, hG, if_pos rfl, List.append_nil]; exact S
      | false =>
        refine vrTst1 ?_
        walk_at "vc"
        refine vrApp fD k1 a1 l1 (by omega) fun H5 kp5 _ => ?_
        refine ⟨qs ++ [p], by rw [List.map_append]; rfl, ?_⟩
        rw [ef, hG, if_neg (by decide)]
        exact S.push kp5 (kp5.getT hp2)
    obtain ⟨qs, rfl, S⟩ := hp
    rw [List.length_map, List.length_map, R.n] at l1
    rw [List.length_map, R.n, List.take_length] at S
    walk_at "vc"
    rename_i t Ht ft kt at_ c1 Hc1 fc1 kc1 ac1 y1 Hy1 fy1 ky1 ay1 u Hu fu ku au c2 Hc2 fc2 kc2 ac2 y3 Hy3 fy3 ky3 ay3
    have ff : Fre H y3 := by walk_at "fresh"
    have k19 : Kp [] H1 Hy3 := ((((kt.trans kc1).trans ky1).trans ku).trans kc2).trans ky3
    have kt9 : Kp [] Ht Hy3 := ((((kc1.trans ky1).trans ku).trans kc2).trans ky3)
    have ku9 : Kp [] Hu Hy3 := kc2.trans ky3
    have SA := (StpsAt.one (s := .take) (kt9.getT at_)).app ((S.keep k19).app (StpsAt.one (s := .free) (ku9.getT au)))
    exact k y3 _ Hy3 ff (k1.trans k19) (SA.row (by rw [ay3]; simp))
theorem cl_l_cell_at {f : Addr} {fd : FuncData} (T : Txt K mg aBOXED aGUARDS) (F : Fun K "_law_cell_at" "_law_cell_at" s_l_cell_at f fd) (hm : mg "_law_cell_at" = some (.ref f)) (hb : Binds K fd ["_law_script", "_law_k"] [])  : Cl P w K mg base 1 "_law_cell_at" ["_law_script", "_law_k"] (spCell K) := by
  refine Cl.of F hm hb sc_l_cell_at (fun vs H Q E h => ?_) (fun cdv A outer s H vs Q E hr h => ?_)
  · obtain ⟨a, ns, i, rfl, _⟩ := h
    rfl
  · obtain ⟨a, ns, i, rfl, hS, hi, k⟩ := h
    refine ⟨_, (pss_cons (ps_if (pt_cmpR op_lt (L2.pv 1) (pe_callB call_lenG (by rfl) T.n_len b_len (pa_cons (L2.pv 0) pa_nil)) (nomark _)) (pss_one (ps_ret (pe_ix ix_list (L2.pv 0) (L2.pv 1) (fun _ _ => rfl)))) pss_nil)
    (pss_one (ps_ret pe_int))), ?_⟩
    obtain ⟨j, rfl⟩ : ∃ j : Nat, i = j := ⟨i.toNat, by omega⟩
    walk_at "gob"
    · rename_i hj
      rw [List.length_map] at hj
      refine vIxL (v := .int (cellI ns j)) hS (at_of rfl ?_) k
      unfold cellI
      rw [List.getElem?_map, List.getD_eq_getElem?_getD, Int.toNat_natCast, List.getElem?_eq_getElem (by omega)]
      rfl
    · rename_i hj
      rw [List.length_map] at hj
      unfold cellI at k
      rw [List.getD_eq_getElem?_getD, Int.toNat_natCast, List.getElem?_eq_none (by omega)] at k
      exact k
theorem cl_l_number_by {f : Addr} {fd : FuncData} (T : Txt K mg aBOXED aGUARDS) (F : Fun K "_law_number_by" "_law_number_by" s_l_number_by f fd) (hm : mg "_law_number_by" = some (.ref f)) (hb : Binds K fd ["_law_cell"] [])  : Cl P w K mg base 1 "_law_number_by" ["_law_cell"] spNumA := by
  refine Cl.of F hm hb sc_l_number_by (fun vs H Q E h => ?_) (fun cdv A outer s H vs Q E hr h => ?_)
  · obtain ⟨c, rfl, _⟩ := h
    rfl
  · obtain ⟨c, rfl, hc, k⟩ := h
    refine ⟨_, (pss_cons (ps_if (pt_cmpR op_eq (pe_op op_mod (L2.pv 0) pe_int) pe_int (nomark _)) (pss_one (ps_ret (pe_op op_mulX (pe_op op_mod (pe_op op_mulX (L2.pv 0) (pe_op op_add (pe_op op_pow pe_int pe_int) pe_int)) (pe_op op_pow pe_int pe_int)) (pe_op op_sub pe_int (pe_op op_mulX pe_int (pe_op op_mod (pe_op op_fdiv (L2.pv 0) pe_int) pe_int)))))) pss_nil)
    (pss_one (ps_ret (pe_op op_sub (pe_op op_mod (pe_op op_fdiv (L2.pv 0) pe_int) pe_int) pe_int)))), ?_⟩
    walk_at "gob"
    all_goals exact k _
theorem cl_l_step_by {f : Addr} {fd : FuncData} (T : Txt K mg aBOXED aGUARDS) (F : Fun K "_law_step_by" "_law_step_by" s_l_step_by f fd) (hm : mg "_law_step_by" = some (.ref f)) (hb : Binds K fd ["_law_cell", "_law_free"] []) (c_l_number_by : Cl P w K mg base 1 "_law_number_by" ["_law_cell"] spNumA) : Cl P w K mg base 2 "_law_step_by" ["_law_cell", "_law_free"] spStep10 := by
  refine Cl.of F hm hb sc_l_step_by (fun vs H Q E h => ?_) (fun cdv A outer s H vs Q E hr h => ?_)
  · obtain ⟨c, fr, rfl, _⟩ := h
    rfl
  · obtain ⟨c, fr, rfl, hc, k⟩ := h
    refine ⟨_, (pss_cons (ps_set (i := 2) sc_l_step_by.nd rfl (by first | exact Or.inl rfl | exact Or.inr rfl) (pe_ix ix_list (pe_lst (pa_cons pe_str (pa_cons pe_str (pa_cons pe_str (pa_cons pe_str (pa_cons pe_str (pa_cons pe_str (pa_cons pe_str (pa_cons pe_str pa_nil))))))))) (pe_op op_mod (L2.pv 0) pe_int) (fun _ _ => rfl)))
    (pss_cons (ps_if (PW.pt (pw_and (pt_cmpR op_in_seq (L2.pv 2) (pe_tup (pa_cons pe_str (pa_cons pe_str pa_nil))) (by rfl)) (pw_and1 (pt_not (pt_val (L2.pv 1)))))) (pss_one (ps_set (i := 2) sc_l_step_by.nd rfl (by first | exact Or.inl rfl | exact Or.inr rfl) pe_str)) pss_nil)
    (pss_cons (ps_if (pt_cmpR op_in_seq (L2.pv 2) (pe_tup (pa_cons pe_str (pa_cons pe_str (pa_cons pe_str pa_nil)))) (by rfl)) (pss_one (ps_ret (pe_tup (pa_cons (L2.pv 2) (pa_cons (pe_cl c_l_number_by hr (by decide) (takes_of rfl rfl rfl rfl) rfl (pa_cons (pe_op op_fdiv (L2.pv 0) pe_int) pa_nil)) pa_nil))))) pss_nil)
    (pss_cons (ps_if (pt_cmpR op_eq (L2.pv 2) pe_str (nomark _)) (pss_one (ps_ret (pe_tup (pa_cons (L2.pv 2) (pa_cons (pe_cl c_l_number_by hr (by decide) (takes_of rfl rfl rfl rfl) rfl (pa_cons (pe_op op_fdiv (L2.pv 0) pe_int) pa_nil)) pa_nil))))) pss_nil)
    (pss_one (ps_ret (pe_tup (pa_cons (L2.pv 2) pa_nil)))))))), ?_⟩
    have hc8 : Bt (c / 8) := hc.div (by decide)
    walk_at "go"
    rcases at8s c with e | e | e | e | e | e | e | e
    all_goals rw [e]
    all_goals cases fr
    all_goals walk_at "vc"
    all_goals first
      | exact k .twice _ _ ⟨by walk_at "fresh", by walk_at "kp", by assumption⟩
      | exact k .take _ _ ⟨by walk_at "fresh", by walk_at "kp", by assumption⟩
      | exact k .free _ _ ⟨by walk_at "fresh", by walk_at "kp", by assumption⟩
      | (refine useNumA hc8 fun n => ?_; walk_at "vc"; first
          | exact k (.load n) _ _ ⟨by walk_at "fresh", by walk_at "kp", by assumption⟩
          | exact k (.plus n) _ _ ⟨by walk_at "fresh", by walk_at "kp", by assumption⟩
          | exact k (.store n) _ _ ⟨by walk_at "fresh", by walk_at "kp", by assumption⟩
          | exact k (.add n) _ _ ⟨by walk_at "fresh", by walk_at "kp", by assumption⟩)
theorem cl_l_row_by {f : Addr} {fd : FuncData} (T : Txt K mg aBOXED aGUARDS) (F : Fun K "_law_row_by" "_law_row_by" s_l_row_by f fd) (hm : mg "_law_row_by" = some (.ref f)) (hb : Binds K fd ["_law_script", "_law_kind"] []) (c_l_cell_at : Cl P w K mg base 1 "_law_cell_at" ["_law_script", "_law_k"] (spCell K)) (c_l_step_by : Cl P w K mg base 2 "_law_step_by" ["_law_cell", "_law_free"] spStep10) : Cl P w K mg base 3 "_law_row_by" ["_law_script", "_law_kind"] (spRow10 K) := by
  refine Cl.of F hm hb sc_l_row_by (fun vs H Q E h => ?_) (fun cdv A outer s H vs Q E hr h => ?_)
  · obtain ⟨a, ns, kind, rfl, _⟩ := h
    rfl
  · obtain ⟨a, ns, kind, rfl, hS, hlen, hbit, k⟩ := h
    refine ⟨_, (pss_cons (ps_set (i := 2) sc_l_row_by.nd rfl (by first | exact Or.inl rfl | exact Or.inr rfl) (pe_cl c_l_cell_at hr (by decide) (takes_of rfl rfl rfl rfl) rfl (pa_cons (L2.pv 0) (pa_cons pe_int pa_nil))))
    (pss_cons (ps_set (i := 3) sc_l_row_by.nd rfl (by first | exact Or.inl rfl | exact Or.inr rfl) (pe_lst (pa_cons (pe_cl c_l_cell_at hr (by decide) (takes_of rfl rfl rfl rfl) rfl (pa_cons (L2.pv 0) (pa_cons pe_int pa_nil))) (pa_cons (pe_cl c_l_cell_at hr (by decide) (takes_of rfl rfl rfl rfl) rfl (pa_cons (L2.pv 0) (pa_cons pe_int pa_nil))) pa_nil))))
    (pss_cons (ps_set (i := 4) sc_l_row_by.nd rfl (by first | exact Or.inl rfl | exact Or.inr rfl) (pe_lst pa_nil))
    (pss_cons (ps_set (i := 5) sc_l_row_by.nd rfl (by first | exact Or.inl rfl | exact Or.inr rfl) pe_int)
    (pss_cut (ps_if (PW.pt (pw_and (pt_cmpR op_eq (L2.pv 1) pe_int (nomark _)) (pw_and1 (pt_cmpR op_gt (pe_op op_mod (L2.pv 2) pe_int) pe_int (nomark _))))) (pss_one (ps_set (i := 5) sc_l_row_by.nd rfl (by first | exact Or.inl rfl | exact Or.inr rfl) (pe_op op_add pe_int (pe_op op_mod (pe_op op_fdiv (L2.pv 2) pe_int) pe_int)))) pss_nil)
    (pss_cut (ps_for (passes_of rfl) rfl (pi_list (pe_slice sl_list (L2.pv 0) (po_some pe_int) (po_some (pe_op op_add pe_int (L2.pv 5))))) (pg_name (i := 6) sc_l_row_by.nd rfl (by first | exact Or.inl rfl | exact Or.inr rfl)) (pss_cons (ps_set (i := 7) sc_l_row_by.nd rfl (by first | exact Or.inl rfl | exact Or.inr rfl) (pe_cl c_l_step_by hr (by decide) (takes_of rfl rfl rfl rfl) rfl (pa_cons (L2.pv 6) (pa_cons (pe_cmpR op_eq (L2.pv 1) pe_int (nomark _)) pa_nil))))
    (pss_one (ps_if (PW.pt (pw_or (pt_cmpR op_notIn_seq (pe_ix ix_tup (L2.pv 7) pe_int (fun _ _ => rfl)) (pe_tup (pa_cons pe_str (pa_cons pe_str (pa_cons pe_str pa_nil)))) (by rfl)) (pw_or1 (pt_cmpR op_gt (pe_op op_mod (pe_ix ix_list (L2.pv 3) pe_int (fun _ _ => rfl)) pe_int) pe_int (nomark _))))) (pss_one (ps_expr (pe_bm PySem.F.plainAttrs_list PySem.F.slot_list_append PySem.F.type_list_append mt_append (L2.pv 4) (pa_cons (L2.pv 7) pa_nil)))) pss_nil))))
    (pss_cons (ps_if (pt_cmpR op_eq (L2.pv 1) pe_int (nomark _)) (pss_cons (ps_set (i := 8) sc_l_row_by.nd rfl (by first | exact Or.inl rfl | exact Or.inr rfl) (pe_op op_mod (pe_ix ix_list (L2.pv 3) pe_int (fun _ _ => rfl)) (pe_op op_add (pe_callB call_lenG (by rfl) T.n_len b_len (pa_cons (L2.pv 4) pa_nil)) pe_int)))
    (pss_cut (ps_if (pt_cmpR op_gt (L2.pv 5) pe_int (nomark _)) (pss_one (ps_set (i := 8) sc_l_row_by.nd rfl (by first | exact Or.inl rfl | exact Or.inr rfl) (pe_callB (call_minG rfl) (by rfl) T.n_min b_min (pa_cons (pe_callB call_lenG (by rfl) T.n_len b_len (pa_cons (L2.pv 4) pa_nil)) (pa_cons (pe_op op_mod (pe_ix ix_list (L2.pv 3) pe_int (fun _ _ => rfl)) pe_int) pa_nil))))) pss_nil)
    (pss_cons (ps_set (i := 4) sc_l_row_by.nd rfl (by first | exact Or.inl rfl | exact Or.inr rfl) (pe_op op_cat (pe_op op_cat (pe_slice sl_list (L2.pv 4) po_none (po_some (L2.pv 8))) (pe_lst (pa_cons (pe_tup (pa_cons pe_str pa_nil)) pa_nil))) (pe_slice sl_list (L2.pv 4) (po_some (L2.pv 8)) po_none)))
    (pss_cons (ps_set (i := 8) sc_l_row_by.nd rfl (by first | exact Or.inl rfl | exact Or.inr rfl) (pe_op op_mod (pe_ix ix_list (L2.pv 3) pe_int (fun _ _ => rfl)) (pe_op op_add (pe_callB call_lenG (by rfl) T.n_len b_len (pa_cons (L2.pv 4) pa_nil)) pe_int)))
    (pss_cut (ps_if (pt_cmpR op_gt (L2.pv 5) pe_int (nomark _)) (pss_one (ps_set (i := 8) sc_l_row_by.nd rfl (by first | exact Or.inl rfl | exact Or.inr rfl) (pe_callB (call_maxG rfl) (by rfl) T.n_max b_max (pa_cons pe_int (pa_cons (pe_op op_sub (pe_callB call_lenG (by rfl) T.n_len b_len (pa_cons (L2.pv 4) pa_nil)) (pe_op op_mod (pe_ix ix_list (L2.pv 3) pe_int (fun _ _ => rfl)) pe_int)) pa_nil))))) pss_nil)
    (pss_one (ps_set (i := 4) sc_l_row_by.nd rfl (by first | exact Or.inl rfl | exact Or.inr rfl) (pe_op op_cat (pe_op op_cat (pe_slice sl_list (L2.pv 4) po_none (po_some (L2.pv 8))) (pe_lst (pa_cons (pe_tup (pa_cons pe_str pa_nil)) pa_nil))) (pe_slice sl_list (L2.pv 4) (po_some (L2.pv 8)) po_none))))))))) pss_nil)
    (pss_one (ps_ret (L2.pv 4)))))))))), ?_⟩
    walk_at "go"
    rename_i E2 HE fE kE aE RW HR fR kR aR
    have fRH : Fre H RW := fR.back kE
    have nER : E2 ∉ [RW] := by simpa using ne_fr fR aE
    have gE : HR E2 = some (.lst [.int (cellI ns 2), .int (cellI ns 3)]) := kR.get0 aE
    have KHR : Kp [] H HR := kE.trans kR
    have hSR := KHR.seq0 hS
    clear kE kR
    refine vCut (fun σ' H' => ∃ (sz : Nat), 1 ≤ sz ∧ sz ≤ 58 ∧ σ' = [some (.ref a), some (.int kind), some (.int (cellI ns 1)), some (.ref E2), some (.ref RW), some (.int sz), none, none, none] ∧ H' = HR) ?_ ?_
    · walk_at "vb"
      all_goals first
        | exact ⟨58, by decide, by decide, rfl, rfl⟩
        | exact ⟨(1 + cellI ns 1 / 3 % 6).toNat, by omega, by omega, by rw [Int.toNat_of_nonneg (by omega)], rfl⟩
    rintro σ' H' ⟨sz, hs1, hs58, rfl, rfl⟩
    refine vCut (fun σ' H2 => ∃ (v6 v7 : Option V) (ps : List Addr) (rs : List Stp), σ' = [some (.ref a), some (.int kind), some (.int (cellI ns 1)), some (.ref E2), some (.ref RW), some (.int sz), v6, v7, none] ∧ Kp [] H H2 ∧ H2 E2 = some (.lst [.int (cellI ns 2), .int (cellI ns 3)]) ∧ RowAt H2 RW ps rs ∧ rs.length ≤ 63) ?_ ?_
    · walk_at "vc"
      rename_i pc Hc fc kc ac
      rw [cutV_map] at ac
      have hcl := cut_len ns (some 4) (some (4 + (sz : Int)))
      have hcm : ∀ c ∈ cutG ns (some 4) (some (4 + (sz : Int))), Bt c := fun c hc => bt_of (hbit c (cut_mem hc))
      generalize cutG ns (some 4) (some (4 + (sz : Int))) = cs at ac hcl hcm
      have npc : pc ∉ [RW] := by simpa using (ne_fr fc aR).symm
      have K2 : Kp [] H Hc := KHR.trans kc
      refine vrForL (xs := cs.map V.int) (SqL.of ac) (fun i σ' H2 => ∃ (v6 v7 : Option V) (ps : List Addr) (rs : List Stp), σ' = [some (.ref a), some (.int kind), some (.int (cellI ns 1)), some (.ref E2), some (.ref RW), some (.int sz), v6, v7, none] ∧ Kp [RW] Hc H2 ∧ RowAt H2 RW ps rs ∧ rs.length ≤ i) ?_ ?_ ?_ ?_
      · exact ⟨none, none, [], [], rfl, Kp.refl, ⟨kc.get0 aR, rfl, fun i p s h => by simp at h⟩, Nat.le_refl _⟩
      · rintro i σ' H2 _ ⟨v6, v7, ps, rs, rfl, k4, _⟩
        exact SqL.of (k4.get ac npc)
      · rintro i x σ' H2 hx ⟨v6, v7, ps, rs, rfl, k4, R, lr⟩
        have hi := (List.getElem?_eq_some_iff.mp hx).1
        rw [List.length_map] at hi
        obtain ⟨c, hc, rfl, _⟩ := get_map_int hx
        have hbt := hcm c hc
        have eg := k4.get (kc.get0 gE) nER
        walk_at "vc"
        refine ⟨c, _, rfl, hbt, fun s p H3 ⟨f3, k3, a3⟩ => ?_⟩
        have R3 : RowAt H3 RW ps rs := R.keep k3 nin_nil
        have hrl3 := R3.l
        have eg3 := k3.get0 eg
        have hz : (ps.map V.ref).length < sizeLine := len_lt (by rw [List.length_map, R.n]; omega)
        walk_at "vb"
        all_goals first
          | (rename_i pq H4 fq kq0 aq _ H5 kq a5; exact ⟨_, _, ps ++ [p], rs ++ [s], rfl, ((k4.step0 k3).step0 kq0).trans kq, RowAt.push2 R3 kq a5 kq0 a3, by simp; omega⟩)
          | (rename_i pq H4 fq kq0 aq _ _ H5 kq a5; exact ⟨_, _, ps ++ [p], rs ++ [s], rfl, ((k4.step0 k3).step0 kq0).trans kq, RowAt.push2 R3 kq a5 kq0 a3, by simp; omega⟩)
          | (rename_i pq H4 fq kq0 aq _ _; exact ⟨_, _, ps, rs, rfl, (k4.step0 k3).step0 kq0, R3.keep kq0 nin_nil, by omega⟩)
      · rintro σ' H2 ⟨v6, v7, ps, rs, rfl, k4, R, lr⟩
        rw [List.length_map] at lr
        exact ⟨v6, v7, ps, rs, rfl, K2.step k4 (sub_cons (.inr fRH) sub_nil), k4.get (kc.get0 gE) nER, R, by omega⟩
    rintro σ' H2 ⟨v6, v7, ps, rs, rfl, K2, gE2, R, lr⟩
    have rl := R.l
    have pn := R.n
    walk_at "vc"
    refine vIteD (fun hk => ?_) (fun hk => ?_)
    · walk_at "vc"
      obtain ⟨n, en, hn⟩ : ∃ n : Nat, cellI ns 2 % (((ps.map V.ref).length : Nat) + 1 : Int) = (n : Int) ∧ n ≤ ps.length := by
        have h1 := Int.emod_nonneg (cellI ns 2) (show (((ps.map V.ref).length : Nat) + 1 : Int) ≠ 0 by omega)
        have h2 := Int.emod_lt_of_pos (cellI ns 2) (show 0 < (((ps.map V.ref).length : Nat) + 1 : Int) by omega)
        rw [List.length_map] at h1 h2 ⊢
        exact ⟨(cellI ns 2 % ((ps.length : Nat) + 1 : Int)).toNat, by omega, by omega⟩
      rw [en]
      refine vCut (fun σ' H' => ∃ n : Nat, n ≤ ps.length ∧ σ' = [some (.ref a), some (.int kind), some (.int (cellI ns 1)), some (.ref E2), some (.ref RW), some (.int sz), v6, v7, some (.int (n : Int))] ∧ H' = H2) ?_ ?_
      · walk_at "vb"
        · refine ⟨(if cellI ns 2 % 3 < (((ps.map V.ref).length : Nat) : Int) then cellI ns 2 % 3 else (((ps.map V.ref).length : Nat) : Int)).toNat, ?_, ?_, rfl⟩
          · rw [List.length_map]; split <;> omega
          · rw [Int.toNat_of_nonneg (by split <;> omega)]
        · exact ⟨n, hn, rfl, rfl⟩
      rintro σ' H' ⟨n, hn, rfl, rfl⟩
      walk_at "vc"
      rename_i y1 G1 fy1 ky1 ay1 t Gt ft kt at_ c1 Gc1 fc1 kc1 ac1
      rw [cutV_lo (by rw [List.length_map]; omega), ← List.map_take] at ay1
      have z1 : ((ps.take n).map V.ref).length + [V.ref t].length ≤ sizeLine := len_le (by rw [List.length_map, List.length_take, List.length_singleton]; omega)
      walk_at "vc"
      rename_i y2 G2 fy2 ky2 ay2 y3 G3 fy3 ky3 ay3
      rw [cutV_hi (by rw [List.length_map]; omega), ← List.map_drop] at ay3
      have z2 : ((ps.take n).map V.ref ++ [V.ref t]).length + ((ps.drop n).map V.ref).length ≤ sizeLine := len_le (by rw [List.length_append, List.length_map, List.length_map, List.length_take, List.length_drop, List.length_singleton]; omega)
      walk_at "vc"
      rename_i y4 G4 fy4 ky4 ay4
      have K24 : Kp [] H' G4 := (((((ky1.trans kt).trans kc1).trans ky2).trans ky3).trans ky4)
      have tt : G4 t = some (.tup (Stp.enc .take)) := ky4.getT (ky3.getT (ky2.getT (kc1.getT at_)))
      have R4 := R.insert K24 n tt ay4
      have l4 : (rs.take n ++ [Stp.take] ++ rs.drop n).length = rs.length + 1 := ins_len (by omega)
      have f4 : Fre H y4 := (((((fy4.back ky3).back ky2).back kc1).back kt).back ky1).back K2
      have gE4 := K24.get0 gE2
      have K4 : Kp [] H G4 := K2.trans K24
      have el : (((ps.take n).map V.ref ++ [V.ref t] ++ (ps.drop n).map V.ref).length : Nat) = rs.length + 1 := by simp; omega
      rw [el]
      generalize rs.take n ++ [Stp.take] ++ rs.drop n = rs4 at R4 l4
      generalize ps.take n ++ [t] ++ ps.drop n = ps4 at R4
      clear K24 ky1 kt kc1 ky2 ky3 ky4 ay1 at_ ac1 ay2 ay3 tt z1 z2
      have rl4 := R4.l
      have pn4 := R4.n
      clear ay4 el
      obtain ⟨n5, en5, hn5⟩ : ∃ n : Nat, cellI ns 3 % (((rs.length + 1 : Nat) : Int) + 1) = (n : Int) ∧ n ≤ ps4.length := by
        have h1 := Int.emod_nonneg (cellI ns 3) (show (((rs.length + 1 : Nat) : Int) + 1) ≠ 0 by omega)
        have h2 := Int.emod_lt_of_pos (cellI ns 3) (show 0 < (((rs.length + 1 : Nat) : Int) + 1) by omega)
        exact ⟨(cellI ns 3 % (((rs.length + 1 : Nat) : Int) + 1)).toNat, by omega, by omega⟩
      rw [en5]
      refine vCut (fun σ' H' => ∃ n : Nat, n ≤ ps4.length ∧ σ' = [some (.ref a), some (.int kind), some (.int (cellI ns 1)), some (.ref E2), some (.ref y4), some (.int sz), v6, v7, some (.int (n : Int))] ∧ H' = G4) ?_ ?_
      · walk_at "vb"
        · refine ⟨(if (((ps4.map V.ref).length : Nat) : Int) - cellI ns 3 % 3 > 0 then (((ps4.map V.ref).length : Nat) : Int) - cellI ns 3 % 3 else 0).toNat, ?_, ?_, rfl⟩
          · rw [List.length_map]; split <;> omega
          · rw [Int.toNat_of_nonneg (by split <;> omega)]
        · exact ⟨n5, hn5, rfl, rfl⟩
      rintro σ' H' ⟨n, hn, rfl, rfl⟩
      walk_at "vc"
      rename_i w1 G1 fw1 kw1 aw1 u Gt ft kt at_ c1 Gc1 fc1 kc1 ac1
      rw [cutV_lo (by rw [List.length_map]; omega), ← List.map_take] at aw1
      have z1 : ((ps4.take n).map V.ref).length + [V.ref u].length ≤ sizeLine := len_le (by rw [List.length_map, List.length_take, List.length_singleton]; omega)
      walk_at "vc"
      rename_i w2 G2 fw2 kw2 aw2 w3 G3 fw3 kw3 aw3
      rw [cutV_hi (by rw [List.length_map]; omega), ← List.map_drop] at aw3
      have z2 : ((ps4.take n).map V.ref ++ [V.ref u]).length + ((ps4.drop n).map V.ref).length ≤ sizeLine := len_le (by rw [List.length_append, List.length_map, List.length_map, List.length_take, List.length_drop, List.length_singleton]; omega)
      walk_at "vc"
      rename_i w4 G4 fw4 kw4 aw4
      have K24 : Kp [] H' G4 := (((((kw1.trans kt).trans kc1).trans kw2).trans kw3).trans kw4)
      have tt : G4 u = some (.tup (Stp.enc .free)) := kw4.getT (kw3.getT (kw2.getT (kc1.getT at_)))
      have R5 := R4.insert K24 n tt aw4
      have l5 : (rs4.take n ++ [Stp.free] ++ rs4.drop n).length = rs4.length + 1 := ins_len (by omega)
      have f5 : Fre H w4 := (((((fw4.back kw3).back kw2).back kc1).back kt).back kw1).back K4
      exact k w4 _ _ G4 (by omega) f5 (K4.trans K24) R5
    · walk_at "vc"
      exact k RW ps rs H2 (by omega) fRH K2 R
theorem cl_l_guarded {f : Addr} {fd : FuncData} (T : Txt K mg aBOXED aGUARDS) (F : Fun K "_law_guarded" "_law_guarded" s_l_guarded f fd) (hm : mg "_law_guarded" = some (.ref f)) (hb : Binds K fd ["_law_row"] [])  : Cl P w K mg base 1 "_law_guarded" ["_law_row"] spLawG := by
  refine Cl.of F hm hb sc_l_guarded (fun vs H Q E h => ?_) (fun cdv A outer s H vs Q E hr h => ?_)
  · obtain ⟨a, ps, rs, rfl, _⟩ := h
    rfl
  · obtain ⟨a, ps, rs, rfl, R, k⟩ := h
    refine ⟨_, (pss_cons (ps_set (i := 1) sc_l_guarded.nd rfl (by first | exact Or.inl rfl | exact Or.inr rfl) pe_int)
    (pss_cons (ps_set (i := 2) sc_l_guarded.nd rfl (by first | exact Or.inl rfl | exact Or.inr rfl) pe_bl)
    (pss_cons (ps_for (passes_of rfl) rfl (pi_list (L2.pv 0)) (pg_name (i := 3) sc_l_guarded.nd rfl (by first | exact Or.inl rfl | exact Or.inr rfl)) (pss_one (ps_if (pt_cmpR op_eq (pe_ix ix_tup (L2.pv 3) pe_int (fun _ _ => rfl)) pe_str (nomark _)) (pss_cons (ps_if (pt_cmpR op_ne (L2.pv 1) pe_int (nomark _)) (pss_one (ps_ret pe_bl)) pss_nil)
    (pss_one (ps_set (i := 1) sc_l_guarded.nd rfl (by first | exact Or.inl rfl | exact Or.inr rfl) pe_int))) (pss_one (ps_if (pt_cmpR op_eq (pe_ix ix_tup (L2.pv 3) pe_int (fun _ _ => rfl)) pe_str (nomark _)) (pss_cons (ps_if (pt_cmpR op_ne (L2.pv 1) pe_int (nomark _)) (pss_one (ps_ret pe_bl)) pss_nil)
    (pss_one (ps_set (i := 1) sc_l_guarded.nd rfl (by first | exact Or.inl rfl | exact Or.inr rfl) pe_int))) (pss_one (ps_if (PW.pt (pw_and (pt_cmpR op_in_seq (pe_ix ix_tup (L2.pv 3) pe_int (fun _ _ => rfl)) (pe_tup (pa_cons pe_str (pa_cons pe_str (pa_cons pe_str pa_nil)))) (by rfl)) (pw_and1 (pt_cmpR op_ne (L2.pv 1) pe_int (nomark _))))) (pss_one (ps_set (i := 2) sc_l_guarded.nd rfl (by first | exact Or.inl rfl | exact Or.inr rfl) pe_bl)) pss_nil)))))))
    (pss_one (ps_ret (pe_and (pe_not (L2.pv 2)) (pe_one (pe_cmpR op_ne (L2.pv 1) pe_int (nomark _))))))))), ?_⟩
    obtain ⟨M, eM⟩ : ∃ M, mach 0 false rs = M := ⟨_, rfl⟩
    rw [eM] at k
    walk_at "go"
    refine vrForL (xs := ps.map V.ref) (SqL.of R.l) (fun i σ' H' => ∃ (st : Nat) (tc : Bool) (v3 : Option V), σ' = [some (.ref a), some (.int st), some (.bl tc), v3] ∧ Kp [] H H' ∧ mach st tc (rs.drop i) = M) ⟨0, false, none, rfl, Kp.refl, eM⟩ ?_ ?_ ?_
    · rintro i σ' H' _ ⟨st, tc, v3, rfl, k1, _⟩
      exact SqL.of (R.keep k1 nin_nil).l
    · rintro i x σ' H' hx ⟨st, tc, v3, rfl, k1, hm⟩
      have R1 := R.keep k1 nin_nil
      obtain ⟨p, s, rfl, hs, hp⟩ := R1.step hx
      rw [drop_get hs] at hm
      unfold mach at hm
      walk_at "vc"
      refine vIte (fun hT => ?_) (fun hT => ?_)
      · rw [if_pos hT] at hm
        walk_at "vc"
        refine vIteN (fun h0 => ?_) (fun h0 => ?_)
        · rw [if_neg (by omega)] at hm
          walk_at "vc"
          exact toBl (k _ k1) hm.symm
        · rw [if_pos (by omega)] at hm
          walk_at "vc"
          exact ⟨1, tc, _, rfl, k1, hm⟩
      · rw [if_neg (by rw [hT]; decide)] at hm
        walk_at "vc"
        refine vIte (fun hF => ?_) (fun hF => ?_)
        · rw [if_pos hF] at hm
          walk_at "vc"
          refine vIteN (fun h0 => ?_) (fun h0 => ?_)
          · rw [if_neg (by omega)] at hm
            walk_at "vc"
            exact toBl (k _ k1) hm.symm
          · rw [if_pos (by omega)] at hm
            walk_at "vc"
            exact ⟨2, tc, _, rfl, k1, hm⟩
        · rw [if_neg (by rw [hF]; decide)] at hm
          walk_at "vc"
          rename_i q H2 fq kq aq
          refine vIte (fun hB => ?_) (fun hB => ?_)
          · walk_at "vc"
            refine vIteN (fun h0 => ?_) (fun h0 => ?_)
            · rw [hB, decide_eq_true (show st ≠ 1 by omega), Bool.and_self, Bool.or_true] at hm
              walk_at "vc"
              exact ⟨st, true, _, rfl, k1.trans kq, hm⟩
            · rw [decide_eq_false (show ¬ st ≠ 1 by omega), Bool.and_false, Bool.or_false] at hm
              walk_at "vc"
              exact ⟨st, tc, _, rfl, k1.trans kq, hm⟩
          · rw [hB, Bool.false_and, Bool.or_false] at hm
            walk_at "vc"
            exact ⟨st, tc, _, rfl, k1.trans kq, hm⟩
    · rintro σ' H' ⟨st, tc, v3, rfl, k1, hm⟩
      rw [List.length_map, R.n, List.drop_eq_nil_of_le (Nat.le_refl _)] at hm
      unfold mach at hm
      walk_at "vc"
      refine vIteNB (fun ht => ?_) (fun ht => ?_)
      · rw [ht] at hm
        walk_at "vc"
        refine toBl (k _ k1) (hm.symm.trans ?_)
        by_cases q : st = 1
        · subst q; rfl
        · rw [decide_eq_true q, decide_eq_false (show ¬ ((st : Nat) : Int) = 1 by omega)]; rfl
      · rw [ht] at hm
        walk_at "vc"
        exact toBl (k _ k1) hm.symm
theorem cl_l_alike {f : Addr} {fd : FuncData} (T : Txt K mg aBOXED aGUARDS) (F : Fun K "_law_alike" "_law_alike" s_l_alike f fd) (hm : mg "_law_alike" = some (.ref f)) (hb : Binds K fd ["_law_found", "_law_due"] [])  : Cl P w K mg base 1 "_law_alike" ["_law_found", "_law_due"] spAlikeR := by
  refine Cl.of F hm hb sc_l_alike (fun vs H Q E h => ?_) (fun cdv A outer s H vs Q E hr h => ?_)
  · obtain ⟨a, b, ps, qs, rs, rfl, _⟩ := h
    rfl
  · obtain ⟨a, b, ps, qs, rs, rfl, R, S, hl, k⟩ := h
    refine ⟨_, (pss_cons (ps_if (PW.pt (pw_or (pt_not (pt_val (pe_callB call_isi (by rfl) T.n_isinstance b_isinstance (pa_cons (L2.pv 0) (pa_cons (pe_bltn (v := .ty "list") (by rfl) T.n_list b_list rfl) pa_nil))))) (pw_or1 (pt_cmpR op_ne (pe_callB call_lenG (by rfl) T.n_len b_len (pa_cons (L2.pv 0) pa_nil)) (pe_callB call_lenG (by rfl) T.n_len b_len (pa_cons (L2.pv 1) pa_nil)) (nomark _))))) (pss_one (ps_ret pe_bl)) pss_nil)
    (pss_cons (ps_for (passes_of rfl) rfl (pi_range1 rfl T.n_range (pa_cons (pe_callB call_lenG (by rfl) T.n_len b_len (pa_cons (L2.pv 1) pa_nil)) pa_nil)) (pg_name (i := 2) sc_l_alike.nd rfl (by first | exact Or.inl rfl | exact Or.inr rfl)) (pss_cons (ps_if (PW.pt (pw_or (pt_not (pt_val (pe_callB call_isi (by rfl) T.n_isinstance b_isinstance (pa_cons (pe_ix ix_list (L2.pv 0) (L2.pv 2) (fun _ _ => rfl)) (pa_cons (pe_bltn (v := .ty "tuple") (by rfl) T.n_tuple b_tuple rfl) pa_nil))))) (pw_or (pt_cmpR op_ne (pe_callB call_lenG (by rfl) T.n_len b_len (pa_cons (pe_ix ix_list (L2.pv 0) (L2.pv 2) (fun _ _ => rfl)) pa_nil)) (pe_callB call_lenG (by rfl) T.n_len b_len (pa_cons (pe_ix ix_list (L2.pv 1) (L2.pv 2) (fun _ _ => rfl)) pa_nil)) (nomark _)) (pw_or1 (pt_cmpR (op_neD hr.units) (pe_ix ix_list (L2.pv 0) (L2.pv 2) (fun _ _ => rfl)) (pe_ix ix_list (L2.pv 1) (L2.pv 2) (fun _ _ => rfl)) (nomark _)))))) (pss_one (ps_ret pe_bl)) pss_nil)
    (pss_one (ps_if (PW.pt (pw_and (pt_cmpR op_eq (pe_callB call_lenG (by rfl) T.n_len b_len (pa_cons (pe_ix ix_list (L2.pv 1) (L2.pv 2) (fun _ _ => rfl)) pa_nil)) pe_int (nomark _)) (pw_and1 (PW.pt (pw_or (pt_not (pt_val (pe_callB call_isi (by rfl) T.n_isinstance b_isinstance (pa_cons (pe_ix ix_tup (pe_ix ix_list (L2.pv 0) (L2.pv 2) (fun _ _ => rfl)) pe_int (fun _ _ => rfl)) (pa_cons (pe_bltn (v := .ty "int") (by rfl) T.n_int b_int rfl) pa_nil))))) (pw_or1 (pt_val (pe_callB call_isi (by rfl) T.n_isinstance b_isinstance (pa_cons (pe_ix ix_tup (pe_ix ix_list (L2.pv 0) (L2.pv 2) (fun _ _ => rfl)) pe_int (fun _ _ => rfl)) (pa_cons (pe_bltn (v := .ty "bool") (by rfl) T.n_bool b_bool rfl) pa_nil)))))))))) (pss_one (ps_ret pe_bl)) pss_nil))))
    (pss_one (ps_ret pe_bl)))), ?_⟩
    have r1 := R.l
    have r2 := S.l
    have hll : ((((ps.map V.ref).length : Nat) : Int)) = (((qs.map V.ref).length : Nat) : Int) := by rw [List.length_map, List.length_map, R.n, S.n]
    walk_at "go"
    refine vrForR rs.length (by rw [List.length_map, S.n]) (by omega) (fun i σ' H' => (∃ v : Option V, σ' = [some (.ref a), some (.ref b), v]) ∧ H' = H) ⟨⟨none, rfl⟩, rfl⟩ ?_ ?_
    · rintro i σ' H' hi ⟨⟨v, rfl⟩, rfl⟩
      obtain ⟨s, hs⟩ : ∃ s, rs[i]? = some s := ⟨rs[i], List.getElem?_eq_getElem hi⟩
      obtain ⟨p, _, e1, h1⟩ := R.get hs
      obtain ⟨q, _, e2, h2⟩ := S.get hs
      have st := useNeStep (K := K) (Q := fun v H => v = .bl false ∧ H = H') h1 h2 ⟨rfl, rfl⟩
      walk_at "vc"
      refine useNeStep h1 h2 ?_
      cases s with
      | load y => (change H' p = some (.tup [.str "load", .int y]) at h1; change H' q = some (.tup [.str "load", .int y]) at h2; walk_at "vc"; exact ⟨⟨_, rfl⟩, rfl⟩)
      | plus y => (change H' p = some (.tup [.str "plus", .int y]) at h1; change H' q = some (.tup [.str "plus", .int y]) at h2; walk_at "vc"; exact ⟨⟨_, rfl⟩, rfl⟩)
      | store y => (change H' p = some (.tup [.str "store", .int y]) at h1; change H' q = some (.tup [.str "store", .int y]) at h2; walk_at "vc"; exact ⟨⟨_, rfl⟩, rfl⟩)
      | add y => (change H' p = some (.tup [.str "add", .int y]) at h1; change H' q = some (.tup [.str "add", .int y]) at h2; walk_at "vc"; exact ⟨⟨_, rfl⟩, rfl⟩)
      | twice => (change H' p = some (.tup [.str "twice"]) at h1; change H' q = some (.tup [.str "twice"]) at h2; walk_at "vc"; exact ⟨⟨_, rfl⟩, rfl⟩)
      | take => (change H' p = some (.tup [.str "take"]) at h1; change H' q = some (.tup [.str "take"]) at h2; walk_at "vc"; exact ⟨⟨_, rfl⟩, rfl⟩)
      | free => (change H' p = some (.tup [.str "free"]) at h1; change H' q = some (.tup [.str "free"]) at h2; walk_at "vc"; exact ⟨⟨_, rfl⟩, rfl⟩)
    · rintro σ' H' ⟨⟨v, rfl⟩, rfl⟩
      walk_at "vc"
      exact k
theorem ok_law {f : Addr} {fd : FuncData} (T : Txt K mg aBOXED aGUARDS) (F : Fun K "law" "law" s_law f fd) (c_l_row_by : Cl P w K mg base 3 "_law_row_by" ["_law_script", "_law_kind"] (spRow10 K)) (c_guarded : Cl P w K mg base 1 "guarded" ["row"] spGuarded) (c_under_guard : Cl P w K mg base 1 "under_guard" ["row"] spUnder) (c_l_cell_at : Cl P w K mg base 1 "_law_cell_at" ["_law_script", "_law_k"] (spCell K)) (c_l_guarded : Cl P w K mg base 1 "_law_guarded" ["_law_row"] spLawG) (c_l_alike : Cl P w K mg base 1 "_law_alike" ["_law_found", "_law_due"] spAlikeR) : FnOk P w K mg base (L2.CX P w) 4 f fd ["_law_script"] (spLaw K) := by
  refine F.okX sc_law (fun vs H Q E h => ?_) (fun cdv A outer s H vs Q E hr h => ?_)
  · obtain ⟨a, ns, rfl, _⟩ := h
    rfl
  · obtain ⟨a, ns, rfl, hS, hlen, hbit, k⟩ := h
    refine ⟨_, (pss_cons (ps_set (i := 1) sc_law.nd rfl (by first | exact Or.inl rfl | exact Or.inr rfl) (pe_op op_mod (pe_cl c_l_cell_at hr (by decide) (takes_of rfl rfl rfl rfl) rfl (pa_cons (L2.pv 0) (pa_cons pe_int pa_nil))) pe_int))
    (pss_cons (ps_set (i := 2) sc_law.nd rfl (by first | exact Or.inl rfl | exact Or.inr rfl) (pe_cl c_l_row_by hr (by decide) (takes_of rfl rfl rfl rfl) rfl (pa_cons (L2.pv 0) (pa_cons (L2.pv 1) pa_nil))))
    (pss_cons (ps_set (i := 3) sc_law.nd rfl (by first | exact Or.inl rfl | exact Or.inr rfl) (pe_callTy call_listG (by rfl) T.n_list b_list (pa_cons (L2.pv 2) pa_nil)))
    (pss_cons (ps_set (i := 4) sc_law.nd rfl (by first | exact Or.inl rfl | exact Or.inr rfl) (pe_cl c_guarded hr (by decide) (takes_of rfl rfl rfl rfl) rfl (pa_cons (L2.pv 3) pa_nil)))
    (pss_cons (ps_if (PW.pt (pw_or (pt_not (pt_val (pe_callB call_isi (by rfl) T.n_isinstance b_isinstance (pa_cons (L2.pv 4) (pa_cons (pe_bltn (v := .ty "bool") (by rfl) T.n_bool b_bool rfl) pa_nil))))) (pw_or (pt_cmpR op_ne (L2.pv 4) (pe_cl c_l_guarded hr (by decide) (takes_of rfl rfl rfl rfl) rfl (pa_cons (L2.pv 2) pa_nil)) (nomark _)) (pw_or1 (pt_not (pt_val (pe_cl c_l_alike hr (by decide) (takes_of rfl rfl rfl rfl) rfl (pa_cons (L2.pv 3) (pa_cons (L2.pv 2) pa_nil))))))))) (pss_one (ps_ret pe_bl)) pss_nil)
    (pss_cons (ps_set (i := 5) sc_law.nd rfl (by first | exact Or.inl rfl | exact Or.inr rfl) (pe_op op_cat (pe_op op_cat (pe_lst (pa_cons (pe_tup (pa_cons pe_str pa_nil)) pa_nil)) (pe_lc (own := [("_law_step", 7)]) (g := gName 7) rfl sc_law.nd (pi_list (L2.pv 2)) (blkOk_by (own := [("_law_step", 7)]) (N := ["_law_script", "_law_kind", "_law_row", "_law_handed", "_law_found", "_law_due", "_law_put", "_law_step"]) (sc := defScope s_law) (by decide +kernel)) (fun _ _ _ _ _ => pg_name (i := 7) sc_law.nd rfl (Or.inl rfl)) (fun _ _ _ _ _ => (pts_one (pt_cmpR (op_notInK K rfl) (pe_ix (ix_tupK K rfl) (L2.pv 7) pe_int (fun _ _ => rfl)) (pe_tup (pa_cons pe_str (pa_cons pe_str pa_nil))) (by rfl)))) (fun _ _ _ _ _ => (L2.pv 7)))) (pe_lst (pa_cons (pe_tup (pa_cons pe_str pa_nil)) pa_nil))))
    (pss_cons (ps_set (i := 6) sc_law.nd rfl (by first | exact Or.inl rfl | exact Or.inr rfl) (pe_cl c_under_guard hr (by decide) (takes_of rfl rfl rfl rfl) rfl (pa_cons (L2.pv 3) pa_nil)))
    (pss_cons (ps_if (PW.pt (pw_or (pt_not (pt_val (pe_cl c_l_alike hr (by decide) (takes_of rfl rfl rfl rfl) rfl (pa_cons (L2.pv 6) (pa_cons (L2.pv 5) pa_nil))))) (pw_or1 (pt_not (pt_val (pe_cl c_l_alike hr (by decide) (takes_of rfl rfl rfl rfl) rfl (pa_cons (L2.pv 3) (pa_cons (L2.pv 2) pa_nil)))))))) (pss_one (ps_ret pe_bl)) pss_nil)
    (pss_one (ps_ret (pe_cmpR op_eq (pe_cl c_guarded hr (by decide) (takes_of rfl rfl rfl rfl) rfl (pa_cons (pe_callTy call_listG (by rfl) T.n_list b_list (pa_cons (L2.pv 5) pa_nil)) pa_nil)) pe_bl (nomark _)))))))))))), ?_⟩
    walk_at "go"
    refine ⟨a, ns, _, rfl, hS, hlen, hbit, fun p ps rs H1 hl fp k1 R => ?_⟩
    have rl := R.l
    have pn := R.n
    walk_at "vc"
    rename_i q H2 fq kq aq
    have R2 := R.keep kq nin_nil
    have S2 := R.copy kq aq
    refine ⟨q, ps, rs, rfl, S2, by omega, fun b H3 hb k3 => ?_⟩
    have R3 := R2.keep k3 nin_nil
    have S3 := S2.keep k3 nin_nil
    walk_at "vc"
    refine ⟨p, ps, rs, rfl, R3, fun H4 k4 => ?_⟩
    have R4 := R3.keep k4 nin_nil
    have S4 := S3.keep k4 nin_nil
    rw [hb.mach]
    walk_at "vc"
    refine useAlikeR S4 R4 (by omega) ?_
    walk_at "vc"
    rename_i t Ht ft kt at_ c1 Hc fc kc ac
    have R5 : RowAt Hc p ps rs := R4.keep (kt.trans kc) nin_nil
    have S5 : RowAt Hc q ps rs := S4.keep (kt.trans kc) nin_nil
    have rl5 := R5.l
    refine vrLcL (xs := ps.map V.ref) (SqL.of rl5) (by rw [List.length_map]; omega) (fun i acc H' => ∃ qs, acc = qs.map V.ref ∧ StpsAt H' qs ((rs.take i).filter fun s => !s.isG)) (fun _ _ => ⟨[], rfl, .nil⟩) (fun i x acc H' D hx fD k1 a1 l1 hp => ?_) (fun W acc H1 fW k1 aW l1 hp => ?_)
    · obtain ⟨qs, rfl, S⟩ := hp
      have R1 := R5.keep k1 nin_nil
      obtain ⟨pp, s, rfl, hs, hp2⟩ := R1.step hx
      have hi := (List.getElem?_eq_some_iff.mp hs).1
      have ef : (rs.take (i + 1)).filter (fun s => !s.isG) = (rs.take i).filter (fun s => !s.isG) ++ if s.isG = true then [] else [s] := by
        rw [List.take_add_one, hs, List.filter_append]
        cases hq : s.isG <;> simp [hq]
      walk_at "wp"
      walk_at "vc"
      rename_i u Hu fu ku au
      have S1 := S.keep ku
      cases hG : s.isG with
      | true =>
        refine vrTst0 (k1.trans ku) (ku.get0 a1) l1 ⟨qs, rfl, ?_⟩
        rw [ef, hG, if_pos rfl, List.append_nil]; exact S1
      | false =>
        refine vrTst1 ?_
        walk_at "vc"
        refine vrApp fD (k1.trans ku) (ku.get0 a1) l1 (by omega) fun H5 kp5 _ => ?_
        refine ⟨qs ++ [pp], by rw [List.map_append]; rfl, ?_⟩
        rw [ef, hG, if_neg (by decide)]
        exact S1.push kp5 (kp5.getT (ku.getT hp2))
    obtain ⟨qs, rfl, S⟩ := hp
    rw [List.length_map, List.length_map, R.n] at l1
    rw [List.length_map, R.n, List.take_length] at S
    walk_at "vc"
    rename_i y1 Hy1 fy1 ky1 ay1 u Hu fu ku au c2 Hc2 fc2 kc2 ac2 y3 Hy3 fy3 ky3 ay3
    have kt9 : Kp [] Ht Hy3 := (((((kc.trans k1).trans ky1).trans ku).trans kc2).trans ky3)
    have ku9 : Kp [] Hu Hy3 := kc2.trans ky3
    have k19 : Kp [] H1 Hy3 := (((ky1.trans ku).trans kc2).trans ky3)
    have kc9 : Kp [] Hc Hy3 := k1.trans k19
    have SA := (StpsAt.one (s := .take) (kt9.getT at_)).app ((S.keep k19).app (StpsAt.one (s := .free) (ku9.getT au)))
    have DR : RowAt Hy3 y3 ([t] ++ (qs ++ [u])) (underS rs) := SA.row (by rw [ay3]; simp)
    have lu : (underS rs).length ≤ 200 := by
      unfold underS
      have := List.length_filter_le (fun s : Stp => !s.isG) rs
      simp; omega
    have R9 := R5.keep kc9 nin_nil
    have S9 := S5.keep kc9 nin_nil
    clear k19 kc9 kt9 ku9
    refine ⟨q, ps, rs, rfl, S9, by omega, fun pu qu H10 fpu k10 UR => ?_⟩
    have R10 := R9.keep k10 nin_nil
    have S10 := S9.keep k10 nin_nil
    have D10 := DR.keep k10 nin_nil
    walk_at "vc"
    refine useAlikeR UR D10 (by omega) ?_
    walk_at "vc"
    refine useAlikeR S10 R10 (by omega) ?_
    have dl := D10.l
    walk_at "vc"
    rename_i z H11 fz kz az
    refine ⟨z, _, underS rs, rfl, D10.copy kz az, lu, fun b H12 hb k12 => ?_⟩
    rw [under_guB rs hb]
    walk_at "vc"
    exact k _
end
theorem all_mk {l : PySem.W.OpenLaw} {w : World} {K : PySem.W.Frag} {h : Heap} {mg : Str → Option Value} {fa aBOXED aGUARDS f_l_cell_at f_l_number_by f_l_step_by f_l_row_by f_guarded f_under_guard f_l_guarded f_l_alike f_law : Addr} (X : K.In h) (G : h.Ns mainGlobals mg) (hfa : mg "law" = some (.ref fa))
    {od_BOXED : Option Addr} {n_BOXED : Nat} {sl_BOXED : Array (Option Value)} {t_BOXED_0 : Tok} {t_BOXED_1 : Tok} {t_BOXED_2 : Tok}
    {od_GUARDS : Option Addr} {n_GUARDS : Nat} {sl_GUARDS : Array (Option Value)} {t_GUARDS_0 : Tok} {t_GUARDS_1 : Tok}
    {od_l_cell_at an_l_cell_at : Option Addr} {sl_l_cell_at : Array (Option Value)} {oc_l_cell_at kV_l_cell_at dc_l_cell_at pm_l_cell_at cd_l_cell_at ct_l_cell_at : Value}
    {od_l_number_by an_l_number_by : Option Addr} {sl_l_number_by : Array (Option Value)} {oc_l_number_by kV_l_number_by dc_l_number_by pm_l_number_by cd_l_number_by ct_l_number_by : Value}
    {od_l_step_by an_l_step_by : Option Addr} {sl_l_step_by : Array (Option Value)} {oc_l_step_by kV_l_step_by dc_l_step_by pm_l_step_by cd_l_step_by ct_l_step_by : Value}
    {od_l_row_by an_l_row_by : Option Addr} {sl_l_row_by : Array (Option Value)} {oc_l_row_by kV_l_row_by dc_l_row_by pm_l_row_by cd_l_row_by ct_l_row_by : Value}
    {od_guarded an_guarded : Option Addr} {sl_guarded : Array (Option Value)} {oc_guarded kV_guarded dc_guarded pm_guarded cd_guarded ct_guarded : Value}
    {od_under_guard an_under_guard : Option Addr} {sl_under_guard : Array (Option Value)} {oc_under_guard kV_under_guard dc_under_guard pm_under_guard cd_under_guard ct_under_guard : Value}
    {od_l_guarded an_l_guarded : Option Addr} {sl_l_guarded : Array (Option Value)} {oc_l_guarded kV_l_guarded dc_l_guarded pm_l_guarded cd_l_guarded ct_l_guarded : Value}
    {od_l_alike an_l_alike : Option Addr} {sl_l_alike : Array (Option Value)} {oc_l_alike kV_l_alike dc_l_alike pm_l_alike cd_l_alike ct_l_alike : Value}
    {od_law an_law : Option Addr} {sl_law : Array (Option Value)} {oc_law kV_law dc_law pm_law cd_law ct_law : Value}
    (z_n_range : PySem.W.nsIn K mainGlobals "range" = some none)
    (z_n_list : PySem.W.nsIn K mainGlobals "list" = some none)
    (z_n_len : PySem.W.nsIn K mainGlobals "len" = some none)
    (z_n_min : PySem.W.nsIn K mainGlobals "min" = some none)
    (z_n_max : PySem.W.nsIn K mainGlobals "max" = some none)
    (z_n_isinstance : PySem.W.nsIn K mainGlobals "isinstance" = some none)
    (z_n_bool : PySem.W.nsIn K mainGlobals "bool" = some none)
    (z_n_tuple : PySem.W.nsIn K mainGlobals "tuple" = some none)
    (z_n_int : PySem.W.nsIn K mainGlobals "int" = some none)
    (z_g_BOXED : PySem.W.nsIn K mainGlobals "BOXED" = some (some (.ref aBOXED)))
    (z_s_BOXED : K.lookup aBOXED = some ⟨.type "tuple", od_BOXED, .seq #[.str "load" t_BOXED_0, .str "plus" t_BOXED_1, .str "store" t_BOXED_2] n_BOXED, sl_BOXED⟩)
    (z_g_GUARDS : PySem.W.nsIn K mainGlobals "GUARDS" = some (some (.ref aGUARDS)))
    (z_s_GUARDS : K.lookup aGUARDS = some ⟨.type "tuple", od_GUARDS, .seq #[.str "take" t_GUARDS_0, .str "free" t_GUARDS_1] n_GUARDS, sl_GUARDS⟩)
    (za_l_cell_at : PySem.W.nsIn K mainGlobals "_law_cell_at" = some (some (.ref f_l_cell_at)))
    (zl_l_cell_at : K.lookup f_l_cell_at = some ⟨oc_l_cell_at, od_l_cell_at, .func (PySem.W.fnOf "_law_cell_at" "_law_cell_at" (defArgs s_l_cell_at) (defBody s_l_cell_at) (defScope s_l_cell_at) .none kV_l_cell_at dc_l_cell_at pm_l_cell_at an_l_cell_at cd_l_cell_at ct_l_cell_at), sl_l_cell_at⟩)
    (zc_l_cell_at : PySem.W.codeIn K cd_l_cell_at "_law_cell_at" = true)
    (zk_l_cell_at : PySem.W.keepIn K (.ref f_l_cell_at) = true)
    (za_l_number_by : PySem.W.nsIn K mainGlobals "_law_number_by" = some (some (.ref f_l_number_by)))
    (zl_l_number_by : K.lookup f_l_number_by = some ⟨oc_l_number_by, od_l_number_by, .func (PySem.W.fnOf "_law_number_by" "_law_number_by" (defArgs s_l_number_by) (defBody s_l_number_by) (defScope s_l_number_by) .none kV_l_number_by dc_l_number_by pm_l_number_by an_l_number_by cd_l_number_by ct_l_number_by), sl_l_number_by⟩)
    (zc_l_number_by : PySem.W.codeIn K cd_l_number_by "_law_number_by" = true)
    (zk_l_number_by : PySem.W.keepIn K (.ref f_l_number_by) = true)
    (za_l_step_by : PySem.W.nsIn K mainGlobals "_law_step_by" = some (some (.ref f_l_step_by)))
    (zl_l_step_by : K.lookup f_l_step_by = some ⟨oc_l_step_by, od_l_step_by, .func (PySem.W.fnOf "_law_step_by" "_law_step_by" (defArgs s_l_step_by) (defBody s_l_step_by) (defScope s_l_step_by) .none kV_l_step_by dc_l_step_by pm_l_step_by an_l_step_by cd_l_step_by ct_l_step_by), sl_l_step_by⟩)
    (zc_l_step_by : PySem.W.codeIn K cd_l_step_by "_law_step_by" = true)
    (zk_l_step_by : PySem.W.keepIn K (.ref f_l_step_by) = true)
    (za_l_row_by : PySem.W.nsIn K mainGlobals "_law_row_by" = some (some (.ref f_l_row_by)))
    (zl_l_row_by : K.lookup f_l_row_by = some ⟨oc_l_row_by, od_l_row_by, .func (PySem.W.fnOf "_law_row_by" "_law_row_by" (defArgs s_l_row_by) (defBody s_l_row_by) (defScope s_l_row_by) .none kV_l_row_by dc_l_row_by pm_l_row_by an_l_row_by cd_l_row_by ct_l_row_by), sl_l_row_by⟩)
    (zc_l_row_by : PySem.W.codeIn K cd_l_row_by "_law_row_by" = true)
    (zk_l_row_by : PySem.W.keepIn K (.ref f_l_row_by) = true)
    (za_guarded : PySem.W.nsIn K mainGlobals "guarded" = some (some (.ref f_guarded)))
    (zl_guarded : K.lookup f_guarded = some ⟨oc_guarded, od_guarded, .func (PySem.W.fnOf "guarded" "guarded" (defArgs s_guarded) (defBody s_guarded) (defScope s_guarded) .none kV_guarded dc_guarded pm_guarded an_guarded cd_guarded ct_guarded), sl_guarded⟩)
    (zc_guarded : PySem.W.codeIn K cd_guarded "guarded" = true)
    (zk_guarded : PySem.W.keepIn K (.ref f_guarded) = true)
    (za_under_guard : PySem.W.nsIn K mainGlobals "under_guard" = some (some (.ref f_under_guard)))
    (zl_under_guard : K.lookup f_under_guard = some ⟨oc_under_guard, od_under_guard, .func (PySem.W.fnOf "under_guard" "under_guard" (defArgs s_under_guard) (defBody s_under_guard) (defScope s_under_guard) .none kV_under_guard dc_under_guard pm_under_guard an_under_guard cd_under_guard ct_under_guard), sl_under_guard⟩)
    (zc_under_guard : PySem.W.codeIn K cd_under_guard "under_guard" = true)
    (zk_under_guard : PySem.W.keepIn K (.ref f_under_guard) = true)
    (za_l_guarded : PySem.W.nsIn K mainGlobals "_law_guarded" = some (some (.ref f_l_guarded)))
    (zl_l_guarded : K.lookup f_l_guarded = some ⟨oc_l_guarded, od_l_guarded, .func (PySem.W.fnOf "_law_guarded" "_law_guarded" (defArgs s_l_guarded) (defBody s_l_guarded) (defScope s_l_guarded) .none kV_l_guarded dc_l_guarded pm_l_guarded an_l_guarded cd_l_guarded ct_l_guarded), sl_l_guarded⟩)
    (zc_l_guarded : PySem.W.codeIn K cd_l_guarded "_law_guarded" = true)
    (zk_l_guarded : PySem.W.keepIn K (.ref f_l_guarded) = true)
    (za_l_alike : PySem.W.nsIn K mainGlobals "_law_alike" = some (some (.ref f_l_alike)))
    (zl_l_alike : K.lookup f_l_alike = some ⟨oc_l_alike, od_l_alike, .func (PySem.W.fnOf "_law_alike" "_law_alike" (defArgs s_l_alike) (defBody s_l_alike) (defScope s_l_alike) .none kV_l_alike dc_l_alike pm_l_alike an_l_alike cd_l_alike ct_l_alike), sl_l_alike⟩)
    (zc_l_alike : PySem.W.codeIn K cd_l_alike "_law_alike" = true)
    (zk_l_alike : PySem.W.keepIn K (.ref f_l_alike) = true)
    (za_law : PySem.W.nsIn K mainGlobals "law" = some (some (.ref f_law)))
    (zl_law : K.lookup f_law = some ⟨oc_law, od_law, .func (PySem.W.fnOf "law" "law" (defArgs s_law) (defBody s_law) (defScope s_law) .none kV_law dc_law pm_law an_law cd_law ct_law), sl_law⟩)
    (zc_law : PySem.W.codeIn K cd_law "law" = true)
    (zk_law : PySem.W.keepIn K (.ref f_law) = true) :
    ∃ fd : FuncData, (∀ (s : Shared) (v : Value), BindsTo s fd ⟨[v], []⟩ [("_law_script", v)]) ∧ ∀ base : Heap, K.In base → base.Ns mainGlobals mg → FnOk l.prog w K mg base (L2.CX l.prog w) 4 fa fd ["_law_script"] (spLaw K) := by
  have e := hfa.symm.trans (PySem.W.mg_of X G za_law)
  cases e
  have T : Txt K mg aBOXED aGUARDS := ⟨(PySem.W.mg_none_of X G z_n_range), (PySem.W.mg_none_of X G z_n_list), (PySem.W.mg_none_of X G z_n_len), (PySem.W.mg_none_of X G z_n_min), (PySem.W.mg_none_of X G z_n_max), (PySem.W.mg_none_of X G z_n_isinstance), (PySem.W.mg_none_of X G z_n_bool), (PySem.W.mg_none_of X G z_n_tuple), (PySem.W.mg_none_of X G z_n_int), (PySem.W.mg_of X G z_g_BOXED), (tup_of z_s_BOXED (by show 3 ≤ sizeLine; decide) (.cons ⟨_, rfl⟩ (.cons ⟨_, rfl⟩ (.cons ⟨_, rfl⟩ (.nil))))), (PySem.W.mg_of X G z_g_GUARDS), (tup_of z_s_GUARDS (by show 2 ≤ sizeLine; decide) (.cons ⟨_, rfl⟩ (.cons ⟨_, rfl⟩ (.nil))))⟩
  have F_l_cell_at := fun_mk (st := s_l_cell_at) zl_l_cell_at zc_l_cell_at zk_l_cell_at
  have b_l_cell_at := F_l_cell_at.binds (ps := ["_law_script", "_law_k"]) fun _ _ _ _ _ _ us hl => match us, hl with | [_, _], _ => rfl
  have F_l_number_by := fun_mk (st := s_l_number_by) zl_l_number_by zc_l_number_by zk_l_number_by
  have b_l_number_by := F_l_number_by.binds (ps := ["_law_cell"]) fun _ _ _ _ _ _ us hl => match us, hl with | [_], _ => rfl
  have F_l_step_by := fun_mk (st := s_l_step_by) zl_l_step_by zc_l_step_by zk_l_step_by
  have b_l_step_by := F_l_step_by.binds (ps := ["_law_cell", "_law_free"]) fun _ _ _ _ _ _ us hl => match us, hl with | [_, _], _ => rfl
  have F_l_row_by := fun_mk (st := s_l_row_by) zl_l_row_by zc_l_row_by zk_l_row_by
  have b_l_row_by := F_l_row_by.binds (ps := ["_law_script", "_law_kind"]) fun _ _ _ _ _ _ us hl => match us, hl with | [_, _], _ => rfl
  have F_guarded := fun_mk (st := s_guarded) zl_guarded zc_guarded zk_guarded
  have b_guarded := F_guarded.binds (ps := ["row"]) fun _ _ _ _ _ _ us hl => match us, hl with | [_], _ => rfl
  have F_under_guard := fun_mk (st := s_under_guard) zl_under_guard zc_under_guard zk_under_guard
  have b_under_guard := F_under_guard.binds (ps := ["row"]) fun _ _ _ _ _ _ us hl => match us, hl with | [_], _ => rfl
  have F_l_guarded := fun_mk (st := s_l_guarded) zl_l_guarded zc_l_guarded zk_l_guarded
  have b_l_guarded := F_l_guarded.binds (ps := ["_law_row"]) fun _ _ _ _ _ _ us hl => match us, hl with | [_], _ => rfl
  have F_l_alike := fun_mk (st := s_l_alike) zl_l_alike zc_l_alike zk_l_alike
  have b_l_alike := F_l_alike.binds (ps := ["_law_found", "_law_due"]) fun _ _ _ _ _ _ us hl => match us, hl with | [_, _], _ => rfl
  have F_law := fun_mk (st := s_law) zl_law zc_law zk_law
  refine ⟨PySem.W.fnOf "law" "law" (defArgs s_law) (defBody s_law) (defScope s_law) .none kV_law dc_law pm_law an_law cd_law ct_law, fun s v => .of_eq rfl, fun base _ _ => ?_⟩
  · have c_l_cell_at : Cl l.prog w K mg base 1 "_law_cell_at" ["_law_script", "_law_k"] (spCell K) := cl_l_cell_at T F_l_cell_at (PySem.W.mg_of X G za_l_cell_at) b_l_cell_at 
    have c_l_number_by : Cl l.prog w K mg base 1 "_law_number_by" ["_law_cell"] spNumA := cl_l_number_by T F_l_number_by (PySem.W.mg_of X G za_l_number_by) b_l_number_by 
    have c_l_step_by : Cl l.prog w K mg base 2 "_law_step_by" ["_law_cell", "_law_free"] spStep10 := cl_l_step_by T F_l_step_by (PySem.W.mg_of X G za_l_step_by) b_l_step_by c_l_number_by
    have c_l_row_by : Cl l.prog w K mg base 3 "_law_row_by" ["_law_script", "_law_kind"] (spRow10 K) := cl_l_row_by T F_l_row_by (PySem.W.mg_of X G za_l_row_by) b_l_row_by c_l_cell_at c_l_step_by
    have c_guarded : Cl l.prog w K mg base 1 "guarded" ["row"] spGuarded := cl_guarded T F_guarded (PySem.W.mg_of X G za_guarded) b_guarded 
    have c_under_guard : Cl l.prog w K mg base 1 "under_guard" ["row"] spUnder := cl_under_guard T F_under_guard (PySem.W.mg_of X G za_under_guard) b_under_guard 
    have c_l_guarded : Cl l.prog w K mg base 1 "_law_guarded" ["_law_row"] spLawG := cl_l_guarded T F_l_guarded (PySem.W.mg_of X G za_l_guarded) b_l_guarded 
    have c_l_alike : Cl l.prog w K mg base 1 "_law_alike" ["_law_found", "_law_due"] spAlikeR := cl_l_alike T F_l_alike (PySem.W.mg_of X G za_l_alike) b_l_alike 
    exact ok_law T F_law c_l_row_by c_guarded c_under_guard c_l_cell_at c_l_guarded c_l_alike
end G
open PySem PySem.W PyProof.Rows in
set_option maxRecDepth 100000 in
set_option maxHeartbeats 0 in
theorem PySem.Challenge.cw_guardrows_k10_rows_under_guard_holds : PySem.Challenge.rw_guardrows_k10_rows_under_guard.Holds := by
  w_on; o_law; k_head; (case hw => w_witness2)
  k_fill
  refine G.walk (l := PySem.Challenge.rw_guardrows_k10_rows_under_guard) (x := "_law_script") (k := 4) rfl rfl (fun w h Y => PySem.W.kIn_of Y) ?F ⟨rfl, by decide, by decide⟩
  case F =>
    intro w mg fa h KX Gn hmg
    refine' G.all_mk KX Gn hmg ?z_n_range ?z_n_list ?z_n_len ?z_n_min ?z_n_max ?z_n_isinstance ?z_n_bool ?z_n_tuple ?z_n_int ?z_g_BOXED ?z_s_BOXED ?z_g_GUARDS ?z_s_GUARDS ?za_l_cell_at ?zl_l_cell_at ?zc_l_cell_at ?zk_l_cell_at ?za_l_number_by ?zl_l_number_by ?zc_l_number_by ?zk_l_number_by ?za_l_step_by ?zl_l_step_by ?zc_l_step_by ?zk_l_step_by ?za_l_row_by ?zl_l_row_by ?zc_l_row_by ?zk_l_row_by ?za_guarded ?zl_guarded ?zc_guarded ?zk_guarded ?za_under_guard ?zl_under_guard ?zc_under_guard ?zk_under_guard ?za_l_guarded ?zl_l_guarded ?zc_l_guarded ?zk_l_guarded ?za_l_alike ?zl_l_alike ?zc_l_alike ?zk_l_alike ?za_law ?zl_law ?zc_law ?zk_law
    (case z_n_range => k_is)
    (case z_n_list => k_is)
    (case z_n_len => k_is)
    (case z_n_min => k_is)
    (case z_n_max => k_is)
    (case z_n_isinstance => k_is)
    (case z_n_bool => k_is)
    (case z_n_tuple => k_is)
    (case z_n_int => k_is)
    (case z_g_BOXED => k_is)
    (case z_s_BOXED => k_is)
    (case z_g_GUARDS => k_is)
    (case z_s_GUARDS => k_is)
    (case za_l_cell_at => k_is)
    (case zl_l_cell_at => k_is)
    (case zc_l_cell_at => k_is)
    (case zk_l_cell_at => k_is)
    (case za_l_number_by => k_is)
    (case zl_l_number_by => k_is)
    (case zc_l_number_by => k_is)
    (case zk_l_number_by => k_is)
    (case za_l_step_by => k_is)
    (case zl_l_step_by => k_is)
    (case zc_l_step_by => k_is)
    (case zk_l_step_by => k_is)
    (case za_l_row_by => k_is)
    (case zl_l_row_by => k_is)
    (case zc_l_row_by => k_is)
    (case zk_l_row_by => k_is)
    (case za_guarded => k_is)
    (case zl_guarded => k_is)
    (case zc_guarded => k_is)
    (case zk_guarded => k_is)
    (case za_under_guard => k_is)
    (case zl_under_guard => k_is)
    (case zc_under_guard => k_is)
    (case zk_under_guard => k_is)
    (case za_l_guarded => k_is)
    (case zl_l_guarded => k_is)
    (case zc_l_guarded => k_is)
    (case zk_l_guarded => k_is)
    (case za_l_alike => k_is)
    (case zl_l_alike => k_is)
    (case zc_l_alike => k_is)
    (case zk_l_alike => k_is)
    (case za_law => k_is)
    (case zl_law => k_is)
    (case zc_law => k_is)
    (case zk_law => k_is)

