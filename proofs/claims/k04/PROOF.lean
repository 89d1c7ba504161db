import PyProof.Rows.All
import Wide.All
import OpenK.AllK
import Wide.FinOn
import HandS.ForMost
import HandS.ForExc
import HandS.TryMany
import HandS.IsInst
import HandS.ExcIs
import HandS.EndBits
import HandS.HotCalls
import HandS.SetFor
import HandS.Style
import HandS.Dict
import HandS.Deep
import KE.KeyNested
import PySem.Challenge.RW_guardrows_k04_rows_refused
set_option Elab.async false
set_option linter.all false
set_option maxRecDepth 100000
set_option maxHeartbeats 4000000
namespace G
open PySem PySem.Spec PyProof.Rows L2
abbrev St := L2.St
/-! ### callees -/
/-- a def that may be called by its name -/
structure Cl (P : Program) (w : World) (K : PySem.W.Frag) (mg : Str → Option Value) (base : Heap) (k : Nat) (x : Str) (ps : List Str) (sp : Sp) : Prop where
  ex : ∃ (f : Addr) (fd : FuncData), FnOk P w K mg base (L2.CX P w) k f fd ps sp ∧ mg x = some (.ref f) ∧ PySem.W.keepIn K (.ref f) = true ∧ Binds K fd ps []
/-- a method -/
structure Mt (P : Program) (w : World) (K : PySem.W.Frag) (mg : Str → Option Value) (base : Heap) (k : Nat) (C : Addr) (m : Str) (ps : List Str) (sp : Sp) : Prop where
  ex : ∃ (f : Addr) (fd : FuncData), Cls K C ∧ Meth K C m f ∧ FnOk P w K mg base (L2.CX P w) k f fd ps sp ∧ Binds K fd ps []
/-- a class that is made -/
structure Mr (P : Program) (w : World) (K : PySem.W.Frag) (mg : Str → Option Value) (base : Heap) (k : Nat) (x : Str) (C : Addr) (ps : List Str) (sp : Sp) : Prop where
  ex : ∃ (f : Addr) (fd : FuncData), Mk K C f ∧ FnOk P w K mg base (L2.CX P w) k f fd ps sp ∧ mg x = some (.ref C) ∧ Binds K fd ps []
section
variable {P : Program} {w : World} {K : PySem.W.Frag} {mg : Str → Option Value} {base : Heap}
theorem Cl.of {x : Str} {st : Stmt} {f : Addr} {fd : FuncData} {N ps : List Str} {k : Nat} {sp : Sp} (F : Fun K x x st f fd) (hm : mg x = some (.ref f)) (hb : Binds K fd ps []) (S : FnScope N ps (defScope st)) (len : ∀ vs H Q E, sp vs H Q E → vs.length = ps.length)
    (hbody : ∀ (cdv : Value) (A : Around) (outer : List Env) (s : Shared) (H : Hp) (vs : List V) (Q : VK) (E : XK), Room k (A.deeper (envOfC x (defScope st) s.heap.objs.size f cdv)) → sp vs H Q E →
      ∃ t, PSs (cxOf (L2.CX P w) P w K mg base N x (defScope st) f cdv A outer s H E) (defBody st) t ∧ t { nx := fun _ H' => Q .non H', rt := Q } (start N vs) H) : Cl P w K mg base (k + 1) x ps sp :=
  ⟨f, fd, F.okX S len hbody, hm, F.kp, hb⟩
theorem Mt.of {m qual : Str} {C : Addr} {st : Stmt} {f : Addr} {fd : FuncData} {N ps : List Str} {k : Nat} {sp : Sp} (F : Fun K m qual st f fd) (c : Cls K C) (hm : Meth K C m f) (hb : Binds K fd ps []) (S : FnScope N ps (defScope st)) (len : ∀ vs H Q E, sp vs H Q E → vs.length = ps.length)
    (hbody : ∀ (cdv : Value) (A : Around) (outer : List Env) (s : Shared) (H : Hp) (vs : List V) (Q : VK) (E : XK), Room k (A.deeper (envOfC qual (defScope st) s.heap.objs.size f cdv)) → sp vs H Q E →
      ∃ t, PSs (cxOf (L2.CX P w) P w K mg base N qual (defScope st) f cdv A outer s H E) (defBody st) t ∧ t { nx := fun _ H' => Q .non H', rt := Q } (start N vs) H) : Mt P w K mg base (k + 1) C m ps sp :=
  ⟨f, fd, c, hm, F.okX S len hbody, hb⟩
theorem Mr.of {x qual : Str} {C : Addr} {st : Stmt} {f : Addr} {fd : FuncData} {N ps : List Str} {k : Nat} {sp : Sp} (F : Fun K "__init__" qual st f fd) (c : Mk K C f) (hm : mg x = some (.ref C)) (hb : Binds K fd ps []) (S : FnScope N ps (defScope st)) (len : ∀ vs H Q E, sp vs H Q E → vs.length = ps.length)
    (hbody : ∀ (cdv : Value) (A : Around) (outer : List Env) (s : Shared) (H : Hp) (vs : List V) (Q : VK) (E : XK), Room k (A.deeper (envOfC qual (defScope st) s.heap.objs.size f cdv)) → sp vs H Q E →
      ∃ t, PSs (cxOf (L2.CX P w) P w K mg base N qual (defScope st) f cdv A outer s H E) (defBody st) t ∧ t { nx := fun _ H' => Q .non H', rt := Q } (start N vs) H) : Mr P w K mg base (k + 1) x C ps sp :=
  ⟨f, fd, c, F.okX S len hbody, hm, hb⟩
end
section
variable {X : Cx} {k j : Nat} {C : Addr} {ps : List Str} {sp : Sp} {W : WX} {x m : Str} {p pos apos : Pos} {e o : Expr} {es : List Expr} {ta : TE} {t : TA}
theorem pe_cl (c : Cl X.prog X.w X.K X.mg X.base k x ps sp) (hr : Room j X.A) (hk : k ≤ j) (tk : Takes X W) (hg : Gl X x) (ha : PA X (e :: es) t)
    (hdb : (x == ("__debug__" : Str)) = false := by decide) (he : starEach (e :: es) X.env = (false, eval e X.env) :: starEach es X.env := by rfl) (hpl : (backTo pos (starEach es X.env)).any (·.1) = false := by rfl) :
    PE X (.Call (.Name x p) (e :: es) [] pos) (tCallS sp (WE W) t) := by
  obtain ⟨f, fd, F, hm, kp, b⟩ := c.ex
  exact pe_callS F (hr.mono hk) hg hm kp b (fun σ => passAt tk σ) ha hdb he hpl
def tMethS (C : Addr) (m : Str) (sp : Sp) (E : St → XK) (ta : TE) (t : TA) : TE := fun σ H Q => ta σ H fun x H1 => ∃ a dx fs, x = .ref a ∧ H1 a = some (.ins C dx fs) ∧ fs.lookup m = none ∧
  t σ H1 fun vs H2 => sp (x :: vs) H2 Q (E σ)
theorem pe_mt {pl : Sem Bool} (c : Mt X.prog X.w X.K X.mg X.base k C m ps sp) (hr : Room j X.A) (hk : k ≤ j) (tk : Takes X W) (he : PE X o ta) (ha : PA X (e :: es) t)
    (hst : starEach (e :: es) X.env = (false, eval e X.env) :: starEach es X.env := by rfl) (hpl : (backTo pos (starEach es X.env)).any (·.1) = false := by rfl)
    (ht : eval (.Call (.Attribute o m apos) (e :: es) [] pos) X.env = (do
      let ov ← eval o X.env
      standAt apos.atName
      let (f, first) ← holding [ov] (getMethod ov m pl)
      callWith pos f first (backTo pos (starEach (e :: es) X.env)) (backToKw pos (keywordEach [] X.env))) := by rfl) :
    PE X (.Call (.Attribute o m apos) (e :: es) [] pos) (tMethS C m sp (WE W) ta t) := by
  obtain ⟨f, fd, hc, hm, F, b⟩ := c.ex
  refine ⟨fun pins s σ H Q I h => ?_⟩
  refine PySem.W.methodCall_KW (pl := pl) (thn (he.run pins s σ H _ I h) fun u s1 ⟨x, H1, I1, rx, a, dx, fs, ex, ea, l, q⟩ => ?_) ht
  subst ex
  obtain rfl : u = Value.ref a := rx
  refine getmeth_ok I1 ea hc hm l ?_
  refine PySem.W.callWith_K (first := [.ref a]) (h₀ := X.base) I.ok.mod.kin hm.kp (thn (ha.run pos pins s1 σ H1 _ I1 q) fun us s2 ⟨vs, H2, I2, r, q2⟩ => ⟨I2.kIn, ?_⟩) hst hpl
  exact run_fnS (us := .ref a :: us) (vs := .ref a :: vs) F (hr.mono hk) b (passAt tk σ) I2 (.cons rfl r) q2
theorem pe_mt0 {pl : Sem Bool} (c : Mt X.prog X.w X.K X.mg X.base k C m ps sp) (hr : Room j X.A) (hk : k ≤ j) (tk : Takes X W) (he : PE X o ta)
    (ht : eval (.Call (.Attribute o m apos) [] [] pos) X.env = (do
      let ov ← eval o X.env
      standAt apos.atName
      let (f, first) ← holding [ov] (getMethod ov m pl)
      callWith pos f first (backTo pos (starEach [] X.env)) (backToKw pos (keywordEach [] X.env))) := by rfl) :
    PE X (.Call (.Attribute o m apos) [] [] pos) (tMethS C m sp (WE W) ta tNil) := by
  obtain ⟨f, fd, hc, hm, F, b⟩ := c.ex
  refine ⟨fun pins s σ H Q I h => ?_⟩
  refine PySem.W.methodCall_KW (pl := pl) (thn (he.run pins s σ H _ I h) fun u s1 ⟨x, H1, I1, rx, a, dx, fs, ex, ea, l, q⟩ => ?_) ht
  subst ex
  obtain rfl : u = Value.ref a := rx
  refine getmeth_ok I1 ea hc hm l ?_
  exact PySem.W.callWith_K0 (first := [.ref a]) I1.kIn hm.kp (run_fnS (us := [.ref a]) (vs := [.ref a]) F (hr.mono hk) b (passAt tk σ) I1 (.cons rfl .nil) q)
def tMakeS (C : Addr) (sp : Sp) (E : St → XK) (t : TA) : TE := fun σ H Q => t σ H fun vs H1 => ∀ x dx, H1 x = none → H1 dx = none → dx ≠ x →
  sp (.ref x :: vs) (upd (upd H1 dx (.own x)) x (.ins C dx [])) (fun v H2 => v = .non ∧ Q (.ref x) H2) (E σ)
theorem run_makeS {f : Addr} {fd : FuncData} {pins : List (Addr × Obj)} {σ : St} {H : Hp} {s : Shared} {Q : VK} {us : List Value} {vs : List V} (M : Mk X.K C f) (F : FnOk X.prog X.w X.K X.mg X.base (L2.CX X.prog X.w) k f fd ps sp) (hr : Room (k + 1) X.A) (hb : Binds X.K fd ps [])
    (tk : Takes X W) (I : Inv X pins σ H s) (r : Vals vs us)
    (h : ∀ x dx, H x = none → H dx = none → dx ≠ x → sp (.ref x :: vs) (upd (upd H dx (.own x)) x (.ins C dx [])) (fun v H2 => v = .non ∧ Q (.ref x) H2) (WE W σ)) :
    wpAny (model X.prog X.w) X.A (call (.ref C) us) (EP X pins σ Q) X.xe s := by
  have hq := h (s.heap.objs.size + 1) s.heap.objs.size (I.hok.fresh (Nat.le_succ _)) (I.hok.fresh (Nat.le_refl _)) (Nat.ne_of_lt (Nat.lt_succ_self _))
  have I2 := Inv.made (C := C) I
  have r2 : Vals (V.ref (s.heap.objs.size + 1) :: vs) (Value.ref (s.heap.objs.size + 1) :: us) := .cons rfl r
  have hl : (Value.ref (s.heap.objs.size + 1) :: us).length = ps.length := by
    have e := r2.length
    rw [F.len _ _ _ _ hq] at e
    exact e.symm
  have b := hb _ (Value.ref (s.heap.objs.size + 1) :: us) I2.kIn (by rw [List.append_nil]; exact hl)
  rw [List.append_nil] at b
  refine wpAny_call (make_map (f := f) I.kIn M.makes M.init (beq_iff_eq.mp M.fn) (codeAny_mono (F.run _ X.stack _ _ ⟨Value.ref (s.heap.objs.size + 1) :: us, []⟩ (Value.ref (s.heap.objs.size + 1) :: us) _ _ (WE W σ) (hr.make C us [])
    (I2.env0.make C us []) b r2 hq) fun r s' hq' => ?_))
  cases r with
  | error e => exact passAt tk σ pins _ _ e s' I2 hq'
  | ok fl =>
    cases fl with
    | ret u =>
      obtain ⟨v, H', I3, rv, ev, q3⟩ := I2.after hq'
      subst ev
      exact ⟨rv, ⟨V.ref (s.heap.objs.size + 1), H', I3, rfl, q3⟩⟩
    | next => exact False.elim hq'
    | brk => exact False.elim hq'
    | cont => exact False.elim hq'
theorem pe_mr (c : Mr X.prog X.w X.K X.mg X.base k x C ps sp) (hr : Room j X.A) (hk : k + 1 ≤ j) (tk : Takes X W) (hg : Gl X x) (ha : PA X (e :: es) t)
    (hdb : (x == ("__debug__" : Str)) = false := by decide) (he : starEach (e :: es) X.env = (false, eval e X.env) :: starEach es X.env := by rfl) (hpl : (backTo pos (starEach es X.env)).any (·.1) = false := by rfl) :
    PE X (.Call (.Name x p) (e :: es) [] pos) (tMakeS C sp (WE W) t) := by
  obtain ⟨f, fd, M, F, hm, b⟩ := c.ex
  refine ⟨fun pins s σ H Q I h => ?_⟩
  refine wpAny_Call_Name_kw (ld_glob I hg hm ?_ hdb)
  refine PySem.W.callWith_K (h₀ := X.base) I.ok.mod.kin M.kp (thn (ha.run pos pins s σ H _ I h) fun us s1 ⟨vs, H1, I1, r, q⟩ => ⟨I1.kIn, ?_⟩) he hpl
  exact run_makeS M F (hr.mono hk) b tk I1 r q
end
end G
namespace G
open PySem PySem.Spec PyProof.Rows L2
/-! ### slots -/
class SAt (i : Nat) (σ : St) (v : outParam V) : Prop where
  h : σ[i]? = some (some v)
instance SAt0 {v : V} {r : St} : SAt 0 (some v :: r) v := ⟨rfl⟩
instance SAtS {i : Nat} {y : Option V} {r : St} {v : V} [a : SAt i r v] : SAt (i + 1) (y :: r) v := ⟨by simpa using a.h⟩
class SSet (i : Nat) (x : Option V) (σ : St) (σ' : outParam St) : Prop where
  h : σ.set i x = σ'
instance SSet0 {x y : Option V} {r : St} : SSet 0 x (y :: r) (x :: r) := ⟨rfl⟩
instance SSetS {i : Nat} {x y : Option V} {r r' : St} [a : SSet i x r r'] : SSet (i + 1) x (y :: r) (y :: r') := ⟨by rw [List.set_cons_succ, a.h]⟩
class SWipe (σ : St) (vs : List Nat) (σ' : outParam St) : Prop where
  h : wipe σ vs = σ'
instance SWipe0 {σ : St} : SWipe σ [] σ := ⟨rfl⟩
instance SWipeS {σ σ1 σ2 : St} {v : Nat} {vs : List Nat} [a : SWipe σ vs σ1] [b : SSet v none σ1 σ2] : SWipe σ (v :: vs) σ2 := ⟨by show (wipe σ vs).set v none = σ2; rw [a.h, b.h]⟩
/-! ### heaps -/
def isTup : HO → Bool
  | .tup _ => true | _ => false
/-- a new place (no bare equation: no unifier may take it for another heap's) -/
structure Fre (H : Hp) (p : Addr) : Prop where
  h : H p = none
/-- what stood stands, but for the objects at W; a tuple stands for ever; what is tracked stays tracked -/
structure Kp (W : List Addr) (H H' : Hp) : Prop where
  keep : ∀ b o, H b = some o → (b ∈ W → isTup o = true) → H' b = some o
  dom : ∀ b o, H b = some o → ∃ o', H' b = some o'
theorem Kp.get {W : List Addr} {H H' : Hp} {a : Addr} {o : HO} (k : Kp W H H') (h : H a = some o) (n : a ∉ W) : H' a = some o := k.keep a o h fun z => absurd z n
theorem Kp.getT {W : List Addr} {H H' : Hp} {a : Addr} {xs : List V} (k : Kp W H H') (h : H a = some (.tup xs)) : H' a = some (.tup xs) := k.keep a _ h fun _ => rfl
theorem Kp.get0 {H H' : Hp} {a : Addr} {o : HO} (k : Kp [] H H') (h : H a = some o) : H' a = some o := k.keep a o h fun z => by cases z
theorem Kp.getW {w : Addr} {W : List Addr} {H H' : Hp} {a : Addr} {o : HO} (k : Kp (w :: W) H H') (h : H a = some o) (n : isTup o = true ∨ a ∉ w :: W) : H' a = some o := k.keep a o h fun z => n.elim id fun n => absurd z n
theorem Kp.refl {W : List Addr} {H : Hp} : Kp W H H := ⟨fun _ _ h _ => h, fun _ o h => ⟨o, h⟩⟩
theorem Kp.trans {W : List Addr} {H H1 H2 : Hp} (a : Kp W H H1) (b : Kp W H1 H2) : Kp W H H2 := ⟨fun c o h n => b.keep c o (a.keep c o h n) n, fun c o h => by obtain ⟨o', h'⟩ := a.dom c o h; exact b.dom c o' h'⟩
theorem Kp.mono {W W' : List Addr} {H H' : Hp} (k : Kp W H H') (s : ∀ a, a ∈ W → a ∈ W') : Kp W' H H' := ⟨fun b o h n => k.keep b o h fun z => n (s b z), k.dom⟩
theorem Kp.of0 {W : List Addr} {H H' : Hp} (k : Kp [] H H') : Kp W H H' := k.mono fun _ h => by cases h
theorem Kp.same {H H' : Hp} (k : Kp [] H H') : Same H H' := fun b o h => k.keep b o h fun z => by cases z
theorem Kp.ofSame {W : List Addr} {H H' : Hp} (k : Same H H') : Kp W H H' := ⟨fun b o h _ => k b o h, fun b o h => ⟨o, k b o h⟩⟩
theorem Kp.free {W : List Addr} {H H' : Hp} {a : Addr} (k : Kp W H H') (h : H' a = none) : H a = none := by
  cases e : H a with
  | none => rfl
  | some o =>
    obtain ⟨o', e'⟩ := k.dom a o e
    rw [h] at e'; cases e'
theorem Kp.seq {K : PySem.W.Frag} {H H' : Hp} {a : Addr} {xs : List V} (k : Kp [] H H') (h : SqL K H a xs) : SqL K H' a xs := k.same.seq h
theorem Kp.new {H : Hp} {p : Addr} {o : HO} (h : H p = none) : Kp [] H (upd H p o) := Kp.ofSame fun b u e => by rw [upd_ne (ne_of_none e h)]; exact e
theorem Kp.wr {H : Hp} {p : Addr} {o u : HO} (h : H p = some u) (hu : isTup u = false := by rfl) : Kp [p] H (upd H p o) := by
  refine ⟨fun b v e n => ?_, fun b v e => ?_⟩
  · have nb : b ≠ p := fun z => by
      subst z
      rw [h] at e; cases e
      have q := n (by simp)
      rw [hu] at q; cases q
    rw [upd_ne nb]; exact e
  · by_cases hb : b = p
    · subst hb; exact ⟨_, upd_same⟩
    · exact ⟨v, by rw [upd_ne hb]; exact e⟩
/-- a list is only read where it is frozen or of the module: writes do not touch it -/
theorem Kp.seqW {K : PySem.W.Frag} {W : List Addr} {H H' : Hp} {a : Addr} {xs : List V} (k : Kp W H H') (h : SqL K H a xs) (n : a ∉ W) : SqL K H' a xs := by
  rcases h with (h | ⟨o, h⟩) | h
  · exact .inl (.inl (k.get h n))
  · exact .inl (.inr ⟨o, k.get h n⟩)
  · exact .inr h
/-- one more step: what it writes is W's, or new since H -/
theorem Kp.step {W W1 : List Addr} {H H1 H' : Hp} (p : Kp W H H1) (k : Kp W1 H1 H') (s : ∀ a ∈ W1, a ∈ W ∨ Fre H a) : Kp W H H' :=
  ⟨fun b o e n => k.keep b o (p.keep b o e n) (fun z => (s b z).elim n (fun q => by have q := q.h; rw [e] at q; cases q)), fun b o e => by
    obtain ⟨o', e'⟩ := p.dom b o e
    exact k.dom b o' e'⟩
theorem Kp.step0 {W : List Addr} {H H1 H' : Hp} (p : Kp W H H1) (k : Kp [] H1 H') : Kp W H H' := p.step k fun _ h => by cases h
theorem Kp.stepW {W W1 : List Addr} {w : Addr} {H H1 H' : Hp} (p : Kp W H H1) (k : Kp (w :: W1) H1 H') (s : ∀ a ∈ w :: W1, a ∈ W ∨ Fre H a) : Kp W H H' := p.step k s
theorem Kp.seq0 {K : PySem.W.Frag} {H H' : Hp} {a : Addr} {xs : List V} (k : Kp [] H H') (h : SqL K H a xs) : SqL K H' a xs := k.seqW h (by simp)
theorem Kp.seqS {K : PySem.W.Frag} {w : Addr} {W : List Addr} {H H' : Hp} {a : Addr} {xs : List V} (k : Kp (w :: W) H H') (h : SqL K H a xs) (n : a ∉ w :: W) : SqL K H' a xs := k.seqW h n
theorem sub_nil {P : Addr → Prop} : ∀ a ∈ ([] : List Addr), P a := fun _ h => by cases h
theorem sub_cons {P : Addr → Prop} {a : Addr} {l : List Addr} (h : P a) (t : ∀ b ∈ l, P b) : ∀ b ∈ a :: l, P b := fun b hb => (List.mem_cons.mp hb).elim (fun e => e ▸ h) (t b)
theorem Fre.free {W : List Addr} {H H1 : Hp} {a : Addr} (f : Fre H1 a) (k : Kp W H H1) : H a = none := k.free f.h
theorem Fre.fwd {W : List Addr} {H H1 : Hp} {a : Addr} (k : Kp W H H1) (f : Fre H1 a) : Fre H a := ⟨k.free f.h⟩
theorem Fre.back {W : List Addr} {H H1 : Hp} {a : Addr} (f : Fre H1 a) (k : Kp W H H1) : Fre H a := ⟨k.free f.h⟩
theorem nin_nil {a : Addr} : a ∉ ([] : List Addr) := by simp
theorem nin_cons {a p : Addr} {l : List Addr} (h : a ≠ p) (h2 : a ∉ l) : a ∉ p :: l := by simp [h, h2]
theorem ne_fr {H : Hp} {a p : Addr} {o : HO} (hn : Fre H p) (ha : H a = some o) : a ≠ p := ne_of_none ha hn.h
theorem ne_kind {H : Hp} {a p : Addr} {o u : HO} (ha : H a = some o) (hp : H p = some u) (d : o ≠ u) : a ≠ p := ne_of ha hp d
theorem len_ok {xs : List V} (h : xs.length ≤ 1000) : xs.length ≤ sizeLine := Nat.le_trans h (by decide)
theorem len_lt {n : Nat} (h : n ≤ 1000) : n < sizeLine := small1000 h
/-! ### readings, one lemma each -/
section
variable {σ σ' : St} {H : Hp} {Q : VK} {QT : Bool → Hp → Prop} {QA : List V → Hp → Prop} {v x y : V} {i j : Nat} {K : PySem.W.Frag}
variable {n b c : St → Hp → Prop} {r : VK} {t u : TS} {te ta tb tc : TE} {tt tt' : TT} {g : TG} {tA : TA} {D : Ends}
theorem vVar [h : SAt i σ v] (q : Q v H) : tVar i σ H Q := ⟨v, h.h, q⟩
theorem vC (q : Q v H) : tC v σ H Q := q
theorem vName [h : SSet i (some x) σ σ'] {q : St → Hp → Prop} (k : q σ' H) : gName i x σ H q := by unfold gName; rw [h.h]; exact k
theorem vSeq (h : t ⟨u ⟨n, r, b, c⟩, r, b, c⟩ σ H) : tSeq t u ⟨n, r, b, c⟩ σ H := h
theorem vAsg (h : te σ H fun x H1 => g x σ H1 n) : tAsg te g ⟨n, r, b, c⟩ σ H := h
theorem vRet (h : te σ H r) : tRet te ⟨n, r, b, c⟩ σ H := h
theorem vRetN (h : r .non H) : tRetN ⟨n, r, b, c⟩ σ H := h
theorem vDrop (h : te σ H fun _ H1 => n σ H1) : tDrop te ⟨n, r, b, c⟩ σ H := h
theorem vIfS (h : tt σ H fun k H1 => if k = true then t D σ H1 else u D σ H1) : tIfS tt t u D σ H := h
theorem vNext (h : n σ H) : tNext ⟨n, r, b, c⟩ σ H := h
theorem vBreak (h : b σ H) : tBreak ⟨n, r, b, c⟩ σ H := h
theorem vCont (h : c σ H) : tCont ⟨n, r, b, c⟩ σ H := h
/-- a bool handed on -/
def rBl (QT : Bool → Hp → Prop) : VK := fun x H => ∃ k, x = .bl k ∧ QT k H
theorem vrBl {k : Bool} (q : QT k H) : rBl QT (.bl k) H := ⟨k, rfl, q⟩
theorem vTest (h : te σ H (rBl QT)) : tTest te σ H QT := h
theorem vB (h : te σ H (rBl QT)) : tB te σ H QT := h
theorem vAnd (h : tt σ H fun k H1 => if k = true then tt' σ H1 QT else QT false H1) : tAnd tt tt' σ H QT := h
theorem vOr (h : tt σ H fun k H1 => if k = true then QT true H1 else tt' σ H1 QT) : tOr tt tt' σ H QT := h
theorem vNot (h : tt σ H fun k H1 => QT (!k) H1) : tNot tt σ H QT := h
theorem vAndV (h : ta σ H (rBl fun k H1 => if k = true then tb σ H1 Q else Q (.bl false) H1)) : tAndV ta tb σ H Q := h
theorem vOrV (h : ta σ H (rBl fun k H1 => if k = true then Q (.bl true) H1 else tb σ H1 Q)) : tOrV ta tb σ H Q := h
theorem vNotV (h : ta σ H (rBl fun k H1 => Q (.bl (!k)) H1)) : tNotV ta σ H Q := h
theorem vIfE (h : tt σ H fun k H1 => if k = true then ta σ H1 Q else tb σ H1 Q) : tIf tt ta tb σ H Q := h
theorem vOp {rr : R2} (h : ta σ H fun x H1 => tb σ H1 fun y H2 => rr x y H2 Q) : tOp rr ta tb σ H Q := h
theorem vChain {rr rr' : R2} (h : ta σ H fun x H1 => tb σ H1 fun y H2 => rr x y H2 (rBl fun k H3 => if k = true then tc σ H3 fun z H4 => rr' y z H4 Q else Q (.bl false) H3)) : tChain rr rr' ta tb tc σ H Q := h
theorem vUn {rr : V → Hp → VK → Prop} (h : ta σ H fun x H1 => rr x H1 Q) : tUn rr ta σ H Q := h
theorem vNil (q : QA [] H) : tNil σ H QA := q
theorem vCons (h : te σ H fun x H1 => tA σ H1 fun xs H2 => QA (x :: xs) H2) : tCons te tA σ H QA := h
/-- a new object -/
def rNewL : List V → Hp → VK → Prop := fun xs H Q => xs.length ≤ sizeLine ∧ ∀ p, H p = none → Q (.ref p) (upd H p (.lst xs))
def rNewT : List V → Hp → VK → Prop := fun xs H Q => xs.length ≤ sizeLine ∧ ∀ p, H p = none → Q (.ref p) (upd H p (.tup xs))
theorem vLst (h : tA σ H fun xs H1 => rNewL xs H1 Q) : tLst tA σ H Q := h
theorem vTup (h : tA σ H fun xs H1 => rNewT xs H1 Q) : tTup tA σ H Q := h
theorem vNewL {xs : List V} (z : xs.length ≤ sizeLine) (h : ∀ p H', Fre H p → Kp [] H H' → H' p = some (.lst xs) → Q (.ref p) H') : rNewL xs H Q := ⟨z, fun p hp => h p _ ⟨hp⟩ (Kp.new hp) upd_same⟩
theorem vNewT {xs : List V} (z : xs.length ≤ sizeLine) (h : ∀ p H', Fre H p → Kp [] H H' → H' p = some (.tup xs) → Q (.ref p) H') : rNewT xs H Q := ⟨z, fun p hp => h p _ ⟨hp⟩ (Kp.new hp) upd_same⟩
/-- operators -/
theorem vI0 {f : Int → Int → V} {i j : Int} (q : Q (f i j) H) : rI0 f (.int i) (.int j) H Q := ⟨i, j, rfl, rfl, q⟩
theorem vI {C : Int → Int → Prop} {f : Int → Int → V} {i j : Int} (h : C i j) (q : Q (f i j) H) : rI C f (.int i) (.int j) H Q := ⟨i, j, rfl, rfl, h, q⟩
theorem vU {f : Int → V} {i : Int} (q : Q (f i) H) : rU f (.int i) H Q := ⟨i, rfl, q⟩
theorem vEq (h : scal x y = true) (q : Q (.bl (decide (x = y))) H) : rEq x y H Q := ⟨h, q⟩
theorem vNe (h : scal x y = true) (q : Q (.bl (!decide (x = y))) H) : rNe x y H Q := ⟨h, q⟩
theorem dI {i j : Int} : decide (V.int i = V.int j) = decide (i = j) := decide_eq_decide.mpr ⟨fun h => V.int.inj h, fun h => by rw [h]⟩
theorem dS {i j : Str} : decide (V.str i = V.str j) = decide (i = j) := decide_eq_decide.mpr ⟨fun h => V.str.inj h, fun h => by rw [h]⟩
theorem dB {i j : Bool} : decide (V.bl i = V.bl j) = decide (i = j) := decide_eq_decide.mpr ⟨fun h => V.bl.inj h, fun h => by rw [h]⟩
theorem vEqI {i j : Int} (q : Q (.bl (decide (i = j))) H) : rEq (.int i) (.int j) H Q := vEq rfl (by rw [dI]; exact q)
theorem vNeI {i j : Int} (q : Q (.bl (!decide (i = j))) H) : rNe (.int i) (.int j) H Q := vNe rfl (by rw [dI]; exact q)
theorem vEqS {i j : Str} (q : Q (.bl (decide (i = j))) H) : rEq (.str i) (.str j) H Q := vEq rfl (by rw [dS]; exact q)
theorem vNeS {i j : Str} (q : Q (.bl (!decide (i = j))) H) : rNe (.str i) (.str j) H Q := vNe rfl (by rw [dS]; exact q)
theorem vEqB {i j : Bool} (q : Q (.bl (decide (i = j))) H) : rEq (.bl i) (.bl j) H Q := vEq rfl (by rw [dB]; exact q)
theorem vNeB {i j : Bool} (q : Q (.bl (!decide (i = j))) H) : rNe (.bl i) (.bl j) H Q := vNe rfl (by rw [dB]; exact q)
def rIsN : R2 := fun x y H Q => y = .non ∧ Q (.bl (decide (x = .non))) H
def rNotN : R2 := fun x y H Q => y = .non ∧ Q (.bl (!decide (x = .non))) H
theorem vIsN (q : Q (.bl (decide (x = .non))) H) : rIsN x .non H Q := ⟨rfl, q⟩
theorem vNotN (q : Q (.bl (!decide (x = .non))) H) : rNotN x .non H Q := ⟨rfl, q⟩
theorem vIxL {p : Addr} {xs : List V} {i : Int} (h : SqL K H p xs) (e : atI xs i = some v) (q : Q v H) : rIxL K (.ref p) (.int i) H Q := ⟨p, xs, i, v, rfl, rfl, h, e, q⟩
theorem vIxT {p : Addr} {xs : List V} {i : Int} (h : SqT K H p xs) (e : atI xs i = some v) (q : Q v H) : rIxT K (.ref p) (.int i) H Q := ⟨p, xs, i, v, rfl, rfl, h, e, q⟩
theorem vIn {neg : Bool} {p : Addr} {xs : List V} (h : SqL K H p xs ∨ SqT K H p xs) (f1 : flatV x = true) (f2 : xs.all flatV = true) (q : Q (.bl (if neg then !inV x xs else inV x xs)) H) : rIn K neg x (.ref p) H Q := ⟨p, xs, rfl, h, f1, f2, q⟩
theorem vInP {p : Addr} {xs : List V} (h : SqL K H p xs ∨ SqT K H p xs) (f1 : flatV x = true) (f2 : xs.all flatV = true) (q : Q (.bl (inV x xs)) H) : rIn K false x (.ref p) H Q := ⟨p, xs, rfl, h, f1, f2, q⟩
theorem vInN {p : Addr} {xs : List V} (h : SqL K H p xs ∨ SqT K H p xs) (f1 : flatV x = true) (f2 : xs.all flatV = true) (q : Q (.bl (!inV x xs)) H) : rIn K true x (.ref p) H Q := ⟨p, xs, rfl, h, f1, f2, q⟩
theorem vCat {l m : Addr} {xs zs : List V} (h1 : H l = some (.lst xs)) (h2 : H m = some (.lst zs)) (z : xs.length + zs.length ≤ sizeLine) (q : ∀ p H', Fre H p → Kp [] H H' → H' p = some (.lst (xs ++ zs)) → Q (.ref p) H') : rCat (.ref l) (.ref m) H Q :=
  ⟨l, m, xs, zs, rfl, rfl, h1, h2, z, fun p hp => q p _ ⟨hp⟩ (Kp.new hp) upd_same⟩
theorem vEqD {d e : PyData} (h1 : Dp K H x d) (h2 : Dp K H y e) (s1 : SeqAt.shaped d = true) (s2 : SeqAt.shaped e = true) (q : Q (.bl (PyData.eqv d e)) H) : rEqD K x y H Q := ⟨d, e, h1, h2, s1, s2, q⟩
theorem vNeD {d e : PyData} (h1 : Dp K H x d) (h2 : Dp K H y e) (s1 : SeqAt.shaped d = true) (s2 : SeqAt.shaped e = true) (q : Q (.bl (!PyData.eqv d e)) H) : rNeD K x y H Q := ⟨d, e, h1, h2, s1, s2, q⟩
/-- builtins -/
theorem vCB {rr : List V → Hp → VK → Prop} (h : tA σ H fun vs H1 => rr vs H1 Q) : tCB rr tA σ H Q := h
def rLen (K : PySem.W.Frag) : List V → Hp → VK → Prop := fun xs H Q => ∃ p ys, xs = [.ref p] ∧ (SqL K H p ys ∨ SqT K H p ys) ∧ Q (.int ys.length) H
theorem vLen {p : Addr} {ys : List V} (h : SqL K H p ys ∨ SqT K H p ys) (q : Q (.int ys.length) H) : rLen K [.ref p] H Q := ⟨p, ys, rfl, h, q⟩
theorem vIsi {t : Value} {s : String} {b : Bool} (ty : TyX K H x t) (e : PySem.W.kitOne K t (.type s) = some b) (q : Q (.bl b) H) : rIsi K [x, .ty s] H Q := ⟨x, .ty s, t, .type s, b, rfl, .ty s, ty, e, q⟩
def rInt1 : List V → Hp → VK → Prop := fun xs H Q => (∃ i, xs = [.int i] ∧ Q (.int i) H) ∨ (∃ k, xs = [.bl k] ∧ Q (.int (b2i k)) H)
theorem vIntB {k : Bool} (q : Q (.int (b2i k)) H) : rInt1 [.bl k] H Q := .inr ⟨k, rfl, q⟩
theorem vIntI {k : Int} (q : Q (.int k) H) : rInt1 [.int k] H Q := .inl ⟨k, rfl, q⟩
def rListOf (K : PySem.W.Frag) : List V → Hp → VK → Prop := fun xs H Q => ∃ p ys, xs = [.ref p] ∧ (SqL K H p ys ∨ SqT K H p ys) ∧ ∀ l, H l = none → Q (.ref l) (upd H l (.lst ys))
theorem vListOf {p : Addr} {ys : List V} (h : SqL K H p ys ∨ SqT K H p ys) (q : ∀ l H', Fre H l → Kp [] H H' → H' l = some (.lst ys) → Q (.ref l) H') : rListOf K [.ref p] H Q := ⟨p, ys, rfl, h, fun l hl => q l _ ⟨hl⟩ (Kp.new hl) upd_same⟩
def rTupOf (K : PySem.W.Frag) : List V → Hp → VK → Prop := fun xs H Q => ∃ p ys, xs = [.ref p] ∧ ((SqL K H p ys ∧ ∀ l, H l = none → Q (.ref l) (upd H l (.tup ys))) ∨ (SqT K H p ys ∧ Q (.ref p) H))
theorem vTupOf {p : Addr} {ys : List V} (h : SqL K H p ys) (q : ∀ l H', Fre H l → Kp [] H H' → H' l = some (.tup ys) → Q (.ref l) H') : rTupOf K [.ref p] H Q := ⟨p, ys, rfl, .inl ⟨h, fun l hl => q l _ ⟨hl⟩ (Kp.new hl) upd_same⟩⟩
/-- methods of lists -/
theorem vBM {T : String} {rr : V → List V → Hp → VK → Prop} (h : te σ H fun x H1 => tyV K T x H1 ∧ tA σ H1 fun xs H2 => rr x xs H2 Q) : tBM K T rr te tA σ H Q := h
theorem vAppend {l : Addr} {xs : List V} (h : H l = some (.lst xs)) (z : xs.length < sizeLine) (q : ∀ H', Kp [l] H H' → H' l = some (.lst (xs ++ [y])) → Q .non H') : rAppend (.ref l) [y] H Q := ⟨l, xs, y, rfl, rfl, h, z, q _ (Kp.wr h) upd_same⟩
theorem tyL {l : Addr} {xs : List V} (h : H l = some (.lst xs)) : tyV K "list" (.ref l) H := Or.inl ⟨rfl, _, SqL.of h⟩
theorem tySq {l : Addr} {xs : List V} (h : SqL K H l xs) : tyV K "list" (.ref l) H := Or.inl ⟨rfl, _, h⟩
/-- fields -/
def rFld (K : PySem.W.Frag) (f : Str) : V → Hp → VK → Prop := fun x H1 Q => ∃ a C dx fs v, x = .ref a ∧ H1 a = some (.ins C dx fs) ∧ Cls K C ∧ NoAttr K C f ∧ fs.lookup f = some v ∧ Q v H1
theorem vFld {f : Str} (h : te σ H fun x H1 => rFld K f x H1 Q) : tFld K te f σ H Q := h
theorem vrFld {f : Str} {a C dx : Addr} {fs : List (Str × V)} (h : H a = some (.ins C dx fs)) (c : Cls K C) (na : NoAttr K C f) (l : fs.lookup f = some v) (q : Q v H) : rFld K f (.ref a) H Q := ⟨a, C, dx, fs, v, rfl, h, c, na, l, q⟩
def rSF (K : PySem.W.Frag) (f : Str) (q : Hp → Prop) : V → V → Hp → Prop := fun y x H2 => ∃ a C dx fs, x = .ref a ∧ H2 a = some (.ins C dx fs) ∧ Cls K C ∧ NoAttr K C f ∧ fs.length < 1000 ∧ q (upd H2 a (.ins C dx (putF f y fs)))
theorem vSF {f : Str} (h : tb σ H fun y H1 => ta σ H1 fun x H2 => rSF K f (fun H3 => n σ H3) y x H2) : sFld K ta tb f ⟨n, r, b, c⟩ σ H := h
theorem vrSF {f : Str} {a C dx : Addr} {fs : List (Str × V)} {q : Hp → Prop} (h : H a = some (.ins C dx fs)) (cl : Cls K C) (na : NoAttr K C f) (l : fs.length < 1000) (k : ∀ H', Kp [a] H H' → H' a = some (.ins C dx (putF f y fs)) → q H') : rSF K f q y (.ref a) H :=
  ⟨a, C, dx, fs, rfl, h, cl, na, l, k _ (Kp.wr h) upd_same⟩
/-- o[i] = v -/
theorem vSub {to ti : TE} {ts : TSet} {q : St → Hp → Prop} (h : to σ H fun o H1 => ti σ H1 fun i H2 => ts o i v H2 fun H3 => q σ H3) : gSub to ti ts v σ H q := h
theorem vSetL {p : Addr} {xs : List V} {k : Int} {q : Hp → Prop} (h : H p = some (.lst xs)) (e : ixN xs.length k = some j) (z : ∀ H', Kp [p] H H' → H' p = some (.lst (xs.set j v)) → q H') : rSetL (.ref p) (.int k) v H q := ⟨p, xs, k, j, rfl, rfl, h, e, z _ (Kp.wr h) upd_same⟩
/-- slices -/
theorem vSl {rr : V → Option Int → Option Int → Hp → VK → Prop} {tl th : TO} (h : te σ H fun x H1 => tl σ H1 fun l H2 => th σ H2 fun u H3 => rr x l u H3 Q) : tSl rr te tl th σ H Q := h
theorem vNoPart {q : Option Int → Hp → Prop} (h : q none H) : tNoPart σ H q := h
def rPart (q : Option Int → Hp → Prop) : VK := fun x H1 => ∃ i, x = .int i ∧ q (some i) H1
theorem vPart {q : Option Int → Hp → Prop} (h : te σ H (rPart q)) : tPart te σ H q := h
theorem vrPart {q : Option Int → Hp → Prop} {i : Int} (h : q (some i) H) : rPart q (.int i) H := ⟨i, rfl, h⟩
theorem vSlL {a : Addr} {xs : List V} {lo hi : Option Int} (h : SqL K H a xs) (q : ∀ p H', Fre H p → Kp [] H H' → H' p = some (.lst (cutV xs lo hi)) → Q (.ref p) H') : rSlL K (.ref a) lo hi H Q := ⟨a, xs, rfl, h, fun p hp => q p _ ⟨hp⟩ (Kp.new hp) upd_same⟩
/-- calls -/
theorem vCall {sp : Sp} {E : St → XK} (h : tA σ H fun vs H1 => sp vs H1 Q (E σ)) : tCallS sp E tA σ H Q := h
def rMeth (C : Addr) (m : Str) (k : List V → Hp → Prop) (tA : TA) (σ : St) : V → Hp → Prop := fun x H1 => ∃ a dx fs, x = .ref a ∧ H1 a = some (.ins C dx fs) ∧ fs.lookup m = none ∧ tA σ H1 fun vs H2 => k (x :: vs) H2
theorem vMeth {C : Addr} {m : Str} {sp : Sp} {E : St → XK} (h : te σ H (rMeth C m (fun vs H2 => sp vs H2 Q (E σ)) tA σ)) : tMethS C m sp E te tA σ H Q := h
theorem vrMeth {C a dx : Addr} {fs : List (Str × V)} {m : Str} {k : List V → Hp → Prop} (h : H a = some (.ins C dx fs)) (l : fs.lookup m = none) (q : tA σ H fun vs H2 => k (.ref a :: vs) H2) : rMeth C m k tA σ (.ref a) H := ⟨a, dx, fs, rfl, h, l, q⟩
theorem vMake {C : Addr} {sp : Sp} {E : St → XK} (h : tA σ H fun vs H1 => ∀ x dx, H1 x = none → H1 dx = none → dx ≠ x → sp (.ref x :: vs) (upd (upd H1 dx (.own x)) x (.ins C dx [])) (fun v H2 => v = .non ∧ Q (.ref x) H2) (E σ)) : tMakeS C sp E tA σ H Q := h
end
end G
namespace G
open PySem PySem.Spec PyProof.Rows L2
theorem b_len : bootBuiltins "len" = some (.builtin "len") := by decide +kernel
theorem b_isinstance : bootBuiltins "isinstance" = some (.builtin "isinstance") := by decide +kernel
theorem b_min : bootBuiltins "min" = some (.builtin "min") := by decide +kernel
theorem b_max : bootBuiltins "max" = some (.builtin "max") := by decide +kernel
theorem b_all : bootBuiltins "all" = some (.builtin "all") := by decide +kernel
theorem b_int : bootBuiltins "int" = some (.type "int") := by decide +kernel
theorem b_str : bootBuiltins "str" = some (.type "str") := by decide +kernel
theorem b_bool : bootBuiltins "bool" = some (.type "bool") := by decide +kernel
theorem b_list : bootBuiltins "list" = some (.type "list") := by decide +kernel
theorem b_tuple : bootBuiltins "tuple" = some (.type "tuple") := by decide +kernel
theorem b_ValueError : bootBuiltins "ValueError" = some (.type "ValueError") := by decide +kernel
section
variable {X : Cx}
theorem pe_gref {x : Str} {a : Addr} {pos : Pos} (hg : Gl X x) (hm : X.mg x = some (.ref a)) (hd : (x == ("__debug__" : Str)) = false := by decide) : PE X (.Name x pos) (tC (.ref a)) := pe_glob hg hm rfl hd
theorem pe_gint {x : Str} {n : Int} {pos : Pos} (hg : Gl X x) (hm : ∃ t, X.mg x = some (.int n t)) (hd : (x == ("__debug__" : Str)) = false := by decide) : PE X (.Name x pos) (tC (.int n)) := by
  obtain ⟨t, hm⟩ := hm
  exact pe_glob hg hm ⟨t, rfl⟩ hd
/-- raise C('..') -/
def tRaise (C : Addr) (W : WX) : TS := fun _ σ H => W (.ref C) none σ H
theorem ps_raiseG {W : WX} {C : Addr} {x m : Str} {j : Nat} {p p2 pos pos2 : Pos} (hc : X.calm = true) (tk : Takes X W) (q : PySem.W.excIn X.K C [.type "ValueError", .type "Exception", .type "BaseException", .type "object"] "ValueError.__new__" = true) (gC : X.mg x = some (.ref C)) (kC : PySem.W.keepIn X.K (.ref C) = true)
    (h1 : PySem.W.subIn X.K (.ref C) (.type "BaseException") = some true) (h2 : PySem.W.typeIn X.K (.ref C) = some (.type "type")) (hg : Gl X x) (hdb : (x == ("__debug__" : Str)) = false := by decide) :
    PS X (.Raise (some (.Call (.Name x p) [.Constant (.str m) j p2] [] pos)) none pos2) (tRaise C W) := ps_raise hc tk (pmk_own PySem.F.excBase_ValueError q gC kC (raises_own h1 h2) hg hdb)
theorem vRaise {W : WX} {C : Addr} {D : Ends} {σ : St} {H : Hp} (h : W (.ref C) none σ H) : tRaise C W D σ H := h
theorem op_mulX : OpR X (binaryOp .Mult) (rI IntMulOk fun i j => .int (i * j)) := opI fun _ _ _ _ _ _ _ hc q => mul_int q hc
theorem call_lenG : CallR X (.builtin "len") (rLen X.K) := call_len_seq
theorem call_intG : CallR X (.type "int") rInt1 := call_int1
theorem call_listG : CallR X (.type "list") (rListOf X.K) := call_list_of
theorem call_tupG : CallR X (.type "tuple") (rTupOf X.K) := call_tuple_of
def rMin2 : List V → Hp → VK → Prop := fun xs H Q => ∃ i j, xs = [.int i, .int j] ∧ Q (.int (if j < i then j else i)) H
theorem call_minG (hc : X.calm = true) : CallR X (.builtin "min") rMin2 := call_min2 hc
theorem vMin2 {i j : Int} {H : Hp} {Q : VK} (q : Q (.int (if j < i then j else i)) H) : rMin2 [.int i, .int j] H Q := ⟨i, j, rfl, q⟩
end
theorem ati2I (c x y : Int) : atI [V.int x, V.int y] (c % 2) = some (.int (if c % 2 = 0 then x else y)) := by
  rcases (show c % 2 = 0 ∨ c % 2 = 1 by omega) with e | e <;> rw [e] <;> rfl
theorem ati2S (c : Int) (x y : Str) : atI [V.str x, V.str y] (c % 2) = some (.str (if c % 2 = 0 then x else y)) := by
  rcases (show c % 2 = 0 ∨ c % 2 = 1 by omega) with e | e <;> rw [e] <;> rfl
theorem start_cc {n : Str} {N : List Str} {v : V} {vs : List V} : L2.start (n :: N) (v :: vs) = some v :: L2.start N vs := by simp [L2.start]
theorem start_cn {n : Str} {N : List Str} : L2.start (n :: N) [] = none :: L2.start N [] := by simp [L2.start, List.replicate_succ]
theorem start_nn : L2.start [] [] = [] := rfl
theorem cxK {CX : CXT} {P : Program} {w : World} {K : PySem.W.Frag} {mg : Str → Option Value} {base : Heap} {N : List Str} {qual : Str} {scope : Scope} {f : Addr} {cd : Value} {A : Around} {outer : List Env} {s : Shared} {H : Hp} {E : XK} :
    (cxOf CX P w K mg base N qual scope f cd A outer s H E).K = K := rfl
theorem iteNT {A B : Prop} (h : B) : if (!true) = true then A else B := iteF h
theorem iteNF {A B : Prop} (h : A) : if (!false) = true then A else B := iteT h
theorem vIte {b : Bool} {A B : Prop} (h1 : b = true → A) (h2 : b = false → B) : if b = true then A else B := by
  cases b
  · exact iteF (h2 rfl)
  · exact iteT (h1 rfl)
theorem vIteNB {b : Bool} {A B : Prop} (h1 : b = false → A) (h2 : b = true → B) : if (!b) = true then A else B := by
  cases b
  · exact iteT (h1 rfl)
  · exact iteF (h2 rfl)
theorem vIteD {P : Prop} [Decidable P] {A B : Prop} (h1 : P → A) (h2 : ¬ P → B) : if decide P = true then A else B := by
  by_cases h : P
  · rw [decide_eq_true h]; exact iteT (h1 h)
  · rw [decide_eq_false h]; exact iteF (h2 h)
theorem iteDT {P : Prop} [Decidable P] {A B : Prop} (h : P) (k : A) : if decide P = true then A else B := by
  rw [decide_eq_true h]; exact iteT k
theorem iteDF {P : Prop} [Decidable P] {A B : Prop} (h : ¬ P) (k : B) : if decide P = true then A else B := by
  rw [decide_eq_false h]; exact iteF k
theorem iteWT {w : Str} {xs : List V} {A B : Prop} (h : inV (.str w) xs = true) (k : A) : if inV (.str w) xs = true then A else B := by
  rw [h]; exact iteT k
theorem iteWF {w : Str} {xs : List V} {A B : Prop} (h : inV (.str w) xs = false) (k : B) : if inV (.str w) xs = true then A else B := by
  rw [h]; exact iteF k
theorem iteST {a b : Str} {A B : Prop} (h : a = b) (k : A) : if decide (a = b) = true then A else B := by
  rw [decide_eq_true h]; exact iteT k
theorem iteSF {a b : Str} {A B : Prop} (h : ¬ a = b) (k : B) : if decide (a = b) = true then A else B := by
  rw [decide_eq_false h]; exact iteF k
theorem iteNDT {P : Prop} [Decidable P] {A B : Prop} (h : P) (k : B) : if (!decide P) = true then A else B := by
  rw [decide_eq_true h]; exact iteF k
theorem iteNDF {P : Prop} [Decidable P] {A B : Prop} (h : ¬ P) (k : A) : if (!decide P) = true then A else B := by
  rw [decide_eq_false h]; exact iteT k
theorem vIteN {P : Prop} [Decidable P] {A B : Prop} (h1 : ¬ P → A) (h2 : P → B) : if (!decide P) = true then A else B := by
  by_cases h : P
  · rw [decide_eq_true h]; exact iteF (h2 h)
  · rw [decide_eq_false h]; exact iteT (h1 h)
end G
namespace G
open PySem PySem.Spec PyProof.Rows L2
theorem tup_of {K : PySem.W.Frag} {a : Addr} {od : Option Addr} {us : List Value} {n : Nat} {sl : Array (Option Value)} {xs : List V} (l : K.lookup a = some ⟨.type "tuple", od, .seq us.toArray n, sl⟩) (z : us.toArray.size ≤ sizeLine) (r : Vals xs us) : ∀ H, SqT K H a xs :=
  fun _ => .inr ⟨_, us.toArray, n, l, rfl, rfl, z, r⟩
def spLaw (K : PySem.W.Frag) : Sp := fun vs H Q _ => ∃ (a : Addr) (ns : List Int), vs = [.ref a] ∧ SqL K H a (ns.map V.int) ∧ ns.length ≤ 63 ∧ (∀ z ∈ ns, Builtin.Int.intBits z ≤ 1048576) ∧ ∀ H', Q (.bl true) H'
theorem walk {l : PySem.W.OpenLaw} {k : Nat} {x : Str} {q : Program} {loose : List Str} {XP : (Str → Option Value) → Heap → Prop} {YP : World → Heap → Prop} {d : DefRec} {K : Params → PySem.W.Frag} (hn : l.most = some 63) (hdf : d.params.defaults = [])
    (hY : ∀ (w : World) (h : Heap), YP w h → (K w.params).In h)
    (F : ∀ (w : World) (mg : Str → Option Value) (fa : Addr) (h : Heap), (K w.params).In h → h.Ns mainGlobals mg → mg d.name = some (.ref fa) →
      ∃ fd : FuncData, (∀ (s : Shared) (u : Value), BindsTo s fd ⟨[u], []⟩ [(x, u)]) ∧ ∀ base : Heap, (K w.params).In base → base.Ns mainGlobals mg → FnOk l.prog w (K w.params) mg base (L2.CX l.prog w) k fa fd [x] (spLaw (K w.params)))
    (hr : Room k callerA) :
    PySem.W.WalkO q loose XP YP l.row.toRowW d [] (fun f vs => PySem.call f vs) :=
  L2.walk_ofB (n := 63) (k := k) (x := x) (CX := fun w => L2.CX l.prog w) (sp := fun w => spLaw (K w.params)) hn (by decide) hdf hr hY F (fun w H a ns h1 h2 _ h3 => ⟨a, ns, rfl, h3, h1, h2, fun _ => rfl⟩) fun _ _ _ _ _ z => by
    obtain ⟨_, _, _, _, _, _, _, _, _, _, _, _, q⟩ := z
    exact q
end G
namespace G
open PySem PySem.Spec PyProof.Rows L2
/-- a statement, then the rest, with a word between them -/
def tCut (t u : TS) : TS := fun D σ H => ∃ Mid : St → Hp → Prop, t { D with nx := Mid } σ H ∧ ∀ σ' H', Mid σ' H' → u D σ' H'
theorem pss_cut {X : Cx} {st : Stmt} {rest : List Stmt} {t u : TS} (h1 : PS X st t) (h2 : PSs X rest u) : PSs X (st :: rest) (tCut t u) := by
  refine ⟨fun pins s σ H D I h => ?_⟩
  obtain ⟨Mid, hm, hu⟩ := h
  refine wpAny_execs_cons (thn (h1.run pins s σ H { D with nx := Mid } I hm) fun f s1 q => ?_)
  cases f with
  | next =>
    obtain ⟨σ', H', I', q⟩ := q
    exact h2.run pins s1 σ' H' D I' (hu σ' H' q)
  | ret v => exact q
  | brk => exact q
  | cont => exact q
theorem vCut {t u : TS} {n b c : St → Hp → Prop} {r : VK} {σ : St} {H : Hp} (Mid : St → Hp → Prop) (h1 : t ⟨Mid, r, b, c⟩ σ H) (h2 : ∀ σ' H', Mid σ' H' → u ⟨n, r, b, c⟩ σ' H') : tCut t u ⟨n, r, b, c⟩ σ H := ⟨Mid, h1, h2⟩
end G
namespace G
open PySem PySem.Spec PyProof.Rows L2
def rStr1 : List V → Hp → VK → Prop := fun xs H Q => ∃ i : Int, xs = [.int i] ∧ i.natAbs.log2 < 1920 ∧ Q (.str (toString i)) H
theorem call_strG {X : Cx} : CallR X (.type "str") rStr1 := call_str_int
theorem vStrI {i : Int} {H : Hp} {Q : VK} (h : i.natAbs.log2 < 1920) (q : Q (.str (toString i)) H) : rStr1 [.int i] H Q := ⟨i, rfl, h, q⟩
end G
namespace G
open PySem PySem.Spec PyProof.Rows L2
section
variable {σ : St} {H : Hp} {K : PySem.W.Frag} {n b c : St → Hp → Prop} {r : VK} {t : TS} {g : TG} {tl : TE} {ta : TA}
/-- for over a list, the list come -/
def rForL (K : PySem.W.Frag) (g : TG) (t : TS) (D : Ends) (σ : St) : VK := fun x H1 => iList K (fun _ H2 Q => Q x H2) σ H1 fun J H1 => ∃ W : Nat → Nat → St → Hp → Prop, (∃ m, W 0 m σ H1) ∧ ∀ i m σ H, W i m σ H →
  (J.stop i H ∧ D.nx σ H) ∨ (J.go i H ∧ ∃ N : St → Hp → Prop, (∀ σ' H', N σ' H' → ∃ m', m' < m ∧ W (i + 1) m' σ' H') ∧ ∀ x H', J.yld i H x H' → g x σ H' fun σ2 H2 => t { D with nx := N, ct := N, bk := D.nx } σ2 H2)
theorem vForL (h : tl σ H (rForL K g t ⟨n, r, b, c⟩ σ)) : tFor (iList K tl) g t ⟨n, r, b, c⟩ σ H := h
theorem vrForL {a : Addr} {xs : List V} (hl0 : SqL K H a xs) (Pv : Nat → St → Hp → Prop) (h0 : Pv 0 σ H) (hl : ∀ i σ H, i ≤ xs.length → Pv i σ H → SqL K H a xs)
    (hs : ∀ i x σ H, xs[i]? = some x → Pv i σ H → g x σ H fun σ2 H2 => t ⟨Pv (i + 1), r, n, Pv (i + 1)⟩ σ2 H2) (hd : ∀ σ H, Pv xs.length σ H → n σ H) : rForL K g t ⟨n, r, b, c⟩ σ (.ref a) H :=
  ⟨a, rfl, ⟨xs, hl0⟩, for_list (D := ⟨n, r, b, c⟩) Pv h0 hl hs hd⟩
def rForT (K : PySem.W.Frag) (g : TG) (t : TS) (D : Ends) (σ : St) : VK := fun x H1 => iTup K (fun _ H2 Q => Q x H2) σ H1 fun J H1 => ∃ W : Nat → Nat → St → Hp → Prop, (∃ m, W 0 m σ H1) ∧ ∀ i m σ H, W i m σ H →
  (J.stop i H ∧ D.nx σ H) ∨ (J.go i H ∧ ∃ N : St → Hp → Prop, (∀ σ' H', N σ' H' → ∃ m', m' < m ∧ W (i + 1) m' σ' H') ∧ ∀ x H', J.yld i H x H' → g x σ H' fun σ2 H2 => t { D with nx := N, ct := N, bk := D.nx } σ2 H2)
theorem vForT (h : tl σ H (rForT K g t ⟨n, r, b, c⟩ σ)) : tFor (iTup K tl) g t ⟨n, r, b, c⟩ σ H := h
theorem vrForT {a : Addr} {xs : List V} (hl0 : SqT K H a xs) (Pv : Nat → St → Hp → Prop) (h0 : Pv 0 σ H) (hl : ∀ i σ H, i ≤ xs.length → Pv i σ H → SqT K H a xs)
    (hs : ∀ i x σ H, xs[i]? = some x → Pv i σ H → g x σ H fun σ2 H2 => t ⟨Pv (i + 1), r, n, Pv (i + 1)⟩ σ2 H2) (hd : ∀ σ H, Pv xs.length σ H → n σ H) : rForT K g t ⟨n, r, b, c⟩ σ (.ref a) H :=
  ⟨a, rfl, ⟨xs, hl0⟩, for_tup (D := ⟨n, r, b, c⟩) Pv h0 hl hs hd⟩
/-- for over range(n) -/
def rForR (g : TG) (t : TS) (D : Ends) (σ : St) : List V → Hp → Prop := fun vs H1 => iRng1 (fun _ H2 Q => Q vs H2) σ H1 fun J H1 => ∃ W : Nat → Nat → St → Hp → Prop, (∃ m, W 0 m σ H1) ∧ ∀ i m σ H, W i m σ H →
  (J.stop i H ∧ D.nx σ H) ∨ (J.go i H ∧ ∃ N : St → Hp → Prop, (∀ σ' H', N σ' H' → ∃ m', m' < m ∧ W (i + 1) m' σ' H') ∧ ∀ x H', J.yld i H x H' → g x σ H' fun σ2 H2 => t { D with nx := N, ct := N, bk := D.nx } σ2 H2)
theorem vForR (h : ta σ H (rForR g t ⟨n, r, b, c⟩ σ)) : tFor (iRng1 ta) g t ⟨n, r, b, c⟩ σ H := h
theorem vrForR {j : Int} (m : Nat) (ej : j = (m : Int)) (hm : m ≤ 1000000) (Pv : Nat → St → Hp → Prop) (h0 : Pv 0 σ H)
    (hs : ∀ (i : Nat) σ H, i < m → Pv i σ H → g (.int (i : Int)) σ H fun σ2 H2 => t ⟨Pv (i + 1), r, n, Pv (i + 1)⟩ σ2 H2) (hd : ∀ σ H, Pv m σ H → n σ H) : rForR g t ⟨n, r, b, c⟩ σ [.int j] H := by
  subst ej
  refine ⟨(m : Int), rfl, by omega, by omega, ?_⟩
  rw [Int.toNat_natCast]
  exact for_range (lo := 0) (n := m) (D := ⟨n, r, b, c⟩) Pv h0 (fun i σ H hi p => by rw [Int.zero_add]; exact hs i σ H hi p) hd
/-- while -/
def rNx (W : Nat → St → Hp → Prop) (m : Nat) (t : TS) (D : Ends) : St → Hp → Prop := fun σ H1 => ∃ N : St → Hp → Prop, (∀ σ' H', N σ' H' → ∃ m', m' < m ∧ W m' σ' H') ∧ t { D with nx := N, ct := N, bk := D.nx } σ H1
theorem vrNx {W : Nat → St → Hp → Prop} {m : Nat} (h : t ⟨fun σ' H' => ∃ m', m' < m ∧ W m' σ' H', r, n, fun σ' H' => ∃ m', m' < m ∧ W m' σ' H'⟩ σ H) : rNx W m t ⟨n, r, b, c⟩ σ H := ⟨_, fun _ _ p => p, h⟩
theorem vWhile {tc : TT} (W : Nat → St → Hp → Prop) (m : Nat) (h0 : W m σ H)
    (hs : ∀ m σ H, W m σ H → tc σ H fun k H1 => if k = true then rNx W m t ⟨n, r, b, c⟩ σ H1 else n σ H1) : tWhile tc t ⟨n, r, b, c⟩ σ H := ⟨W, ⟨m, h0⟩, hs⟩
end
end G
namespace G
open PySem PySem.Spec PyProof.Rows L2
/-- an instance is made: its place, then __init__ -/
def rMk (C : Addr) (sp : Sp) (E : XK) (Q : VK) : List V → Hp → Prop := fun vs H1 => ∀ x dx, H1 x = none → H1 dx = none → dx ≠ x →
  sp (.ref x :: vs) (upd (upd H1 dx (.own x)) x (.ins C dx [])) (fun v H2 => v = .non ∧ Q (.ref x) H2) E
theorem vMk {C : Addr} {sp : Sp} {E : St → XK} {t : TA} {σ : St} {H : Hp} {Q : VK} (h : t σ H (rMk C sp (E σ) Q)) : tMakeS C sp E t σ H Q := h
theorem vrMk {C : Addr} {sp : Sp} {E : XK} {Q : VK} {vs : List V} {H : Hp} (h : ∀ x dx H2, Fre H x → Kp [] H H2 → H2 x = some (.ins C dx []) → sp (.ref x :: vs) H2 (fun v H3 => v = .non ∧ Q (.ref x) H3) E) : rMk C sp E Q vs H := fun x dx hx hdx ne =>
  h x dx _ ⟨hx⟩ ((Kp.new hdx).trans (Kp.new (by rw [upd_ne ne.symm]; exact hx))) upd_same
end G
namespace G
open PySem PySem.Spec PyProof.Rows L2
/-! ### comprehensions with one own name at slot j -/
section
variable {σ : St} {H : Hp} {K : PySem.W.Frag} {Q : VK} {te : TE} {tt : TT} {ta : TA} {tl : TE} {j : Nat} {g : TG} {vs : List Nat}
theorem wipe1 {σ : St} {j : Nat} : wipe σ [j] = σ.set j none := rfl
theorem wipe_set {σ : St} {j : Nat} {x : V} : wipe ((wipe σ [j]).set j (some x)) [j] = wipe σ [j] := by
  rw [wipe1, wipe1, List.set_set, List.set_set]
def rLcR (g : TG) (tt : TT) (te : TE) (vs : List Nat) (σ : St) (Q : VK) : List V → Hp → Prop := fun xs H => tLc (iRng1 (fun _ H2 q => q xs H2)) g tt te vs σ H Q
theorem vLcR (h : ta σ H (rLcR g tt te vs σ Q)) : tLc (iRng1 ta) g tt te vs σ H Q := h
/-- one more item -/
def rApp (H : Hp) (Pv : Nat → List V → Hp → Prop) (D : Addr) (n i : Nat) : VK := fun y H4 => ∃ acc', H4 D = some (.lst acc') ∧ acc'.length < sizeLine ∧ (Kp [] H (upd H4 D (.lst (acc' ++ [y]))) ∧ ∃ acc, upd H4 D (.lst (acc' ++ [y])) D = some (.lst acc) ∧ acc.length ≤ n + 1 ∧ Pv (i + 1) acc (upd H4 D (.lst (acc' ++ [y]))))
theorem vrApp {H H4 : Hp} {Pv : Nat → List V → Hp → Prop} {D : Addr} {n i : Nat} {y : V} {acc : List V} (fD : Fre H D) (k : Kp [] H H4) (a : H4 D = some (.lst acc)) (l : acc.length ≤ n) (hi : n < 1000) (q : ∀ H5, Kp [D] H4 H5 → H5 D = some (.lst (acc ++ [y])) → Pv (i + 1) (acc ++ [y]) H5) : rApp H Pv D n i y H4 :=
  ⟨acc, a, len_lt (by omega), k.step (Kp.wr a) (sub_cons (.inr fD) sub_nil), acc ++ [y], upd_same, by rw [List.length_append, List.length_singleton]; omega, q _ (Kp.wr a) upd_same⟩
theorem vrLcR {jj : Int} (m : Nat) (ej : jj = (m : Int)) (hm : m ≤ 1000) (Pv : Nat → List V → Hp → Prop) (h0 : ∀ H', Kp [] H H' → Pv 0 [] H')
    (hs : ∀ (i : Nat) acc H' D, i < m → Fre H D → Kp [] H H' → H' D = some (.lst acc) → acc.length ≤ i → Pv i acc H' → te ((wipe σ [j]).set j (some (.int (i : Int)))) H' (rApp H Pv D i i))
    (hd : ∀ D acc H', Fre H D → Kp [] H H' → H' D = some (.lst acc) → acc.length ≤ m → Pv m acc H' → Q (.ref D) H') : rLcR (gName j) tYes te [j] σ Q [.int jj] H := by
  subst ej
  refine ⟨(m : Int), rfl, by omega, by omega, fun D hD => ?_⟩
  rw [Int.toNat_natCast]
  refine lc_range (lo := 0) (n := m) (fun i H' => Kp [] H H' ∧ ∃ acc, H' D = some (.lst acc) ∧ acc.length ≤ i ∧ Pv i acc H') ⟨Kp.new hD, [], upd_same, Nat.le_refl _, h0 _ (Kp.new hD)⟩ (fun i H' hi ⟨kp, acc, ha, hl, hp⟩ => ?_) (fun H' ⟨kp, acc, ha, hl, hp⟩ => hd D acc H' ⟨hD⟩ kp ha hl hp)
  rw [Int.zero_add]
  refine ⟨wipe_set, ?_⟩
  exact hs i acc H' D hi ⟨hD⟩ kp ha hl hp
def rLcL (K : PySem.W.Frag) (g : TG) (tt : TT) (te : TE) (vs : List Nat) (σ : St) (Q : VK) : VK := fun x H => tLc (iList K (fun _ H2 q => q x H2)) g tt te vs σ H Q
theorem vLcL (h : tl σ H (rLcL K g tt te vs σ Q)) : tLc (iList K tl) g tt te vs σ H Q := h
/-- a test, then perhaps one more item -/
def rTst (te : TE) (H : Hp) (Pv : Nat → List V → Hp → Prop) (D : Addr) (i : Nat) (σ2 : St) : Bool → Hp → Prop := fun b H3 => if b = true then te σ2 H3 (rApp H Pv D i i) else Kp [] H H3 ∧ ∃ acc, H3 D = some (.lst acc) ∧ acc.length ≤ i + 1 ∧ Pv (i + 1) acc H3
theorem vrTst1 {te : TE} {H H3 : Hp} {Pv : Nat → List V → Hp → Prop} {D : Addr} {i : Nat} {σ2 : St} (h : te σ2 H3 (rApp H Pv D i i)) : rTst te H Pv D i σ2 true H3 := iteT h
theorem vrTst0 {te : TE} {H H3 : Hp} {Pv : Nat → List V → Hp → Prop} {D : Addr} {i : Nat} {σ2 : St} {acc : List V} (k : Kp [] H H3) (a : H3 D = some (.lst acc)) (l : acc.length ≤ i) (h : Pv (i + 1) acc H3) : rTst te H Pv D i σ2 false H3 := iteF ⟨k, acc, a, by omega, h⟩
theorem vrLcL {a : Addr} {xs : List V} (hl0 : SqL K H a xs) (hm : xs.length ≤ 1000) (Pv : Nat → List V → Hp → Prop) (h0 : ∀ H', Kp [] H H' → Pv 0 [] H')
    (hs : ∀ (i : Nat) x acc H' D, xs[i]? = some x → Fre H D → Kp [] H H' → H' D = some (.lst acc) → acc.length ≤ i → Pv i acc H' → tt ((wipe σ [j]).set j (some x)) H' (rTst te H Pv D i ((wipe σ [j]).set j (some x))))
    (hd : ∀ D acc H', Fre H D → Kp [] H H' → H' D = some (.lst acc) → acc.length ≤ xs.length → Pv xs.length acc H' → Q (.ref D) H') : rLcL K (gName j) tt te [j] σ Q (.ref a) H := by
  refine ⟨a, rfl, ⟨xs, hl0⟩, fun D hD => ?_⟩
  refine lc_list (K := K) (a := a) (xs := xs) (fun i H' => Kp [] H H' ∧ ∃ acc, H' D = some (.lst acc) ∧ acc.length ≤ i ∧ Pv i acc H') ⟨Kp.new hD, [], upd_same, Nat.le_refl _, h0 _ (Kp.new hD)⟩ (fun i H' _ ⟨kp, _⟩ => kp.seq hl0) (fun i x H' hx ⟨kp, acc, ha, hl, hp⟩ => ?_) (fun H' ⟨kp, acc, ha, hl, hp⟩ => hd D acc H' ⟨hD⟩ kp ha hl hp)
  refine ⟨wipe_set, ?_⟩
  exact hs i x acc H' D hx ⟨hD⟩ kp ha hl hp
theorem vYes {q : Bool → Hp → Prop} (h : q true H) : tYes σ H q := h
end
end G
namespace G
open PySem PySem.Spec PyProof.Rows L2
/-! ### try .. except -/
section
variable {X : Cx} {x n : Str} {c : Value} {i : Nat} {body suite : List Stmt} {b₀ : Stmt} {np pos pos' : Pos} {tb : WX → TS} {ts : Addr → Value → Option Addr → TS} {Wout : WX} {D : Ends} {σ : St} {H : Hp} {K : PySem.W.Frag} {cls : Value} {d : Option Addr}
def tTryAs (K : PySem.W.Frag) (c : Value) (i : Nat) (tb : WX → TS) (ts : Addr → Value → Option Addr → TS) (Wout : WX) : TS := fun D σ H => tb (wAs K c i ts Wout D) D σ H
theorem ps_tryAsG (hs : X.stack = X.env :: X.outer) (hf : X.env.frame = some X.env.locals) (hN : X.N.Nodup) (hi : X.N[i]? = some n) (hln : X.env.kindOf n = some .local) (hc : Names X x c) (tk : Takes X Wout)
    (hb : ∀ (W : WX) (pn : List (Addr × Obj)) (xe : Value → Shared → Prop), Takes (X.tr pn xe) W → PassesOwn (model X.prog X.w) X.A X.env xe → PSs (X.tr pn xe) body (tb W))
    (hsu : ∀ (a : Addr) (oe : Obj) (cls : Value) (d : Option Addr) (pn : List (Addr × Obj)), Zc cls d oe → (∃ vs, oe.data = .fields vs) → PSs (X.suite a ((a, oe) :: pn)) (b₀ :: suite) (ts a cls d)) :
    PS X (.Try body [.ExceptHandler (some (.Name x np)) (some n) (b₀ :: suite) pos'] [] [] pos) (tTryAs X.K c i tb ts Wout) := ps_try_as hs hf hN hi hln hc tk hb hsu
theorem vTryAs (h : tb (wAs K c i ts Wout D) D σ H) : tTryAs K c i tb ts Wout D σ H := h
/-- an exception that the clause takes -/
theorem vAsE (h : PySem.W.exmOne K cls c = some true) (k : ∀ a, Fre H a → ts a cls d { nx := fun σ' H' => D.nx (σ'.set i none) H', rt := D.rt, bk := fun σ' H' => D.bk (σ'.set i none) H', ct := fun σ' H' => D.ct (σ'.set i none) H' } (σ.set i (some (.ref a))) H) :
    WE (wAs K c i ts Wout D) σ cls d H := ⟨true, h, fun _ a ha => k a ⟨ha⟩, fun z => Bool.noConfusion z⟩
def tTryMany (K : PySem.W.Frag) (tb : WX → TS) (l : List (Value × (Addr → Value → Option Addr → TS))) (Wout : WX) : TS := fun D σ H => tb (wMany K Wout D l) D σ H
theorem ps_tryManyG {h₀ : ExceptHandler} {hds : List ExceptHandler} {l : List (Value × (Addr → Value → Option Addr → TS))} (hs : X.stack = X.env :: X.outer) (hf : X.env.frame = some X.env.locals) (tk : Takes X Wout)
    (hb : ∀ (W : WX) (pn : List (Addr × Obj)) (xe : Value → Shared → Prop), Takes (X.tr pn xe) W → PassesOwn (model X.prog X.w) X.A X.env xe → PSs (X.tr pn xe) body (tb W))
    (hh : HdsOk X (h₀ :: hds) l) : PS X (.Try body (h₀ :: hds) [] [] pos) (tTryMany X.K tb l Wout) := ps_try_many hs hf tk hb hh
theorem vTryMany {l : List (Value × (Addr → Value → Option Addr → TS))} (h : tb (wMany K Wout D l) D σ H) : tTryMany K tb l Wout D σ H := h
theorem vManyY {l : List (Value × (Addr → Value → Option Addr → TS))} (h : PySem.W.exmOne K cls c = some true) (k : ∀ a, Fre H a → ts a cls d D σ H) : WE (wMany K Wout D ((c, ts) :: l)) σ cls d H := ⟨true, h, fun _ a ha => k a ⟨ha⟩, fun z => Bool.noConfusion z⟩
theorem vManyN {l : List (Value × (Addr → Value → Option Addr → TS))} (h : PySem.W.exmOne K cls c = some false) (k : WE (wMany K Wout D l) σ cls d H) : WE (wMany K Wout D ((c, ts) :: l)) σ cls d H := ⟨false, h, fun z => Bool.noConfusion z, fun _ => k⟩
/-- isinstance(e, c), e the exception that the suite holds -/
def rIsEG (K : PySem.W.Frag) (a : Addr) (cls : Value) (d : Option Addr) : List V → Hp → VK → Prop := fun xs H Q => ∃ D, cls = .ref D ∧ d = none ∧ ExcC K D ∧ rIsE K D a xs H Q
theorem call_isEG {a : Addr} {oe : Obj} {pn : List (Addr × Obj)} (hz : Zc cls d oe) (hf : ∃ vs, oe.data = .fields vs) : CallR (X.suite a ((a, oe) :: pn)) (.builtin "isinstance") (rIsEG X.K a cls d) := by
  intro pins s σ H xs us Q I r ⟨D, ec, ed, C, h⟩
  subst ec ed
  exact call_isE C hz hf pins s σ H xs us Q I r h
theorem ix_listK {X : Cx} (K : PySem.W.Frag) (e : X.K = K) : IxR X (rIxL K) := e ▸ ix_list
theorem ix_tupK {X : Cx} (K : PySem.W.Frag) (e : X.K = K) : IxR X (rIxT K) := e ▸ ix_tup
theorem vIsE {a E : Addr} {t : String} {b : Bool} {Q : VK} (C : ExcC K E) (h : PySem.W.kitOne K (.ref E) (.type t) = some b) (q : Q (.bl b) H) : rIsEG K a (.ref E) none [.ref a, .ty t] H Q :=
  ⟨E, rfl, rfl, C, .ty t, .type t, b, rfl, fun _ e => e, h, q⟩
theorem vIsER {a E F : Addr} {b : Bool} {Q : VK} (C : ExcC K E) (h : PySem.W.kitOne K (.ref E) (.ref F) = some b) (q : Q (.bl b) H) : rIsEG K a (.ref E) none [.ref a, .ref F] H Q :=
  ⟨E, rfl, rfl, C, .ref F, .ref F, b, rfl, fun _ e => e, h, q⟩
end
end G
namespace G
open PySem PySem.Spec PyProof.Rows L2
theorem kit_VE {K : PySem.W.Frag} {D : Addr} {b : Bool} (h : PySem.W.subIn K (.ref D) (.type "ValueError") = some b) : PySem.W.kitOne K (.ref D) (.type "ValueError") = some b := by
  unfold PySem.W.kitOne
  rw [if_neg (fun z => by cases beq_iff_eq.mp z)]
  unfold PySem.W.kitCls
  dsimp only
  rw [if_pos (by decide +kernel)]
  exact h
theorem kit_OC {K : PySem.W.Frag} {D C : Addr} {b : Bool} (hd : PySem.W.hasDictIn K C = true) (ht : PySem.W.typeIn K (.ref C) = some (.type "type")) (hs : PySem.W.subIn K (.ref C) (.ref C) = some true) (h : PySem.W.subIn K (.ref D) (.ref C) = some b) : PySem.W.kitOne K (.ref D) (.ref C) = some b := by
  unfold PySem.W.kitOne
  by_cases e : D = C
  · subst e
    rw [if_pos (beq_self_eq_true _), ← hs]; exact h
  · rw [if_neg (fun z => e (Value.ref.inj (beq_iff_eq.mp z)))]
    unfold PySem.W.kitCls
    obtain ⟨cd, hc, _⟩ := PySem.W.any_some hd
    dsimp only
    rw [if_pos (by rw [hc, ht]; rfl)]
    exact h
end G
namespace G
open PySem PySem.Spec PyProof.Rows L2
theorem vIsB {a b : Bool} {H : Hp} {Q : VK} (q : Q (.bl (decide (a = b))) H) : rIsB (.bl a) (.bl b) H Q := ⟨a, b, rfl, rfl, q⟩
end G

namespace G
open PySem PySem.Spec PyProof.Rows L2
/-! ### steps -/
inductive Stp where
  | load (b : Int) | plus (b : Int) | store (b : Int) | add (n : Int) | twice | take | free
  deriving DecidableEq
def Stp.word : Stp → Str
  | .load _ => "load" | .plus _ => "plus" | .store _ => "store" | .add _ => "add" | .twice => "twice" | .take => "take" | .free => "free"
def Stp.args : Stp → List V
  | .load b => [.int b] | .plus b => [.int b] | .store b => [.int b] | .add n => [.int n] | _ => []
def Stp.enc (s : Stp) : List V := V.str s.word :: s.args
def Stp.arg : Stp → Int
  | .load b => b | .plus b => b | .store b => b | .add n => n | _ => 0
def Stp.isG : Stp → Bool
  | .take => true | .free => true | _ => false
def Stp.isB : Stp → Bool
  | .load _ => true | .plus _ => true | .store _ => true | _ => false
def Stp.isS : Stp → Bool
  | .store _ => true | _ => false
def apartS (a b : Stp) : Bool := if a.isG && b.isG then false else if a.isB && b.isB && decide (a.arg = b.arg) then !a.isS && !b.isS else true
theorem apartS_comm (a b : Stp) : apartS a b = apartS b a := by
  unfold apartS
  rw [Bool.and_comm a.isG, Bool.and_comm a.isB, Bool.and_comm (!a.isS), show decide (a.arg = b.arg) = decide (b.arg = a.arg) from decide_eq_decide.mpr eq_comm]
theorem word_isG (a : Stp) : inV (.str a.word) [.str "take", .str "free"] = a.isG := by cases a <;> simp only [Stp.word, Stp.isG] <;> decide +kernel
theorem word_isB (a : Stp) : inV (.str a.word) [.str "load", .str "plus", .str "store"] = a.isB := by cases a <;> simp only [Stp.word, Stp.isB] <;> decide +kernel
theorem word_isS (a : Stp) : decide (V.str a.word = V.str "store") = a.isS := by
  rw [dec_str]
  cases a <;> simp only [Stp.word, Stp.isS] <;> decide +kernel
theorem enc0 (a : Stp) : atI a.enc 0 = some (.str a.word) := at_of (j := 0) rfl rfl
theorem enc1 {a : Stp} (h : a.isB = true) : atI a.enc 1 = some (.int a.arg) := by cases a <;> first | exact at_of (j := 1) rfl rfl | cases h
/-! ### cells of the script -/
def cellI (ns : List Int) (i : Int) : Int := ns.getD i.toNat 0
def numBy3 (c : Int) : Int := if c % 3 = 1 then c * (10 ^ 59 + 7) % 10 ^ 60 * (1 - 2 * (c / 3 % 2)) else c / 3 % 41 - 20
end G
namespace G
open PySem PySem.Spec PyProof.Rows L2
/-! ### sizes of ints -/
def Bt (c : Int) : Prop := Builtin.Int.intBits c ≤ 1100000
theorem bits_mono {a b : Int} (h : a.natAbs ≤ b.natAbs) : Builtin.Int.intBits a ≤ Builtin.Int.intBits b := by
  unfold Builtin.Int.intBits
  by_cases ha : a = 0
  · rw [ha]; exact Nat.zero_le _
  · have hb : b ≠ 0 := fun e => by rw [e] at h; omega
    rw [if_neg (by simpa using ha), if_neg (by simpa using hb)]
    have : a.natAbs.log2 ≤ b.natAbs.log2 := by
      have h1 : 2 ^ a.natAbs.log2 ≤ b.natAbs := Nat.le_trans (Nat.log2_self_le (by omega)) h
      exact (Nat.le_log2 (by omega)).mpr h1
    omega
theorem Bt.div {c : Int} (h : Bt c) {k : Int} (hk : 0 < k) : Bt (c / k) := by
  refine Nat.le_trans (bits_mono ?_) h
  rcases Int.lt_or_le c 0 with h0 | h0
  · have h1 : c ≤ c / k := by
      have := Int.le_ediv_of_mul_le (a := c) (b := c) hk (by
        have e : c * k - c = c * (k - 1) := by rw [Int.mul_sub, Int.mul_one]
        have q : c * (k - 1) ≤ 0 := Int.mul_nonpos_of_nonpos_of_nonneg (by omega) (by omega)
        omega)
      exact this
    have h2 : c / k < 0 := Int.ediv_neg_of_neg_of_pos h0 hk
    omega
  · have h1 : c / k ≤ c := Int.ediv_le_self _ h0
    have h2 : 0 ≤ c / k := Int.ediv_nonneg h0 (by omega)
    omega
theorem bits_big : Builtin.Int.intBits (10 ^ 59 + 7) ≤ 200 := by decide +kernel
theorem mulBig {c : Int} (h : Bt c) : IntMulOk c (10 ^ 59 + 7) := by
  unfold IntMulOk
  intro z
  rw [Bool.and_eq_true] at z
  have z3 := of_decide_eq_true z.2
  have e : bitsLine = 134217728 := by decide
  rw [e] at z3
  have h1 : Builtin.Int.intBits c ≤ 1100000 := h
  have h2 := bits_big
  omega
theorem bt_of {n : Int} (h : Builtin.Int.intBits n ≤ 1048576) : Bt n := Nat.le_trans h (by decide)
theorem bt0 : Bt 0 := by
  show Builtin.Int.intBits 0 ≤ 1100000
  have : Builtin.Int.intBits 0 = 0 := rfl
  omega
theorem bt_cell {ns : List Int} (h : ∀ z ∈ ns, Builtin.Int.intBits z ≤ 1048576) (i : Int) : Bt (cellI ns i) := by
  unfold cellI
  rw [List.getD_eq_getElem?_getD]
  cases e : ns[i.toNat]? with
  | none => exact bt0
  | some z => exact bt_of (h z (List.mem_of_getElem? e))
/-! ### a step by its number -/
def mk7 (i : Int) (b n : Int) : Stp := if i = 0 then .load b else if i = 1 then .plus b else if i = 2 then .store b else if i = 3 then .add n else if i = 4 then .twice else if i = 5 then .take else .free
theorem ati7 (c b n : Int) : atI [V.str "load", V.str "plus", V.str "store", V.str "add", V.str "twice", V.str "take", V.str "free"] (c % 7) = some (.str (mk7 (c % 7) b n).word) := by
  have h1 := Int.emod_nonneg c (show (7 : Int) ≠ 0 by decide)
  have h2 := Int.emod_lt_of_pos c (show (0 : Int) < 7 by decide)
  rcases (show c % 7 = 0 ∨ c % 7 = 1 ∨ c % 7 = 2 ∨ c % 7 = 3 ∨ c % 7 = 4 ∨ c % 7 = 5 ∨ c % 7 = 6 by omega) with e | e | e | e | e | e | e <;> rw [e] <;> rfl
theorem enc_isB {a : Stp} (h : a.isB = true) : [V.str a.word, V.int a.arg] = a.enc := by cases a <;> first | rfl | cases h
def Stp.isA : Stp → Bool
  | .add _ => true | _ => false
theorem enc_isA {a : Stp} (h : a.isA = true) : [V.str a.word, V.int a.arg] = a.enc := by cases a <;> first | rfl | cases h
theorem enc_bare {a : Stp} (h : a.isB = false) (h2 : a.isA = false) : [V.str a.word] = a.enc := by cases a <;> first | rfl | exact Bool.noConfusion h | exact Bool.noConfusion h2
theorem word_isA (a : Stp) : decide (V.str a.word = V.str "add") = a.isA := by
  rw [dec_str]
  cases a <;> simp only [Stp.word, Stp.isA] <;> decide +kernel
theorem useEqA {H : Hp} {Q : VK} {a : Stp} (q : Q (.bl a.isA) H) : rEq (.str a.word) (.str "add") H Q := vEq rfl (by rw [word_isA]; exact q)
theorem useNeS {H : Hp} {Q : VK} {a : Stp} (q : Q (.bl (!a.isS)) H) : rNe (.str a.word) (.str "store") H Q := vNe rfl (by rw [word_isS]; exact q)
theorem useInG {K : PySem.W.Frag} {H : Hp} {Q : VK} {a : Stp} {p : Addr} (h : SqT K H p [.str "take", .str "free"]) (q : Q (.bl a.isG) H) : rIn K false (.str a.word) (.ref p) H Q := vIn (.inr h) rfl rfl (by rw [if_neg Bool.false_ne_true, word_isG]; exact q)
theorem useInB {K : PySem.W.Frag} {H : Hp} {Q : VK} {a : Stp} {p : Addr} (h : SqT K H p [.str "load", .str "plus", .str "store"]) (q : Q (.bl a.isB) H) : rIn K false (.str a.word) (.ref p) H Q := vIn (.inr h) rfl rfl (by rw [if_neg Bool.false_ne_true, word_isB]; exact q)
end G
namespace G
open PySem PySem.Spec PyProof.Rows L2
theorem mk7_argB {i b n : Int} (h : (mk7 i b n).isB = true) : (mk7 i b n).arg = b := by
  unfold mk7 at h ⊢
  repeat' split at h
  all_goals first | rfl | exact Bool.noConfusion h | skip
  all_goals simp_all [Stp.arg, Stp.isB]
theorem mk7_argA {i b n : Int} (h : (mk7 i b n).isA = true) : (mk7 i b n).arg = n := by
  unfold mk7 at h ⊢
  repeat' split at h
  all_goals first | rfl | exact Bool.noConfusion h | skip
  all_goals simp_all [Stp.arg, Stp.isA]
theorem mk7_encB {i b n : Int} (h : (mk7 i b n).isB = true) : [V.str (mk7 i b n).word, V.int b] = (mk7 i b n).enc := by rw [← enc_isB h, mk7_argB h]
theorem mk7_encA {i b n : Int} (h : (mk7 i b n).isA = true) : [V.str (mk7 i b n).word, V.int n] = (mk7 i b n).enc := by rw [← enc_isA h, mk7_argA h]
end G
namespace G
open PySem PySem.Spec PyProof.Rows L2
/-! ### what is a step, by values -/
def PlainV (H : Hp) : V → Prop
  | .non => True | .bl _ => True | .int _ => True | .str _ => True
  | .ref p => (∃ ys, H p = some (.lst ys)) ∨ (∃ ys, H p = some (.tup ys))
  | _ => False
def isStrV : V → Bool
  | .str _ => true | _ => false
def isIntV : V → Bool
  | .int _ => true | .bl _ => true | _ => false
def isBlV : V → Bool
  | .bl _ => true | _ => false
def isWholeV : V → Bool
  | .int _ => true | _ => false
def boxedW : List V := [V.str "load", V.str "plus", V.str "store"]
def guardsW : List V := [V.str "take", V.str "free"]
def stepOk : List V → Bool
  | [] => false
  | v :: r => match v with
    | .str w => if inV (.str w) boxedW || decide (w = "add") then (match r with | [x] => isWholeV x | _ => false) else (match r with | [] => decide (w = "twice") || inV (.str w) guardsW | _ => false)
    | _ => false
theorem isi_of {K : PySem.W.Frag} {H : Hp} {Q : VK} {v : V} {s : String} {b : Bool} (pv : PlainV H v) (hn : v = .non → kitB "NoneType" s = some b) (hb : ∀ x, v = .bl x → kitB "bool" s = some b) (hi : ∀ x, v = .int x → kitB "int" s = some b) (hs : ∀ x, v = .str x → kitB "str" s = some b)
    (hl : ∀ p, v = .ref p → kitB "list" s = some b ∧ kitB "tuple" s = some b) (q : Q (.bl b) H) : rIsi K [v, .ty s] H Q := by
  cases v with
  | non => exact vIsi (.base .non) (kit_ty (hn rfl)) q
  | bl x => exact vIsi (.base (.bl x)) (kit_ty (hb x rfl)) q
  | int x => exact vIsi (.base (.int x)) (kit_ty (hi x rfl)) q
  | str x => exact vIsi (.base (.str x)) (kit_ty (hs x rfl)) q
  | ref p =>
    rcases pv with ⟨ys, h⟩ | ⟨ys, h⟩
    · exact vIsi (.base (.lst h)) (kit_ty (hl p rfl).1) q
    · exact vIsi (.base (.tup h)) (kit_ty (hl p rfl).2) q
  | byt _ => exact pv.elim
  | flt _ => exact pv.elim
  | ty _ => exact pv.elim
theorem kt : kitB "NoneType" "str" = some false ∧ kitB "bool" "str" = some false ∧ kitB "int" "str" = some false ∧ kitB "str" "str" = some true ∧ kitB "list" "str" = some false ∧ kitB "tuple" "str" = some false
  ∧ kitB "NoneType" "int" = some false ∧ kitB "bool" "int" = some true ∧ kitB "int" "int" = some true ∧ kitB "str" "int" = some false ∧ kitB "list" "int" = some false ∧ kitB "tuple" "int" = some false
  ∧ kitB "NoneType" "bool" = some false ∧ kitB "bool" "bool" = some true ∧ kitB "int" "bool" = some false ∧ kitB "str" "bool" = some false ∧ kitB "list" "bool" = some false ∧ kitB "tuple" "bool" = some false := by decide +kernel
theorem useIsiStr {K : PySem.W.Frag} {H : Hp} {Q : VK} {v : V} (pv : PlainV H v) (q : Q (.bl (isStrV v)) H) : rIsi K [v, .ty "str"] H Q := by
  obtain ⟨a1, a2, a3, a4, a5, a6, _⟩ := kt
  refine isi_of pv (b := isStrV v) ?_ ?_ ?_ ?_ ?_ q
  · rintro rfl; exact a1
  · rintro _ rfl; exact a2
  · rintro _ rfl; exact a3
  · rintro _ rfl; exact a4
  · rintro _ rfl; exact ⟨a5, a6⟩
theorem useIsiInt {K : PySem.W.Frag} {H : Hp} {Q : VK} {v : V} (pv : PlainV H v) (q : Q (.bl (isIntV v)) H) : rIsi K [v, .ty "int"] H Q := by
  obtain ⟨_, _, _, _, _, _, a1, a2, a3, a4, a5, a6, _⟩ := kt
  refine isi_of pv (b := isIntV v) ?_ ?_ ?_ ?_ ?_ q
  · rintro rfl; exact a1
  · rintro _ rfl; exact a2
  · rintro _ rfl; exact a3
  · rintro _ rfl; exact a4
  · rintro _ rfl; exact ⟨a5, a6⟩
theorem useIsiBl {K : PySem.W.Frag} {H : Hp} {Q : VK} {v : V} (pv : PlainV H v) (q : Q (.bl (isBlV v)) H) : rIsi K [v, .ty "bool"] H Q := by
  obtain ⟨_, _, _, _, _, _, _, _, _, _, _, _, a1, a2, a3, a4, a5, a6⟩ := kt
  refine isi_of pv (b := isBlV v) ?_ ?_ ?_ ?_ ?_ q
  · rintro rfl; exact a1
  · rintro _ rfl; exact a2
  · rintro _ rfl; exact a3
  · rintro _ rfl; exact a4
  · rintro _ rfl; exact ⟨a5, a6⟩
def spWhole : Sp := fun vs H Q _ => ∃ v, vs = [v] ∧ PlainV H v ∧ Q (.bl (isWholeV v)) H
theorem useWhole {H : Hp} {Q : VK} {E : XK} {v : V} (h : PlainV H v) (k : Q (.bl (isWholeV v)) H) : spWhole [v] H Q E := ⟨v, rfl, h, k⟩
/-- the thing is a tuple of plain values, or no tuple -/
def spIsStep : Sp := fun vs H Q _ => ∃ v, vs = [v] ∧ PlainV H v ∧ ((∃ p xs, v = .ref p ∧ H p = some (.tup xs) ∧ (∀ x ∈ xs, PlainV H x) ∧ Q (.bl (stepOk xs)) H) ∨ ((∀ p, v = .ref p → ∃ ys, H p = some (.lst ys)) ∧ Q (.bl false) H))
theorem useIsStepT {H : Hp} {Q : VK} {E : XK} {p : Addr} {xs : List V} (h : H p = some (.tup xs)) (hx : ∀ x ∈ xs, PlainV H x) (k : Q (.bl (stepOk xs)) H) : spIsStep [.ref p] H Q E := ⟨_, rfl, .inr ⟨_, h⟩, .inl ⟨p, xs, rfl, h, hx, k⟩⟩
theorem PlainV.keep {H H' : Hp} (k : Kp [] H H') {v : V} (h : PlainV H v) : PlainV H' v := by
  cases v with
  | ref p =>
    rcases h with ⟨ys, h⟩ | ⟨ys, h⟩
    · exact .inl ⟨ys, k.get h nin_nil⟩
    · exact .inr ⟨ys, k.get h nin_nil⟩
  | _ => exact h
theorem enc_plain (H : Hp) (a : Stp) : ∀ x ∈ a.enc, PlainV H x := by
  intro x hx
  cases a <;> simp [Stp.enc, Stp.args] at hx <;> first | (rcases hx with hx | hx <;> subst hx <;> trivial) | (subst hx; trivial)
theorem enc_ok (a : Stp) : stepOk a.enc = true := by cases a <;> rfl
end G
namespace G
open PySem PySem.Spec PyProof.Rows L2
theorem num3_abs (c : Int) : (numBy3 c).natAbs < 2 ^ 200 := by
  have big : (10 : Int) ^ 60 < 2 ^ 200 := by decide +kernel
  unfold numBy3
  split
  · have h1 := Int.emod_nonneg (c * (10 ^ 59 + 7)) (show (10 ^ 60 : Int) ≠ 0 by decide +kernel)
    have h2 := Int.emod_lt_of_pos (c * (10 ^ 59 + 7)) (show (0 : Int) < 10 ^ 60 by decide +kernel)
    generalize c * (10 ^ 59 + 7) % 10 ^ 60 = y at *
    have h3 : 1 - 2 * (c / 3 % 2) = 1 ∨ 1 - 2 * (c / 3 % 2) = -1 := by omega
    rcases h3 with h3 | h3 <;> rw [h3]
    · rw [Int.mul_one]; omega
    · rw [Int.mul_neg, Int.mul_one]; omega
  · have h1 : (c / 3 % 41 - 20).natAbs < 100 := by omega
    exact Nat.lt_trans h1 (by decide +kernel)
theorem num3_log (c : Int) : (numBy3 c).natAbs.log2 < 1920 := by
  rcases Nat.eq_zero_or_pos (numBy3 c).natAbs with h0 | hp
  · rw [h0]; decide
  · exact Nat.lt_trans ((Nat.log2_lt (Nat.ne_of_gt hp)).mpr (num3_abs c)) (by decide)
end G
namespace G
open PySem PySem.Spec PyProof.Rows L2
theorem useIsStepN {H : Hp} {Q : VK} {E : XK} {v : V} (h : PlainV H v) (n : ∀ p, v ≠ .ref p) (k : Q (.bl false) H) : spIsStep [v] H Q E := ⟨_, rfl, h, .inr ⟨fun p e => absurd e (n p), k⟩⟩
theorem useIsStepL {H : Hp} {Q : VK} {E : XK} {p : Addr} {ys : List V} (h : H p = some (.lst ys)) (k : Q (.bl false) H) : spIsStep [.ref p] H Q E := ⟨_, rfl, .inl ⟨_, h⟩, .inr ⟨fun q e => by cases e; exact ⟨_, h⟩, k⟩⟩
theorem pl_nil {H : Hp} : ∀ x ∈ ([] : List V), PlainV H x := fun _ h => by cases h
theorem pl_cons {H : Hp} {v : V} {r : List V} (h : PlainV H v) (t : ∀ x ∈ r, PlainV H x) : ∀ x ∈ v :: r, PlainV H x := fun x hx => (List.mem_cons.mp hx).elim (fun e => e ▸ h) (t x)
theorem inV_cons {w x : Str} {r : List V} : inV (.str w) (.str x :: r) = (decide (w = x) || inV (.str w) r) := by
  show (eqV (.str x) (.str w) || r.any fun y => eqV y (.str w)) = _
  have : eqV (.str x) (.str w) = decide (w = x) := by
    show (x == w) = decide (w = x)
    rw [Bool.beq_eq_decide_eq]
    exact decide_eq_decide.mpr eq_comm
  rw [this]
  rfl
theorem inV_nil {v : V} : inV v [] = false := rfl
theorem step_wn (w : Str) (n : Int) : stepOk [.str w, .int n] = inV (.str w) [.str "load", .str "plus", .str "store", .str "add"] := by
  unfold stepOk boxedW
  simp only [inV_cons, inV_nil, isWholeV, Bool.or_false, Bool.or_assoc]
  split
  · rename_i h; exact h.symm
  · rename_i h; exact (Bool.eq_false_iff.mpr h).symm
theorem step_w (w : Str) : stepOk [.str w] = inV (.str w) [.str "twice", .str "take", .str "free"] := by
  unfold stepOk boxedW guardsW
  simp only [inV_cons, inV_nil, Bool.or_false]
  by_cases h1 : w = "twice"
  · subst h1; decide +kernel
  by_cases h2 : w = "take"
  · subst h2; decide +kernel
  by_cases h3 : w = "free"
  · subst h3; decide +kernel
  simp only [h1, h2, h3, decide_false, Bool.or_false, ite_self]
theorem step_wb {w : Str} {x : V} (h : isWholeV x = false) : stepOk [.str w, x] = false := by
  unfold stepOk
  simp only [h, ite_self]
theorem step_w3 {w : Str} {x y : V} : stepOk [.str w, x, y] = false := by
  unfold stepOk
  simp only [ite_self]
theorem len_le {n : Nat} (h : n ≤ 1000) : n ≤ sizeLine := Nat.le_trans h (by decide)
end G
namespace G
open PySem PySem.Spec PyProof.Rows L2
/-! ### rows that may hold wrong things -/
inductive Err where
  | tooMany | badStep | badBox | again | notHeld | noTurn | waits | stuck
  deriving DecidableEq
/-- where the errors' classes stand -/
def ers (a b c d e f g h : Addr) : Err → Addr
  | .tooMany => a | .badStep => b | .badBox => c | .again => d | .notHeld => e | .noTurn => f | .waits => g | .stuck => h
/-- a thing: the items of a tuple, or no tuple -/
abbrev Thg := Option (List V)
def ThAt (H : Hp) (v : V) : Thg → Prop
  | some xs => ∃ p, v = .ref p ∧ H p = some (.tup xs) ∧ ∀ x ∈ xs, PlainV H x
  | none => PlainV H v ∧ ∀ p, v = .ref p → ∃ ys, H p = some (.lst ys)
structure ThRow (H : Hp) (xs : List V) (cs : List Thg) : Prop where
  n : xs.length = cs.length
  e : ∀ (i : Nat) (v : V) (c : Thg), xs[i]? = some v → cs[i]? = some c → ThAt H v c
def okC : Thg → Bool
  | some xs => stepOk xs | none => false
theorem stepOk_enc {xs : List V} (h : stepOk xs = true) : ∃ s : Stp, xs = s.enc := by
  unfold stepOk at h
  split at h
  · cases h
  · split at h
    · rename_i w
      unfold boxedW guardsW at h
      simp only [inV_cons, inV_nil, Bool.or_false] at h
      split at h
      · rename_i hw
        split at h
        · rename_i x
          cases x with
          | int n =>
            simp only [Bool.or_eq_true, decide_eq_true_eq] at hw
            rcases hw with (hw | hw | hw) | hw <;> subst hw
            · exact ⟨.load n, rfl⟩
            · exact ⟨.plus n, rfl⟩
            · exact ⟨.store n, rfl⟩
            · exact ⟨.add n, rfl⟩
          | _ => cases h
        · cases h
      · split at h
        · simp only [Bool.or_eq_true, decide_eq_true_eq] at h
          rcases h with h | h | h <;> subst h
          · exact ⟨.twice, rfl⟩
          · exact ⟨.take, rfl⟩
          · exact ⟨.free, rfl⟩
        · cases h
    · cases h
/-- the box of a step is there -/
def inBox (many : Int) (s : Stp) : Bool := !s.isB || (decide (0 ≤ s.arg) && decide (s.arg < many))
/-- what is wrong with a thing -/
def thErr (many : Int) (c : Thg) : Option Err := match c with
  | none => some .badStep
  | some xs => if stepOk xs = false then some .badStep else match xs with
    | [.str w, .int b] => if inV (.str w) boxedW = true ∧ ¬ (0 ≤ b ∧ b < many) then some .badBox else none
    | _ => none
theorem thErr_enc (many : Int) (s : Stp) : thErr many (some s.enc) = if inBox many s = true then none else some .badBox := by
  have e := enc_ok s
  have h1 : inV (.str "load") boxedW = true := by decide +kernel
  have h2 : inV (.str "plus") boxedW = true := by decide +kernel
  have h3 : inV (.str "store") boxedW = true := by decide +kernel
  have h4 : inV (.str "add") boxedW = false := by decide +kernel
  have go : ∀ b : Int, (if True ∧ ¬ (0 ≤ b ∧ b < many) then some Err.badBox else none) = if (decide (0 ≤ b) && decide (b < many)) = true then none else some .badBox := fun b => by
    by_cases hb : 0 ≤ b ∧ b < many
    · rw [if_neg (fun z => z.2 hb), if_pos (by simp [hb.1, hb.2])]
    · rw [if_pos ⟨trivial, hb⟩, if_neg (by simp only [Bool.and_eq_true, decide_eq_true_eq]; exact hb)]
  have top : ∀ x : Option Err, (if stepOk s.enc = false then some Err.badStep else x) = x := fun x => if_neg (by rw [e]; decide)
  cases s with
  | load b =>
    refine (top _).trans ?_
    show (if inV (V.str "load") boxedW = true ∧ ¬ (0 ≤ b ∧ b < many) then some Err.badBox else none) = _
    simp only [h1, eq_self_iff_true]
    exact go b
  | plus b =>
    refine (top _).trans ?_
    show (if inV (V.str "plus") boxedW = true ∧ ¬ (0 ≤ b ∧ b < many) then some Err.badBox else none) = _
    simp only [h2, eq_self_iff_true]
    exact go b
  | store b =>
    refine (top _).trans ?_
    show (if inV (V.str "store") boxedW = true ∧ ¬ (0 ≤ b ∧ b < many) then some Err.badBox else none) = _
    simp only [h3, eq_self_iff_true]
    exact go b
  | add b =>
    refine (top _).trans ?_
    show (if inV (V.str "add") boxedW = true ∧ ¬ (0 ≤ b ∧ b < many) then some Err.badBox else none) = _
    simp only [h4, Bool.false_eq_true, false_and, if_false]
    rfl
  | twice => exact top _
  | take => exact top _
  | free => exact top _
theorem thErr_bad {many : Int} {c : Thg} (h : okC c = false) : thErr many c = some .badStep := by
  cases c with
  | none => rfl
  | some xs => unfold thErr; exact if_pos h
def needC (cs : List Thg) (many : Int) : Option Err := if cs.length > 60 then some .tooMany else cs.findSome? (thErr many)
def spNeed (er : Err → Addr) : Sp := fun vs H Q E => ∃ (a : Addr) (many : Int) (xs : List V) (cs : List Thg), vs = [.ref a, .int many] ∧ H a = some (.lst xs) ∧ ThRow H xs cs ∧
  (needC cs many = none → Q .non H) ∧ ∀ e, needC cs many = some e → E (.ref (er e)) none H
theorem useNeed {er : Err → Addr} {H : Hp} {Q : VK} {E : XK} {a : Addr} {many : Int} {xs : List V} {cs : List Thg} (h : H a = some (.lst xs)) (t : ThRow H xs cs) (k : needC cs many = none → Q .non H) (ke : ∀ e, needC cs many = some e → E (.ref (er e)) none H) :
    spNeed er [.ref a, .int many] H Q E := ⟨a, many, xs, cs, rfl, h, t, k, ke⟩
theorem ThAt.keep {H H' : Hp} (k : Kp [] H H') {v : V} {c : Thg} (h : ThAt H v c) : ThAt H' v c := by
  cases c with
  | none => exact ⟨h.1.keep k, fun p e => by obtain ⟨ys, q⟩ := h.2 p e; exact ⟨ys, k.get q nin_nil⟩⟩
  | some xs => obtain ⟨p, e, q, r⟩ := h; exact ⟨p, e, k.getT q, fun x hx => (r x hx).keep k⟩
theorem ThRow.keep {H H' : Hp} (k : Kp [] H H') {xs : List V} {cs : List Thg} (h : ThRow H xs cs) : ThRow H' xs cs := ⟨h.n, fun i v c a b => (h.e i v c a b).keep k⟩
theorem find_take_none {α β : Type} {f : α → Option β} : ∀ {l : List α} {i : Nat} {c : α}, (l.take i).findSome? f = none → l[i]? = some c → f c = none → (l.take (i + 1)).findSome? f = none
  | [], i, c, _, h, _ => by simp at h
  | a :: r, 0, c, _, h, hc => by
    have e : a = c := by simpa using h
    subst e
    simp [hc]
  | a :: r, i + 1, c, h0, h, hc => by
    simp only [List.take_succ_cons, List.findSome?_cons] at h0 ⊢
    cases e : f a with
    | some b => rw [e] at h0; cases h0
    | none =>
      rw [e] at h0
      exact find_take_none h0 (by simpa using h) hc
theorem find_take_some {α β : Type} {f : α → Option β} : ∀ {l : List α} {i : Nat} {c : α} {b : β}, (l.take i).findSome? f = none → l[i]? = some c → f c = some b → l.findSome? f = some b
  | [], i, c, b, _, h, _ => by simp at h
  | a :: r, 0, c, b, _, h, hc => by
    have e : a = c := by simpa using h
    subst e
    simp [hc]
  | a :: r, i + 1, c, b, h0, h, hc => by
    simp only [List.take_succ_cons, List.findSome?_cons] at h0 ⊢
    cases e : f a with
    | some b => rw [e] at h0; cases h0
    | none =>
      rw [e] at h0
      exact find_take_some h0 (by simpa using h) hc
end G
namespace G
open PySem PySem.Spec PyProof.Rows L2
/-! ### the state of two rows -/
def hI (h : Bool) : Int := if h then 1 else 0
def upB {α : Type} (f : Bool → α) (h : Bool) (v : α) : Bool → α := fun g => if g = h then v else f g
theorem upB_same {α : Type} {f : Bool → α} {h : Bool} {v : α} : upB f h v h = v := if_pos rfl
theorem upB_ne {α : Type} {f : Bool → α} {h g : Bool} {v : α} (e : g ≠ h) : upB f h v g = f g := if_neg e
theorem at_h {α : Type} {f : Bool → α} {h : Bool} (c : α → V) : atI [c (f false), c (f true)] (hI h) = some (c (f h)) := by cases h <;> rfl
theorem ix_h {α : Type} {x y : α} {h : Bool} : ixN [x, y].length (hI h) = some (hI h).toNat := by cases h <;> rfl
theorem set_h {α : Type} {f : Bool → α} {h : Bool} {v : α} (c : α → V) : [c (f false), c (f true)].set (hI h).toNat (c v) = [c (upB f h v false), c (upB f h v true)] := by cases h <;> rfl
structure LS where
  rows : Bool → List Stp
  boxes : List Int
  num : Bool → Int
  pl : Bool → Nat
  hd : Option Bool
def LS.next (S : LS) (h : Bool) : Option Stp := (S.rows h)[S.pl h]?
def LS.over (S : LS) (h : Bool) : Bool := decide (S.pl h = (S.rows h).length)
def Stp.isT : Stp → Bool
  | .take => true | _ => false
def LS.waits (S : LS) (h : Bool) : Bool := match S.next h with
  | some s => s.isT && decide (S.hd = some (!h))
  | none => false
def LS.box (S : LS) (b : Int) : Int := S.boxes.getD b.toNat 0
def LS.act (S : LS) (h : Bool) (s : Stp) : LS := match s with
  | .load b => { S with num := upB S.num h (S.box b) }
  | .plus b => { S with num := upB S.num h (S.num h + S.box b) }
  | .store b => { S with boxes := S.boxes.set b.toNat (S.num h) }
  | .add n => { S with num := upB S.num h (S.num h + n) }
  | .twice => { S with num := upB S.num h (2 * S.num h) }
  | .take => { S with hd := some h }
  | .free => { S with hd := none }
def LS.tick (S : LS) (h : Bool) : LS := { S with pl := upB S.pl h (S.pl h + 1) }
def LS.eff (S : LS) (h : Bool) (s : Stp) : LS := (S.act h s).tick h
/-- what the guard refuses -/
def LS.gErr (S : LS) (h : Bool) (s : Stp) : Option Err := match s with
  | .take => if S.hd = some h then some .again else none
  | .free => if S.hd = some h then none else some .notHeld
  | _ => none
def LS.err (S : LS) (h : Bool) : Option Err := match S.next h with
  | none => some .noTurn
  | some s => if S.waits h = true then some .waits else S.gErr h s
structure LS.Ok (S : LS) : Prop where
  len : ∀ h, (S.rows h).length ≤ 60
  box : ∀ h s, s ∈ S.rows h → inBox S.boxes.length s = true
  pl : ∀ h, S.pl h ≤ (S.rows h).length
theorem act_rows (S : LS) (h : Bool) (s : Stp) : (S.act h s).rows = S.rows := by cases s <;> rfl
theorem act_pl (S : LS) (h : Bool) (s : Stp) : (S.act h s).pl = S.pl := by cases s <;> rfl
theorem act_boxes (S : LS) (h : Bool) (s : Stp) : (S.act h s).boxes.length = S.boxes.length := by cases s <;> simp [LS.act]
theorem eff_rows (S : LS) (h : Bool) (s : Stp) : (S.eff h s).rows = S.rows := act_rows S h s
theorem eff_boxes (S : LS) (h : Bool) (s : Stp) : (S.eff h s).boxes.length = S.boxes.length := act_boxes S h s
theorem next_lt {S : LS} {h : Bool} {s : Stp} (e : S.next h = some s) : S.pl h < (S.rows h).length := (List.getElem?_eq_some_iff.mp e).1
theorem LS.Ok.eff {S : LS} (o : S.Ok) {h : Bool} {s : Stp} (e : S.next h = some s) : (S.eff h s).Ok where
  len := fun g => by rw [eff_rows]; exact o.len g
  box := fun g t ht => by rw [eff_rows] at ht; rw [eff_boxes]; exact o.box g t ht
  pl := fun g => by
    rw [eff_rows]
    have e2 : (S.eff h s).pl = upB S.pl h (S.pl h + 1) := by
      show upB (S.act h s).pl h ((S.act h s).pl h + 1) = _
      rw [act_pl]
    rw [e2]
    by_cases q : g = h
    · subst q; rw [upB_same]; exact next_lt e
    · rw [upB_ne q]; exact o.pl g
theorem next_none {S : LS} (o : S.Ok) {h : Bool} : S.next h = none ↔ S.over h = true := by
  unfold LS.next LS.over
  rw [List.getElem?_eq_none_iff, decide_eq_true_eq]
  have := o.pl h
  omega
theorem next_some {S : LS} (o : S.Ok) {h : Bool} (e : S.over h = false) : ∃ s, S.next h = some s := by
  cases q : S.next h with
  | some s => exact ⟨s, rfl⟩
  | none => rw [(next_none o).mp q] at e; cases e
def LS.start (rows : Bool → List Stp) (boxes : List Int) : LS := ⟨rows, boxes, fun _ => 0, fun _ => 0, none⟩
/-! ### rows, looms in the heap -/
structure RowAt (H : Hp) (a : Addr) (ps : List Addr) (rs : List Stp) : Prop where
  l : H a = some (.lst (ps.map V.ref))
  n : ps.length = rs.length
  e : ∀ (i : Nat) (p : Addr) (s : Stp), ps[i]? = some p → rs[i]? = some s → H p = some (.tup s.enc)
theorem RowAt.keep {W : List Addr} {H H' : Hp} {a : Addr} {ps : List Addr} {rs : List Stp} (r : RowAt H a ps rs) (k : Kp W H H') (n : a ∉ W) : RowAt H' a ps rs := ⟨k.get r.l n, r.n, fun i p s h1 h2 => k.getT (r.e i p s h1 h2)⟩
theorem RowAt.copy {W : List Addr} {H H' : Hp} {a b : Addr} {ps : List Addr} {rs : List Stp} (r : RowAt H a ps rs) (k : Kp W H H') (h : H' b = some (.lst (ps.map V.ref))) : RowAt H' b ps rs := ⟨h, r.n, fun i p s h1 h2 => k.getT (r.e i p s h1 h2)⟩
theorem RowAt.th {H : Hp} {a : Addr} {ps : List Addr} {rs : List Stp} (r : RowAt H a ps rs) : ThRow H (ps.map V.ref) (rs.map fun s => some s.enc) := by
  refine ⟨by rw [List.length_map, List.length_map, r.n], fun i v c h1 h2 => ?_⟩
  rw [List.getElem?_map] at h1 h2
  cases e1 : ps[i]? with
  | none => rw [e1] at h1; cases h1
  | some p =>
    cases e2 : rs[i]? with
    | none => rw [e2] at h2; cases h2
    | some s =>
      rw [e1] at h1; rw [e2] at h2
      cases h1; cases h2
      exact ⟨p, rfl, r.e i p s e1 e2, enc_plain H s⟩
theorem RowAt.get {H : Hp} {a : Addr} {ps : List Addr} {rs : List Stp} (r : RowAt H a ps rs) {i : Nat} {s : Stp} (e : rs[i]? = some s) : ∃ p, ps[i]? = some p ∧ atI (ps.map V.ref) (i : Int) = some (.ref p) ∧ H p = some (.tup s.enc) := by
  have hi : i < rs.length := (List.getElem?_eq_some_iff.mp e).1
  have hp : i < ps.length := by rw [r.n]; exact hi
  refine ⟨ps[i], List.getElem?_eq_getElem hp, at_of rfl (by rw [List.getElem?_map, List.getElem?_eq_getElem hp]; rfl), r.e i _ s (List.getElem?_eq_getElem hp) e⟩
structure LA where
  p : Addr
  dx : Addr
  r : Addr
  row : Bool → Addr
  ps : Bool → List Addr
  b : Addr
  n : Addr
  q : Addr
def hV : Option Bool → V
  | none => .non | some h => .int (hI h)
def lf (A : LA) (v : V) : List (Str × V) := [("rows", .ref A.r), ("boxes", .ref A.b), ("numbers", .ref A.n), ("places", .ref A.q), ("holder", v)]
theorem lf_rows {A : LA} {v : V} : (lf A v).lookup ("rows" : Str) = some (.ref A.r) := by rfl
theorem lf_boxes {A : LA} {v : V} : (lf A v).lookup ("boxes" : Str) = some (.ref A.b) := by rfl
theorem lf_numbers {A : LA} {v : V} : (lf A v).lookup ("numbers" : Str) = some (.ref A.n) := by rfl
theorem lf_places {A : LA} {v : V} : (lf A v).lookup ("places" : Str) = some (.ref A.q) := by rfl
theorem lf_holder {A : LA} {v : V} : (lf A v).lookup ("holder" : Str) = some v := by rfl
theorem lf_put {A : LA} {v w : V} : putF "holder" w (lf A v) = lf A w := by rfl
theorem lf_over {A : LA} {v : V} : (lf A v).lookup ("over" : Str) = none := by rfl
theorem lf_waits {A : LA} {v : V} : (lf A v).lookup ("waits" : Str) = none := by rfl
theorem lf_go {A : LA} {v : V} : (lf A v).lookup ("go" : Str) = none := by rfl
theorem lf_guard {A : LA} {v : V} : (lf A v).lookup ("guard" : Str) = none := by rfl
theorem lf_touch {A : LA} {v : V} : (lf A v).lookup ("touch" : Str) = none := by rfl
theorem lf_twin {A : LA} {v : V} : (lf A v).lookup ("twin" : Str) = none := by rfl
def LA.fp (A : LA) : List Addr := [A.p, A.b, A.n, A.q]
structure LoomAt (C : Addr) (H : Hp) (A : LA) (S : LS) : Prop where
  ins : H A.p = some (.ins C A.dx (lf A (hV S.hd)))
  rws : H A.r = some (.lst [.ref (A.row false), .ref (A.row true)])
  row : ∀ h, RowAt H (A.row h) (A.ps h) (S.rows h)
  box : H A.b = some (.lst (S.boxes.map V.int))
  num : H A.n = some (.lst [.int (S.num false), .int (S.num true)])
  pls : H A.q = some (.lst [.int (S.pl false), .int (S.pl true)])
  bn : A.b ≠ A.n
  bq : A.b ≠ A.q
  nq : A.n ≠ A.q
  rb : A.r ≠ A.b
  rn : A.r ≠ A.n
  rq : A.r ≠ A.q
  wb : ∀ h, A.row h ≠ A.b
  wn : ∀ h, A.row h ≠ A.n
  wq : ∀ h, A.row h ≠ A.q
theorem LoomAt.np {C : Addr} {H : Hp} {A : LA} {S : LS} (L : LoomAt C H A S) : A.p ≠ A.r ∧ (∀ h, A.p ≠ A.row h) ∧ A.p ≠ A.b ∧ A.p ≠ A.n ∧ A.p ≠ A.q :=
  ⟨ne_kind L.ins L.rws (by intro z; cases z), fun h => ne_kind L.ins (L.row h).l (by intro z; cases z), ne_kind L.ins L.box (by intro z; cases z), ne_kind L.ins L.num (by intro z; cases z), ne_kind L.ins L.pls (by intro z; cases z)⟩
theorem LoomAt.keep {C : Addr} {W : List Addr} {H H' : Hp} {A : LA} {S : LS} (L : LoomAt C H A S) (k : Kp W H H') (n1 : A.p ∉ W) (n2 : A.r ∉ W) (n3 : ∀ h, A.row h ∉ W) (n4 : A.b ∉ W) (n5 : A.n ∉ W) (n6 : A.q ∉ W) : LoomAt C H' A S :=
  ⟨k.get L.ins n1, k.get L.rws n2, fun h => (L.row h).keep k (n3 h), k.get L.box n4, k.get L.num n5, k.get L.pls n6, L.bn, L.bq, L.nq, L.rb, L.rn, L.rq, L.wb, L.wn, L.wq⟩
theorem LoomAt.keep0 {C : Addr} {H H' : Hp} {A : LA} {S : LS} (L : LoomAt C H A S) (k : Kp [] H H') : LoomAt C H' A S := L.keep k nin_nil nin_nil (fun _ => nin_nil) nin_nil nin_nil nin_nil
theorem LoomAt.keepW {C w : Addr} {W : List Addr} {H H' : Hp} {A : LA} {S : LS} (L : LoomAt C H A S) (k : Kp (w :: W) H H') (n1 : A.p ∉ w :: W) (n2 : A.r ∉ w :: W) (n3 : ∀ h, A.row h ∉ w :: W) (n4 : A.b ∉ w :: W) (n5 : A.n ∉ w :: W) (n6 : A.q ∉ w :: W) : LoomAt C H' A S := L.keep k n1 n2 n3 n4 n5 n6
/-! ### what the methods promise -/
def spOver (C : Addr) : Sp := fun vs H Q _ => ∃ (A : LA) (S : LS) (h : Bool), vs = [.ref A.p, .int (hI h)] ∧ LoomAt C H A S ∧ Q (.bl (S.over h)) H
theorem useOver {C : Addr} {H : Hp} {Q : VK} {E : XK} {A : LA} {S : LS} {h : Bool} (L : LoomAt C H A S) (k : Q (.bl (S.over h)) H) : spOver C [.ref A.p, .int (hI h)] H Q E := ⟨A, S, h, rfl, L, k⟩
def spWaits (C : Addr) : Sp := fun vs H Q _ => ∃ (A : LA) (S : LS) (h : Bool), vs = [.ref A.p, .int (hI h)] ∧ LoomAt C H A S ∧ S.Ok ∧ Q (.bl (S.waits h)) H
theorem useWaits {C : Addr} {H : Hp} {Q : VK} {E : XK} {A : LA} {S : LS} {h : Bool} (L : LoomAt C H A S) (o : S.Ok) (k : Q (.bl (S.waits h)) H) : spWaits C [.ref A.p, .int (hI h)] H Q E := ⟨A, S, h, rfl, L, o, k⟩
def spGuard (er : Err → Addr) (C : Addr) : Sp := fun vs H Q E => ∃ (A : LA) (S : LS) (h : Bool) (s : Stp), vs = [.ref A.p, .int (hI h), .str s.word] ∧ s.isG = true ∧ LoomAt C H A S ∧
  (∀ e, S.gErr h s = some e → E (.ref (er e)) none H) ∧ (S.gErr h s = none → ∀ H', Kp A.fp H H' → LoomAt C H' A (S.act h s) → Q .non H')
def spTouch (C : Addr) : Sp := fun vs H Q E => ∃ (A : LA) (S : LS) (h : Bool) (s : Stp), vs = [.ref A.p, .int (hI h), .str s.word, .int s.arg] ∧ s.isB = true ∧ LoomAt C H A S ∧ 0 ≤ s.arg ∧ s.arg < S.boxes.length ∧
  (∀ H', Kp A.fp H H' → LoomAt C H' A (S.act h s) → Q .non H')
def spGo (er : Err → Addr) (C : Addr) : Sp := fun vs H Q E => ∃ (A : LA) (S : LS) (h : Bool), vs = [.ref A.p, .int (hI h)] ∧ LoomAt C H A S ∧ S.Ok ∧
  (∀ e, S.err h = some e → E (.ref (er e)) none H) ∧ (S.err h = none → ∀ s H', S.next h = some s → Kp A.fp H H' → LoomAt C H' A (S.eff h s) → Q .non H')
/-- what is wrong with two rows -/
def loomErr (c0 c1 : List Thg) (many : Int) : Option Err := match needC c0 many with
  | some e => some e
  | none => needC c1 many
def spInit (er : Err → Addr) (C : Addr) : Sp := fun vs H Q E => ∃ (p dx a0 a1 b : Addr) (x0 x1 : List V) (c0 c1 : List Thg) (bs : List Int), vs = [.ref p, .ref a0, .ref a1, .ref b] ∧ H p = some (.ins C dx []) ∧
  H a0 = some (.lst x0) ∧ H a1 = some (.lst x1) ∧ ThRow H x0 c0 ∧ ThRow H x1 c1 ∧ H b = some (.lst (bs.map V.int)) ∧
  (∀ e, loomErr c0 c1 bs.length = some e → E (.ref (er e)) none H) ∧
  (loomErr c0 c1 bs.length = none → ∀ (A : LA) (S : LS) (H' : Hp), A.p = p → Fre H A.r → (∀ h, Fre H (A.row h)) → Fre H A.b → Fre H A.n → Fre H A.q → S.num = (fun _ => 0) → S.pl = (fun _ => 0) → S.hd = none → S.boxes = bs → S.Ok →
    c0 = (S.rows false).map (fun s => some s.enc) → c1 = (S.rows true).map (fun s => some s.enc) → (A.ps false).map V.ref = x0 → (A.ps true).map V.ref = x1 → Kp [p] H H' → LoomAt C H' A S → Q .non H')
def spTwin (C : Addr) : Sp := fun vs H Q E => ∃ (A : LA) (S : LS), vs = [.ref A.p] ∧ LoomAt C H A S ∧ S.Ok ∧
  (∀ (A' : LA) (H' : Hp), Fre H A'.p → Fre H A'.r → (∀ h, Fre H (A'.row h)) → Fre H A'.b → Fre H A'.n → Fre H A'.q → A'.ps = A.ps → Kp [] H H' → LoomAt C H' A' S → Q (.ref A'.p) H')
end G
namespace G
open PySem PySem.Spec PyProof.Rows L2
/-! ### promises of small defs -/
def spApart : Sp := fun vs H Q _ => ∃ (p q : Addr) (a b : Stp), vs = [.ref p, .ref q] ∧ H p = some (.tup a.enc) ∧ H q = some (.tup b.enc) ∧ Q (.bl (apartS a b)) H
theorem useApart {H : Hp} {Q : VK} {E : XK} {p q : Addr} {a b : Stp} (h1 : H p = some (.tup a.enc)) (h2 : H q = some (.tup b.enc)) (k : Q (.bl (apartS a b)) H) : spApart [.ref p, .ref q] H Q E := ⟨p, q, a, b, rfl, h1, h2, k⟩
def spCell (K : PySem.W.Frag) : Sp := fun vs H Q _ => ∃ (a : Addr) (ns : List Int) (i : Int), vs = [.ref a, .int i] ∧ SqL K H a (ns.map V.int) ∧ 0 ≤ i ∧ Q (.int (cellI ns i)) H
theorem useCell {K : PySem.W.Frag} {H : Hp} {Q : VK} {E : XK} {a : Addr} {ns : List Int} {i : Int} (h1 : SqL K H a (ns.map V.int)) (h2 : 0 ≤ i) (k : Q (.int (cellI ns i)) H) : spCell K [.ref a, .int i] H Q E := ⟨a, ns, i, rfl, h1, h2, k⟩
def spNum : Sp := fun vs H Q _ => ∃ (c : Int), vs = [.int c] ∧ Bt c ∧ Q (.int (numBy3 c)) H
theorem useNum {H : Hp} {Q : VK} {E : XK} {c : Int} (h1 : Bt c) (k : Q (.int (numBy3 c)) H) : spNum [.int c] H Q E := ⟨c, rfl, h1, k⟩
def spStep : Sp := fun vs H Q _ => ∃ (c b n : Int), vs = [.int c, .int b, .int n] ∧ ∀ p H', Fre H p → Kp [] H H' → H' p = some (.tup (mk7 (c % 7) b n).enc) → Q (.ref p) H'
theorem useStep {H : Hp} {Q : VK} {E : XK} {c b n : Int} (k : ∀ p H', Fre H p → Kp [] H H' → H' p = some (.tup (mk7 (c % 7) b n).enc) → Q (.ref p) H') : spStep [.int c, .int b, .int n] H Q E := ⟨c, b, n, rfl, k⟩
def spTrue : Sp := fun vs H Q _ => ∃ (x y : Bool), vs = [.bl x, .bl y] ∧ Q (.bl (decide (x = y))) H
theorem useTrue {H : Hp} {Q : VK} {E : XK} {x y : Bool} (k : Q (.bl (decide (x = y))) H) : spTrue [.bl x, .bl y] H Q E := ⟨x, y, rfl, k⟩
end G
namespace G
open PySem PySem.Spec PyProof.Rows L2
theorem word_isT (a : Stp) : decide (V.str a.word = V.str "take") = a.isT := by
  rw [dec_str]
  cases a <;> simp only [Stp.word, Stp.isT] <;> decide +kernel
theorem useEqT {H : Hp} {Q : VK} {a : Stp} (q : Q (.bl a.isT) H) : rEq (.str a.word) (.str "take") H Q := vEq rfl (by rw [word_isT]; exact q)
theorem useEqS {H : Hp} {Q : VK} {a : Stp} (q : Q (.bl a.isS) H) : rEq (.str a.word) (.str "store") H Q := vEq rfl (by rw [word_isS]; exact q)
def Stp.isL : Stp → Bool
  | .load _ => true | _ => false
theorem word_isL (a : Stp) : decide (V.str a.word = V.str "load") = a.isL := by
  rw [dec_str]
  cases a <;> simp only [Stp.word, Stp.isL] <;> decide +kernel
theorem useEqL {H : Hp} {Q : VK} {a : Stp} (q : Q (.bl a.isL) H) : rEq (.str a.word) (.str "load") H Q := vEq rfl (by rw [word_isL]; exact q)
theorem scal_hV (o : Option Bool) (i : Int) : scal (hV o) (.int i) = true := by cases o <;> rfl
theorem hV_eq (o : Option Bool) (g : Bool) : decide (hV o = .int (hI g)) = decide (o = some g) := by
  cases o with
  | none => simp [hV]
  | some h => cases h <;> cases g <;> decide
theorem hI_not (g : Bool) : 1 - hI g = hI (!g) := by cases g <;> rfl
theorem useHold {H : Hp} {Q : VK} {o : Option Bool} {g : Bool} (q : Q (.bl (decide (o = some g))) H) : rEq (hV o) (.int (hI g)) H Q := vEq (scal_hV _ _) (by rw [hV_eq]; exact q)
theorem useHoldN {H : Hp} {Q : VK} {o : Option Bool} {g : Bool} (q : Q (.bl (!decide (o = some g))) H) : rNe (hV o) (.int (hI g)) H Q := vNe (scal_hV _ _) (by rw [hV_eq]; exact q)
theorem useHoldO {H : Hp} {Q : VK} {o : Option Bool} {g : Bool} (q : Q (.bl (decide (o = some (!g)))) H) : rEq (hV o) (.int (1 - hI g)) H Q := by rw [hI_not]; exact useHold q
theorem lf_len {A : LA} {v : V} : (lf A v).length < 1000 := (by decide : 5 < 1000)
theorem LoomAt.setHd {C : Addr} {H H' : Hp} {A : LA} {S : LS} (L : LoomAt C H A S) (k : Kp [A.p] H H') (o : Option Bool) (e : H' A.p = some (.ins C A.dx (putF "holder" (hV o) (lf A (hV S.hd))))) : LoomAt C H' A { S with hd := o } := by
  obtain ⟨n1, n2, n3, n4, n5⟩ := L.np
  exact ⟨e, k.get L.rws (nin_cons n1.symm nin_nil), fun h => (L.row h).keep k (nin_cons (n2 h).symm nin_nil), k.get L.box (nin_cons n3.symm nin_nil), k.get L.num (nin_cons n4.symm nin_nil), k.get L.pls (nin_cons n5.symm nin_nil), L.bn, L.bq, L.nq, L.rb, L.rn, L.rq, L.wb, L.wn, L.wq⟩
theorem LoomAt.setNum {C : Addr} {H H' : Hp} {A : LA} {S : LS} (L : LoomAt C H A S) (k : Kp [A.n] H H') (f : Bool → Int) (e : H' A.n = some (.lst [.int (f false), .int (f true)])) : LoomAt C H' A { S with num := f } := by
  obtain ⟨n1, n2, n3, n4, n5⟩ := L.np
  exact ⟨k.get L.ins (nin_cons n4 nin_nil), k.get L.rws (nin_cons L.rn nin_nil), fun h => (L.row h).keep k (nin_cons (L.wn h) nin_nil), k.get L.box (nin_cons L.bn nin_nil), e, k.get L.pls (nin_cons L.nq.symm nin_nil), L.bn, L.bq, L.nq, L.rb, L.rn, L.rq, L.wb, L.wn, L.wq⟩
theorem LoomAt.setPl {C : Addr} {H H' : Hp} {A : LA} {S : LS} (L : LoomAt C H A S) (k : Kp [A.q] H H') (f : Bool → Nat) (e : H' A.q = some (.lst [.int (f false), .int (f true)])) : LoomAt C H' A { S with pl := f } := by
  obtain ⟨n1, n2, n3, n4, n5⟩ := L.np
  exact ⟨k.get L.ins (nin_cons n5 nin_nil), k.get L.rws (nin_cons L.rq nin_nil), fun h => (L.row h).keep k (nin_cons (L.wq h) nin_nil), k.get L.box (nin_cons L.bq nin_nil), k.get L.num (nin_cons L.nq nin_nil), e, L.bn, L.bq, L.nq, L.rb, L.rn, L.rq, L.wb, L.wn, L.wq⟩
theorem LoomAt.setBox {C : Addr} {H H' : Hp} {A : LA} {S : LS} (L : LoomAt C H A S) (k : Kp [A.b] H H') (f : List Int) (e : H' A.b = some (.lst (f.map V.int))) : LoomAt C H' A { S with boxes := f } := by
  obtain ⟨n1, n2, n3, n4, n5⟩ := L.np
  exact ⟨k.get L.ins (nin_cons n3 nin_nil), k.get L.rws (nin_cons L.rb nin_nil), fun h => (L.row h).keep k (nin_cons (L.wb h) nin_nil), e, k.get L.num (nin_cons L.bn.symm nin_nil), k.get L.pls (nin_cons L.bq.symm nin_nil), L.bn, L.bq, L.nq, L.rb, L.rn, L.rq, L.wb, L.wn, L.wq⟩
theorem at_box {S : LS} {b : Int} (h0 : 0 ≤ b) (h1 : b < S.boxes.length) : atI (S.boxes.map V.int) b = some (.int (S.box b)) := by
  obtain ⟨j, rfl⟩ : ∃ j : Nat, b = j := ⟨b.toNat, by omega⟩
  refine at_of rfl ?_
  unfold LS.box
  rw [List.getElem?_map, List.getD_eq_getElem?_getD, Int.toNat_natCast, List.getElem?_eq_getElem (by omega)]
  rfl
theorem ix_nat {n : Nat} {b : Int} (h0 : 0 ≤ b) (h1 : b < n) : ixN n b = some b.toNat := by
  unfold ixN
  rw [if_pos h0, if_pos h1]
theorem kp_fp1 {A : LA} {H H' : Hp} (k : Kp [A.p] H H') : Kp A.fp H H' := k.mono fun a h => by simp [LA.fp] at h ⊢; simp [h]
theorem kp_fpb {A : LA} {H H' : Hp} (k : Kp [A.b] H H') : Kp A.fp H H' := k.mono fun a h => by simp [LA.fp] at h ⊢; simp [h]
theorem kp_fpn {A : LA} {H H' : Hp} (k : Kp [A.n] H H') : Kp A.fp H H' := k.mono fun a h => by simp [LA.fp] at h ⊢; simp [h]
theorem kp_fpq {A : LA} {H H' : Hp} (k : Kp [A.q] H H') : Kp A.fp H H' := k.mono fun a h => by simp [LA.fp] at h ⊢; simp [h]
theorem waits_none {S : LS} {g : Bool} (h : S.next g = none) : S.waits g = false := by unfold LS.waits; rw [h]
theorem waits_some {S : LS} {g : Bool} {s : Stp} (h : S.next g = some s) : S.waits g = (s.isT && decide (S.hd = some (!g))) := by unfold LS.waits; rw [h]
theorem err_none {S : LS} {g : Bool} (h : S.next g = none) : S.err g = some .noTurn := by unfold LS.err; rw [h]
theorem err_waits {S : LS} {g : Bool} {s : Stp} (h : S.next g = some s) (hw : S.waits g = true) : S.err g = some .waits := by unfold LS.err; rw [h]; exact if_pos hw
theorem err_g {S : LS} {g : Bool} {s : Stp} (h : S.next g = some s) (hw : S.waits g = false) : S.err g = S.gErr g s := by
  unfold LS.err; rw [h]
  show (if S.waits g = true then _ else _) = _
  rw [if_neg (by rw [hw]; decide)]
theorem gErr_no {S : LS} {g : Bool} {s : Stp} (h : s.isG = false) : S.gErr g s = none := by cases s <;> first | rfl | cases h
end G
namespace G
open PySem PySem.Spec PyProof.Rows L2
/-- things that are all right are steps -/
theorem need_steps : ∀ {cs : List Thg} {many : Int}, cs.findSome? (thErr many) = none → ∃ rs : List Stp, cs = rs.map (fun s => some s.enc) ∧ ∀ s ∈ rs, inBox many s = true
  | [], _, _ => ⟨[], rfl, fun _ h => by cases h⟩
  | c :: r, many, h => by
    rw [List.findSome?_cons] at h
    cases e : thErr many c with
    | some x => rw [e] at h; cases h
    | none =>
      rw [e] at h
      obtain ⟨rs, e2, hr⟩ := need_steps (cs := r) (many := many) h
      cases c with
      | none => cases e
      | some xs =>
        have ho : stepOk xs = true := by
          cases q : stepOk xs with
          | true => rfl
          | false => rw [thErr_bad (c := some xs) q] at e; cases e
        obtain ⟨s, rfl⟩ := stepOk_enc ho
        rw [thErr_enc] at e
        refine ⟨s :: rs, by rw [e2]; rfl, fun t ht => ?_⟩
        rcases List.mem_cons.mp ht with z | z
        · subst z
          cases q : inBox many t with
          | true => rfl
          | false => rw [q] at e; cases e
        · exact hr t z
theorem needC_none {cs : List Thg} {many : Int} (h : needC cs many = none) : cs.length ≤ 60 ∧ ∃ rs : List Stp, cs = rs.map (fun s => some s.enc) ∧ ∀ s ∈ rs, inBox many s = true := by
  unfold needC at h
  split at h
  · cases h
  · rename_i hl
    exact ⟨by omega, need_steps h⟩
theorem needC_ok {rs : List Stp} {many : Int} (hl : rs.length ≤ 60) (hb : ∀ s ∈ rs, inBox many s = true) : needC (rs.map fun s => some s.enc) many = none := by
  unfold needC
  rw [if_neg (by rw [List.length_map]; omega)]
  induction rs with
  | nil => rfl
  | cons s r ih =>
    rw [List.map_cons, List.findSome?_cons, thErr_enc, if_pos (hb s List.mem_cons_self)]
    exact ih (by simp at hl; omega) fun t ht => hb t (List.mem_cons_of_mem _ ht)
theorem loomErr_none {c0 c1 : List Thg} {m : Int} (h : loomErr c0 c1 m = none) : needC c0 m = none ∧ needC c1 m = none := by
  unfold loomErr at h
  cases e : needC c0 m with
  | some x => rw [e] at h; cases h
  | none => rw [e] at h; exact ⟨rfl, h⟩
theorem loomErr_0 {c0 c1 : List Thg} {m : Int} {e : Err} (h : needC c0 m = some e) : loomErr c0 c1 m = some e := by unfold loomErr; rw [h]
theorem loomErr_1 {c0 c1 : List Thg} {m : Int} (h : needC c0 m = none) : loomErr c0 c1 m = needC c1 m := by unfold loomErr; rw [h]
/-- the refs of a row of things that are steps -/
theorem refs_of : ∀ {H : Hp} {xs : List V} {rs : List Stp}, ThRow H xs (rs.map fun s => some s.enc) → ∃ ps : List Addr, xs = ps.map V.ref ∧ ps.length = rs.length ∧ ∀ (i : Nat) (p : Addr) (s : Stp), ps[i]? = some p → rs[i]? = some s → H p = some (.tup s.enc)
  | H, [], [], _ => ⟨[], rfl, rfl, fun i p s h => by simp at h⟩
  | H, [], s :: rs, t => by have := t.n; simp at this
  | H, x :: xs, [], t => by have := t.n; simp at this
  | H, x :: xs, s :: rs, t => by
    obtain ⟨p, ex, hp, _⟩ := t.e 0 x (some s.enc) rfl rfl
    have t2 : ThRow H xs (rs.map fun s => some s.enc) := ⟨by have := t.n; simpa using this, fun i v c h1 h2 => t.e (i + 1) v c (by simpa using h1) (by simpa using h2)⟩
    obtain ⟨ps, e1, e2, e3⟩ := refs_of t2
    refine ⟨p :: ps, by rw [ex, e1]; rfl, by simp [e2], fun i q u h1 h2 => ?_⟩
    cases i with
    | zero =>
      have a1 : p = q := by simpa using h1
      have a2 : s = u := by simpa using h2
      subst a1 a2
      exact hp
    | succ i => exact e3 i q u (by simpa using h1) (by simpa using h2)
end G
namespace G
open PySem PySem.Spec PyProof.Rows L2
def two {α : Type} (x y : α) : Bool → α := fun h => bif h then y else x
theorem two_eq {α : Type} (f : Bool → α) : f = two (f false) (f true) := by funext h; cases h <;> rfl
/-- the footprint is new -/
structure FreA (H : Hp) (A : LA) : Prop where
  p : Fre H A.p
  b : Fre H A.b
  n : Fre H A.n
  q : Fre H A.q
theorem FreA.fwd {W : List Addr} {H H1 : Hp} {A : LA} (k : Kp W H H1) (f : FreA H1 A) : FreA H A := ⟨f.p.back k, f.b.back k, f.n.back k, f.q.back k⟩
/-- a loom of one's own goes on: what stood ahead of it stands -/
theorem Kp.fp {W : List Addr} {H H1 H2 : Hp} {A : LA} (p : Kp W H H1) (k : Kp A.fp H1 H2) (f : FreA H A) : Kp W H H2 := p.step k fun a h => by
  simp only [LA.fp, List.mem_cons, List.not_mem_nil, or_false] at h
  rcases h with h | h | h | h <;> subst h
  · exact .inr f.p
  · exact .inr f.b
  · exact .inr f.n
  · exact .inr f.q
theorem useLoom {er : Err → Addr} {C : Addr} {H : Hp} {Q : VK} {E : XK} {a0 a1 b : Addr} {x0 x1 : List V} {c0 c1 : List Thg} {bs : List Int} (h0 : H a0 = some (.lst x0)) (h1 : H a1 = some (.lst x1)) (t0 : ThRow H x0 c0) (t1 : ThRow H x1 c1) (hb : H b = some (.lst (bs.map V.int)))
    (ke : ∀ e H', loomErr c0 c1 bs.length = some e → Kp [] H H' → E (.ref (er e)) none H')
    (k : ∀ (A : LA) (r0 r1 : List Stp) (H' : Hp), loomErr c0 c1 bs.length = none → c0 = r0.map (fun s => some s.enc) → c1 = r1.map (fun s => some s.enc) → (A.ps false).map V.ref = x0 → (A.ps true).map V.ref = x1 → (LS.start (two r0 r1) bs).Ok →
      FreA H A → Fre H A.r → (∀ h, Fre H (A.row h)) → Kp [] H H' → LoomAt C H' A (LS.start (two r0 r1) bs) → Q (.ref A.p) H') : rMk C (spInit er C) E Q [.ref a0, .ref a1, .ref b] H := by
  refine vrMk fun x dx H2 fx k2 e2 => ⟨x, dx, a0, a1, b, x0, x1, c0, c1, bs, rfl, e2, k2.get0 h0, k2.get0 h1, t0.keep k2, t1.keep k2, k2.get0 hb, fun e he => ke e H2 he k2, fun hn A S H3 ep f1 f2 f3 f4 f5 s1 s2 s3 s4 so ec0 ec1 ep0 ep1 k3 L => ⟨rfl, ?_⟩⟩
  have kk : Kp [] H H3 := k2.step k3 fun a h => by
    simp only [List.mem_cons, List.not_mem_nil, or_false] at h
    subst h
    exact .inr fx
  have es : S = LS.start (two (S.rows false) (S.rows true)) bs := by
    obtain ⟨r, bx, nm, pl, hd⟩ := S
    dsimp only at s1 s2 s3 s4
    subst s1 s2 s3 s4
    unfold LS.start
    rw [← two_eq r]
  rw [es] at L so
  have := k A (S.rows false) (S.rows true) H3 hn ec0 ec1 ep0 ep1 so ⟨by rw [ep]; exact fx, f3.back k2, f4.back k2, f5.back k2⟩ (f1.back k2) (fun h => (f2 h).back k2) kk L
  rw [ep] at this
  exact this
/-! ### orders -/
def LS.stepE (S : LS) (h : Bool) : Except Err LS := match S.err h with
  | some e => .error e
  | none => match S.next h with
    | some s => .ok (S.eff h s)
    | none => .error .noTurn
def LS.run : LS → List Bool → Except Err LS
  | S, [] => .ok S
  | S, h :: hs => match S.stepE h with
    | .error e => .error e
    | .ok S' => S'.run hs
theorem stepE_err {S : LS} {h : Bool} {e : Err} (x : S.err h = some e) : S.stepE h = .error e := by unfold LS.stepE; rw [x]
theorem stepE_ok {S : LS} {h : Bool} {s : Stp} (x : S.err h = none) (y : S.next h = some s) : S.stepE h = .ok (S.eff h s) := by unfold LS.stepE; rw [x, y]
theorem err_next {S : LS} {h : Bool} (x : S.err h = none) : ∃ s, S.next h = some s := by
  cases e : S.next h with
  | some s => exact ⟨s, rfl⟩
  | none => rw [err_none e] at x; cases x
theorem run_err {S : LS} {h : Bool} {hs : List Bool} {e : Err} (x : S.err h = some e) : S.run (h :: hs) = .error e := by unfold LS.run; rw [stepE_err x]
theorem run_ok {S : LS} {h : Bool} {hs : List Bool} {s : Stp} (x : S.err h = none) (y : S.next h = some s) : S.run (h :: hs) = (S.eff h s).run hs := by
  show (match S.stepE h with | .error e => Except.error e | .ok S' => S'.run hs) = _
  rw [stepE_ok x y]
theorem useGo {er : Err → Addr} {C : Addr} {H : Hp} {Q : VK} {E : XK} {A : LA} {S : LS} {h : Bool} (L : LoomAt C H A S) (o : S.Ok) (ke : ∀ e, S.err h = some e → E (.ref (er e)) none H) (k : ∀ s H', S.err h = none → S.next h = some s → Kp A.fp H H' → LoomAt C H' A (S.eff h s) → Q .non H') :
    spGo er C [.ref A.p, .int (hI h)] H Q E := ⟨A, S, h, rfl, L, o, ke, fun x s H' y kp L' => k s H' x y kp L'⟩
theorem eff_pl {S : LS} {h : Bool} {s : Stp} : (S.eff h s).pl = upB S.pl h (S.pl h + 1) := by
  show upB (S.act h s).pl h ((S.act h s).pl h + 1) = _
  rw [act_pl]
def spAlone (er : Err → Addr) : Sp := fun vs H Q E => ∃ (a b : Addr) (xs : List V) (cs : List Thg) (bs : List Int), vs = [.ref a, .ref b] ∧ H a = some (.lst xs) ∧ ThRow H xs cs ∧ H b = some (.lst (bs.map V.int)) ∧
  (∀ e H', needC cs bs.length = some e → Kp [] H H' → E (.ref (er e)) none H') ∧
  (needC cs bs.length = none → ∀ rs, cs = rs.map (fun s => some s.enc) → (LS.start (two rs []) bs).Ok →
    (∀ e H', (LS.start (two rs []) bs).run (List.replicate rs.length false) = .error e → Kp [] H H' → E (.ref (er e)) none H') ∧
    (∀ S p l H', (LS.start (two rs []) bs).run (List.replicate rs.length false) = .ok S → Fre H p → Fre H l → Kp [] H H' → H' p = some (.tup [.ref l, .int (S.num false)]) → H' l = some (.lst (S.boxes.map V.int)) → Q (.ref p) H'))
theorem loomErr_l {cs : List Thg} {m : Int} : loomErr cs [] m = needC cs m := by
  unfold loomErr
  cases e : needC cs m with
  | some x => rfl
  | none => rfl
end G
namespace G
open PySem PySem.Spec PyProof.Rows L2
theorem useOver0 {C : Addr} {H : Hp} {Q : VK} {E : XK} {A : LA} {S : LS} (L : LoomAt C H A S) (k : Q (.bl (S.over false)) H) : spOver C [.ref A.p, .int 0] H Q E := useOver (h := false) L k
theorem useOver1 {C : Addr} {H : Hp} {Q : VK} {E : XK} {A : LA} {S : LS} (L : LoomAt C H A S) (k : Q (.bl (S.over true)) H) : spOver C [.ref A.p, .int 1] H Q E := useOver (h := true) L k
theorem useGo0 {er : Err → Addr} {C : Addr} {H : Hp} {Q : VK} {E : XK} {A : LA} {S : LS} (L : LoomAt C H A S) (o : S.Ok) (ke : ∀ e, S.err false = some e → E (.ref (er e)) none H) (k : ∀ s H', S.err false = none → S.next false = some s → Kp A.fp H H' → LoomAt C H' A (S.eff false s) → Q .non H') :
    spGo er C [.ref A.p, .int 0] H Q E := useGo (h := false) L o ke k
theorem over_len {S : LS} {h : Bool} (o : S.Ok) (x : S.over h = true) : S.pl h = (S.rows h).length := of_decide_eq_true x
theorem over_lt {S : LS} {h : Bool} (o : S.Ok) (x : S.over h = false) : S.pl h < (S.rows h).length := by
  have := of_decide_eq_false x
  have := o.pl h
  omega
end G
namespace G
open PySem PySem.Spec PyProof.Rows L2
def spAlike : Sp := fun vs H Q _ => ∃ (p q : Addr) (xs ys : List Int), vs = [.ref p, .ref q] ∧ H p = some (.lst (xs.map V.int)) ∧ H q = some (.lst (ys.map V.int)) ∧ xs.length ≤ 1000 ∧ ys.length ≤ 1000 ∧ Q (.bl (decide (xs = ys))) H
theorem useAlike {H : Hp} {Q : VK} {E : XK} {p q : Addr} {xs ys : List Int} (h1 : H p = some (.lst (xs.map V.int))) (h2 : H q = some (.lst (ys.map V.int))) (l1 : xs.length ≤ 1000) (l2 : ys.length ≤ 1000) (k : Q (.bl (decide (xs = ys))) H) : spAlike [.ref p, .ref q] H Q E := ⟨p, q, xs, ys, rfl, h1, h2, l1, l2, k⟩
theorem at_ints {xs : List Int} {i : Nat} (h : i < xs.length) : atI (xs.map V.int) (i : Int) = some (.int xs[i]) := at_of rfl (by rw [List.getElem?_map, List.getElem?_eq_getElem h]; rfl)
theorem take_eq_succ {xs ys : List Int} {i : Nat} (h : xs.take i = ys.take i) (hx : i < xs.length) (hy : i < ys.length) (e : xs[i] = ys[i]) : xs.take (i + 1) = ys.take (i + 1) := by
  rw [List.take_add_one, List.take_add_one, h, List.getElem?_eq_getElem hx, List.getElem?_eq_getElem hy, e]
end G
namespace G
open PySem PySem.Spec PyProof.Rows L2
theorem useWholeI {H : Hp} {Q : VK} {E : XK} {x : Int} (k : Q (.bl true) H) : spWhole [.int x] H Q E := ⟨.int x, rfl, trivial, k⟩
theorem useWholeB {H : Hp} {Q : VK} {E : XK} {x : Bool} (k : Q (.bl false) H) : spWhole [.bl x] H Q E := ⟨.bl x, rfl, trivial, k⟩
theorem useWholeN {H : Hp} {Q : VK} {E : XK} (k : Q (.bl false) H) : spWhole [.non] H Q E := ⟨.non, rfl, trivial, k⟩
end G
namespace G
open PySem PySem.Spec PyProof.Rows L2
theorem Bt.add {c : Int} (h : Bt c) {t : Int} (h0 : 0 ≤ t) (h1 : t ≤ 1000) (hc : Builtin.Int.intBits c ≤ 1099000) : Bt (c + t) := by
  have e : (c + t).natAbs ≤ c.natAbs + 1000 := by omega
  show Builtin.Int.intBits (c + t) ≤ 1100000
  unfold Builtin.Int.intBits at hc ⊢
  split
  · exact Nat.zero_le _
  · rename_i hz
    have hz' : c + t ≠ 0 := by simpa using hz
    have hp : 0 < (c + t).natAbs := by omega
    by_cases hcz : c = 0
    · subst hcz
      have : (0 + t).natAbs.log2 < 1000 := (Nat.log2_lt (by omega)).mpr (Nat.lt_of_le_of_lt (by omega : (0 + t).natAbs ≤ 1000) (by decide +kernel))
      omega
    · rw [if_neg (by simpa using hcz)] at hc
      have h2 : c.natAbs < 2 ^ (c.natAbs.log2 + 1) := Nat.lt_log2_self
      have h3 : (c + t).natAbs < 2 ^ (c.natAbs.log2 + 1 + 10) := by
        have h5 : (1 : Nat) ≤ 2 ^ (c.natAbs.log2 + 1) := Nat.one_le_two_pow
        rw [Nat.pow_add]
        have h6 : (2 : Nat) ^ 10 = 1024 := by decide
        rw [h6]
        generalize (2 : Nat) ^ (c.natAbs.log2 + 1) = y at *
        omega
      have := (Nat.log2_lt (by omega : (c + t).natAbs ≠ 0)).mpr h3
      omega
/-- a step that was built: what stands there is some step whose box is there -/
def Made (H H' : Hp) (many : Int) (p : Addr) (s : Stp) : Prop := Fre H p ∧ Kp [] H H' ∧ H' p = some (.tup s.enc) ∧ inBox many s = true
def spStep3 : Sp := fun vs H Q _ => ∃ (c many : Int) (held : Bool), vs = [.int c, .int many, .bl held] ∧ Bt c ∧ 0 ≤ many ∧ ∀ s p H', Made H H' many p s → Q (.ref p) H'
theorem useStep3 {H : Hp} {Q : VK} {E : XK} {c many : Int} {held : Bool} (h1 : Bt c) (h2 : 0 ≤ many) (k : ∀ s p H', Made H H' many p s → Q (.ref p) H') : spStep3 [.int c, .int many, .bl held] H Q E := ⟨c, many, held, rfl, h1, h2, k⟩
theorem inBox_box {many b : Int} (h0 : 0 ≤ b) (h1 : b < many) : inBox many (.load b) = true ∧ inBox many (.plus b) = true ∧ inBox many (.store b) = true := by
  simp [inBox, Stp.isB, Stp.arg, h0, h1]
theorem at9 (c : Int) : c % 9 = 0 ∨ c % 9 = 1 ∨ c % 9 = 2 ∨ c % 9 = 3 ∨ c % 9 = 4 ∨ c % 9 = 5 ∨ c % 9 = 6 ∨ c % 9 = 7 ∨ c % 9 = 8 := by omega
theorem at7 (c : Int) : c % 7 = 0 ∨ c % 7 = 1 ∨ c % 7 = 2 ∨ c % 7 = 3 ∨ c % 7 = 4 ∨ c % 7 = 5 ∨ c % 7 = 6 := by omega
end G
namespace G
open PySem PySem.Spec PyProof.Rows L2
def spRow3 : Sp := fun vs H Q _ => ∃ (a : Addr) (cs : List Int) (many : Int) (n : Nat), vs = [.ref a, .int many, .int n] ∧ H a = some (.lst (cs.map V.int)) ∧ cs.length ≤ 63 ∧ (∀ c ∈ cs, Builtin.Int.intBits c ≤ 1048576) ∧ 0 ≤ many ∧ n ≤ 6 ∧
  ∀ p ps rs H', rs.length ≤ 60 → (∀ s ∈ rs, inBox many s = true) → Fre H p → Kp [] H H' → RowAt H' p ps rs → Q (.ref p) H'
end G
namespace G
open PySem PySem.Spec PyProof.Rows L2
theorem RowAt.push {H H1 : Hp} {a p : Addr} {ps : List Addr} {rs : List Stp} {s : Stp} (r : RowAt H a ps rs) (k : Kp [a] H H1) (hp : H p = some (.tup s.enc)) (e : H1 a = some (.lst (ps.map V.ref ++ [V.ref p]))) : RowAt H1 a (ps ++ [p]) (rs ++ [s]) := by
  refine ⟨by rw [e, List.map_append]; rfl, by simp [r.n], fun i q t h1 h2 => ?_⟩
  by_cases hi : i < ps.length
  · rw [List.getElem?_append_left hi] at h1
    rw [List.getElem?_append_left (by rw [← r.n]; exact hi)] at h2
    exact k.getT (r.e i q t h1 h2)
  · rw [List.getElem?_append_right (by omega)] at h1
    rw [List.getElem?_append_right (by rw [← r.n]; omega)] at h2
    have e1 : i - ps.length = 0 := by
      cases z : i - ps.length with
      | zero => rfl
      | succ n => rw [z] at h1; simp at h1
    rw [e1] at h1
    rw [← r.n, e1] at h2
    have a1 : p = q := by simpa using h1
    have a2 : s = t := by simpa using h2
    subst a1 a2
    exact k.getT hp
theorem mem_push {P : Stp → Prop} {rs : List Stp} {s : Stp} (h : ∀ t ∈ rs, P t) (hs : P s) : ∀ t ∈ rs ++ [s], P t := fun t ht => (List.mem_append.mp ht).elim (h t) fun z => by
  have : t = s := by simpa using z
  rw [this]; exact hs
theorem get_map_int {cs : List Int} {j : Nat} {x : V} (h : (cs.map V.int)[j]? = some x) : ∃ c, c ∈ cs ∧ x = .int c ∧ cs[j]? = some c := by
  rw [List.getElem?_map] at h
  cases e : cs[j]? with
  | none => rw [e] at h; cases h
  | some c => rw [e] at h; exact ⟨c, List.mem_of_getElem? e, (Option.some.inj h).symm, rfl⟩
end G
namespace G
open PySem PySem.Spec PyProof.Rows L2
theorem RowAt.push2 {H0 H H1 : Hp} {a p : Addr} {ps : List Addr} {rs : List Stp} {s : Stp} (r : RowAt H0 a ps rs) (k : Kp [a] H H1) (e : H1 a = some (.lst (ps.map V.ref ++ [V.ref p]))) (k0 : Kp [] H0 H) (hp : H0 p = some (.tup s.enc)) : RowAt H1 a (ps ++ [p]) (rs ++ [s]) := (r.keep k0 nin_nil).push k (k0.getT hp) e
end G
namespace G
open PySem PySem.Spec PyProof.Rows L2
/-- what a row alone ends with -/
def LS.alone (rs : List Stp) (bs : List Int) : Except Err LS := (LS.start (two rs []) bs).run (List.replicate rs.length false)
def errName : Err → Str
  | .again => "again" | .notHeld => "not held" | _ => ""
def spTold3 : Sp := fun vs H Q _ => ∃ (a b : Addr) (ps : List Addr) (rs : List Stp) (bs : List Int) (kind : Int), vs = [.ref a, .ref b, .int kind] ∧ RowAt H a ps rs ∧ H b = some (.lst (bs.map V.int)) ∧ rs.length ≤ 60 ∧ (∀ s ∈ rs, inBox bs.length s = true) ∧
  (∀ e H', LS.alone rs bs = .error e → Kp [] H H' → Q (.str (if kind < 2 then "refused" else errName e)) H') ∧
  (∀ S p l H', LS.alone rs bs = .ok S → Fre H p → Fre H l → Kp [] H H' → H' p = some (.tup [.ref l, .int (S.num false)]) → H' l = some (.lst (S.boxes.map V.int)) → Q (.ref p) H')
end G
namespace G
open PySem PySem.Spec PyProof.Rows L2
theorem enc_injG {a b : Stp} (h : a.enc = b.enc) : a = b := by
  cases a <;> cases b <;> first
    | rfl
    | (simp only [Stp.enc, Stp.args, List.cons.injEq, V.int.injEq, and_true] at h; exact congrArg _ h.2)
    | (exfalso; have h1 := V.str.inj (List.cons.inj h).1; dsimp only [Stp.word] at h1; exact absurd h1 (by decide +kernel))
theorem rows_inj {rs rs' : List Stp} (h : (rs.map fun s => some s.enc) = rs'.map fun s => some s.enc) : rs = rs' := (List.map_inj_right (fun _ _ e => enc_injG (Option.some.inj e))).mp h
theorem eff_hd {S : LS} {s : Stp} {h g : Bool} (n : S.hd ≠ some g) (hg : h ≠ g) : (S.eff h s).hd ≠ some g := by
  cases s <;> first | exact n | (intro z; exact hg (Option.some.inj z)) | (intro z; cases z)
theorem run_errA : ∀ (m : Nat) (S : LS) (e : Err), S.hd ≠ some true → S.pl false + m = (S.rows false).length → S.run (List.replicate m false) = .error e → e = .again ∨ e = .notHeld
  | 0, S, e, _, _, h => by cases h
  | m + 1, S, e, hd, hp, h => by
    rw [List.replicate_succ] at h
    cases hx : S.err false with
    | none =>
      obtain ⟨s, hs⟩ := err_next hx
      rw [run_ok hx hs] at h
      refine run_errA m (S.eff false s) e (eff_hd hd (by decide)) ?_ h
      rw [eff_pl, upB_same, eff_rows]; omega
    | some x =>
      rw [run_err hx] at h
      have ex : x = e := by cases h; rfl
      subst ex
      have hl : S.pl false < (S.rows false).length := by omega
      have hn : S.next false = some (S.rows false)[S.pl false] := List.getElem?_eq_getElem hl
      have hw : S.waits false = false := by
        unfold LS.waits
        rw [hn]
        show (_ && decide (S.hd = some true)) = false
        rw [decide_eq_false hd, Bool.and_false]
      rw [err_g hn hw] at hx
      generalize (S.rows false)[S.pl false] = s at hx
      unfold LS.gErr at hx
      cases s with
      | take =>
        dsimp only at hx
        split at hx
        · exact .inl (Option.some.inj hx).symm
        · cases hx
      | free =>
        dsimp only at hx
        split at hx
        · cases hx
        · exact .inr (Option.some.inj hx).symm
      | _ => cases hx
theorem alone_err {rs : List Stp} {bs : List Int} {e : Err} (h : LS.alone rs bs = .error e) : e = .again ∨ e = .notHeld := run_errA rs.length _ e (fun z => by cases z) (by show 0 + rs.length = rs.length; omega) h
theorem useAlone {er : Err → Addr} {H : Hp} {Q : VK} {E : XK} {a b : Addr} {ps : List Addr} {rs : List Stp} {bs : List Int} (R : RowAt H a ps rs) (hb : H b = some (.lst (bs.map V.int))) (hl : rs.length ≤ 60) (hbx : ∀ s ∈ rs, inBox bs.length s = true)
    (ke : ∀ e H', LS.alone rs bs = .error e → Kp [] H H' → E (.ref (er e)) none H')
    (kq : ∀ S p l H', LS.alone rs bs = .ok S → Fre H p → Fre H l → Kp [] H H' → H' p = some (.tup [.ref l, .int (S.num false)]) → H' l = some (.lst (S.boxes.map V.int)) → Q (.ref p) H') : spAlone er [.ref a, .ref b] H Q E :=
  ⟨a, b, _, _, bs, rfl, R.l, R.th, hb, fun e H' he _ => absurd he (by rw [needC_ok hl hbx]; intro z; cases z), fun _ rs' e _ => rows_inj e ▸ ⟨ke, kq⟩⟩
end G
namespace G
open PySem PySem.Spec PyProof.Rows L2
theorem errA {S : LS} {s : Stp} (hd : S.hd ≠ some true) (hs : S.next false = some s) : S.err false = S.gErr false s := by
  refine err_g hs ?_
  unfold LS.waits
  rw [hs]
  show (_ && decide (S.hd = some true)) = false
  rw [decide_eq_false hd, Bool.and_false]
/-- what the law's own walk of a row alone keeps: j steps are done -/
structure DueA (rs : List Stp) (bs : List Int) (j : Nat) (S : LS) : Prop where
  o : S.Ok
  rows : S.rows = two rs []
  hd : S.hd ≠ some true
  pl : S.pl false = j
  run : S.run (List.replicate (rs.length - j) false) = LS.alone rs bs
  box : S.boxes.length = bs.length
theorem DueA.next {rs : List Stp} {bs : List Int} {j : Nat} {S : LS} (d : DueA rs bs j S) {s : Stp} (h : rs[j]? = some s) : S.next false = some s := by
  unfold LS.next
  rw [d.rows, d.pl]
  exact h
theorem DueA.go {rs : List Stp} {bs : List Int} {j : Nat} {S : LS} (d : DueA rs bs j S) {s : Stp} (h : rs[j]? = some s) (g : S.gErr false s = none) : DueA rs bs (j + 1) (S.eff false s) := by
  have hn := d.next h
  have hj : j < rs.length := (List.getElem?_eq_some_iff.mp h).1
  refine ⟨d.o.eff hn, by rw [eff_rows]; exact d.rows, eff_hd d.hd (by decide), by rw [eff_pl, upB_same, d.pl], ?_, by rw [eff_boxes]; exact d.box⟩
  rw [← d.run, show rs.length - j = (rs.length - (j + 1)) + 1 by omega, List.replicate_succ, run_ok (by rw [errA d.hd hn]; exact g) hn]
theorem DueA.stop {rs : List Stp} {bs : List Int} {j : Nat} {S : LS} (d : DueA rs bs j S) {s : Stp} {e : Err} (h : rs[j]? = some s) (g : S.gErr false s = some e) : LS.alone rs bs = .error e := by
  have hn := d.next h
  have hj : j < rs.length := (List.getElem?_eq_some_iff.mp h).1
  rw [← d.run, show rs.length - j = (rs.length - (j + 1)) + 1 by omega, List.replicate_succ, run_err (by rw [errA d.hd hn]; exact g)]
theorem DueA.fin {rs : List Stp} {bs : List Int} {S : LS} (d : DueA rs bs rs.length S) : LS.alone rs bs = .ok S := by
  rw [← d.run, Nat.sub_self]; rfl
theorem DueA.box2 {rs : List Stp} {bs : List Int} {j : Nat} {S : LS} (d : DueA rs bs j S) {s : Stp} (h : rs[j]? = some s) (hB : s.isB = true) (hb : ∀ t ∈ rs, inBox bs.length t = true) : 0 ≤ s.arg ∧ s.arg < S.boxes.length := by
  have := hb s (List.mem_of_getElem? h)
  rw [d.box]
  unfold inBox at this
  rw [hB] at this
  simpa using this
theorem start_ok {rs : List Stp} {bs : List Int} (hl : rs.length ≤ 60) (hb : ∀ s ∈ rs, inBox bs.length s = true) : (LS.start (two rs []) bs).Ok where
  len := fun h => by
    cases h
    · exact hl
    · exact Nat.zero_le _
  box := fun h s hs => by
    cases h
    · exact hb s hs
    · cases hs
  pl := fun h => Nat.zero_le _
theorem DueA.init {rs : List Stp} {bs : List Int} (hl : rs.length ≤ 60) (hb : ∀ s ∈ rs, inBox bs.length s = true) : DueA rs bs 0 (LS.start (two rs []) bs) :=
  ⟨start_ok hl hb, rfl, (fun z => by cases z), rfl, rfl, rfl⟩
def spDue3 : Sp := fun vs H Q _ => ∃ (a b : Addr) (ps : List Addr) (rs : List Stp) (bs : List Int), vs = [.ref a, .ref b] ∧ RowAt H a ps rs ∧ a ≠ b ∧ H b = some (.lst (bs.map V.int)) ∧ rs.length ≤ 60 ∧ (∀ s ∈ rs, inBox bs.length s = true) ∧
  (∀ e H', LS.alone rs bs = .error e → Kp [b] H H' → Q (.str (errName e)) H') ∧
  (∀ S H', LS.alone rs bs = .ok S → Kp [b] H H' → H' b = some (.lst (S.boxes.map V.int)) → Q (.int (S.num false)) H')
theorem get_map_ref {ps : List Addr} {j : Nat} {x : V} (h : (ps.map V.ref)[j]? = some x) : ∃ p, x = .ref p ∧ ps[j]? = some p := by
  rw [List.getElem?_map] at h
  cases e : ps[j]? with
  | none => rw [e] at h; cases h
  | some p => rw [e] at h; exact ⟨p, (Option.some.inj h).symm, rfl⟩
theorem RowAt.step {H : Hp} {a : Addr} {ps : List Addr} {rs : List Stp} (r : RowAt H a ps rs) {j : Nat} {x : V} (h : (ps.map V.ref)[j]? = some x) : ∃ p s, x = .ref p ∧ rs[j]? = some s ∧ H p = some (.tup s.enc) := by
  obtain ⟨p, ex, hp⟩ := get_map_ref h
  have hj : j < rs.length := by rw [← r.n]; exact (List.getElem?_eq_some_iff.mp hp).1
  exact ⟨p, rs[j], ex, List.getElem?_eq_getElem hj, r.e j p _ hp (List.getElem?_eq_getElem hj)⟩
end G
namespace G
open PySem PySem.Spec PyProof.Rows L2
/-! ### rows as data -/
def Stp.dat : Stp → PyData
  | .load b => .tuple [.str "load", .int b] | .plus b => .tuple [.str "plus", .int b] | .store b => .tuple [.str "store", .int b] | .add n => .tuple [.str "add", .int n]
  | .twice => .tuple [.str "twice"] | .take => .tuple [.str "take"] | .free => .tuple [.str "free"]
def rowDat (rs : List Stp) : PyData := .list (rs.map Stp.dat)
theorem words_ok : PyData.strOk "load" = true ∧ PyData.strOk "plus" = true ∧ PyData.strOk "store" = true ∧ PyData.strOk "add" = true ∧ PyData.strOk "twice" = true ∧ PyData.strOk "take" = true ∧ PyData.strOk "free" = true := by decide +kernel
theorem dat_lay (s : Stp) : s.dat.canLay0 = true := by
  obtain ⟨h1, h2, h3, h4, h5, h6, h7⟩ := words_ok
  cases s <;> simp only [Stp.dat, PyData.canLay0, PyData.canLayAll0, Bool.and_true, *]
theorem dat_depth (s : Stp) : s.dat.depth ≤ 1 := by
  cases s <;> simp [Stp.dat, PyData.depth, PyData.depthAll]
theorem rows_lay : ∀ rs : List Stp, PyData.canLayAll0 (rs.map Stp.dat) = true
  | [] => rfl
  | s :: r => by
    rw [List.map_cons, PyData.canLayAll0, dat_lay, rows_lay r]; rfl
theorem rows_depth : ∀ rs : List Stp, PyData.depthAll (rs.map Stp.dat) ≤ 1
  | [] => Nat.zero_le _
  | s :: r => by
    rw [List.map_cons, PyData.depthAll]
    exact Nat.max_le.mpr ⟨dat_depth s, rows_depth r⟩
theorem row_shaped (rs : List Stp) : SeqAt.shaped (rowDat rs) = true := by
  have h1 : (rowDat rs).canLay0 = true := by
    unfold rowDat
    rw [PyData.canLay0]
    exact rows_lay rs
  have h2 : (rowDat rs).depth ≤ 64 := by
    unfold rowDat
    rw [PyData.depth]
    have := rows_depth rs
    omega
  unfold SeqAt.shaped
  rw [h1, decide_eq_true h2]; rfl
theorem dp_step {K : PySem.W.Frag} {H : Hp} {p : Addr} {s : Stp} (h : H p = some (.tup s.enc)) : Dp K H (.ref p) s.dat := by
  cases s <;> exact .tup (SqT.of h) (by first | exact .cons (.str _) (.cons (.int _) .nil) | exact .cons (.str _) .nil)
theorem dp_rows {K : PySem.W.Frag} {H : Hp} : ∀ {ps : List Addr} {rs : List Stp}, ps.length = rs.length → (∀ (i : Nat) (p : Addr) (s : Stp), ps[i]? = some p → rs[i]? = some s → H p = some (.tup s.enc)) → DpAll K H (ps.map V.ref) (rs.map Stp.dat)
  | [], [], _, _ => .nil
  | [], _ :: _, h, _ => by cases h
  | _ :: _, [], h, _ => by cases h
  | p :: ps, s :: rs, h, e => .cons (dp_step (e 0 p s rfl rfl)) (dp_rows (by simpa using h) fun i q t h1 h2 => e (i + 1) q t (by simpa using h1) (by simpa using h2))
theorem RowAt.dp {K : PySem.W.Frag} {H : Hp} {a : Addr} {ps : List Addr} {rs : List Stp} (r : RowAt H a ps rs) : Dp K H (.ref a) (rowDat rs) := .lst (SqL.of r.l) (dp_rows r.n r.e)
/-- a row is as itself -/
theorem useEqRow {K : PySem.W.Frag} {H : Hp} {Q : VK} {a b : Addr} {ps qs : List Addr} {rs : List Stp} (r : RowAt H a ps rs) (r2 : RowAt H b qs rs) (q : Q (.bl true) H) : rEqD K (.ref a) (.ref b) H Q :=
  ⟨_, _, r.dp, r2.dp, row_shaped rs, row_shaped rs, by rw [SeqAt.eqv_refl _ (SeqAt.canLay_of_shaped (row_shaped rs))]; exact q⟩
end G
namespace G
open PySem PySem.Spec PyProof.Rows L2
def cutG {α : Type} (xs : List α) (lo hi : Option Int) : List α := (xs.drop (HT.sIx xs.length 0 lo)).take (HT.sIx xs.length xs.length hi - HT.sIx xs.length 0 lo)
theorem cutV_map {α : Type} (c : α → V) (xs : List α) (lo hi : Option Int) : cutV (xs.map c) lo hi = (cutG xs lo hi).map c := by
  unfold cutV cutG
  rw [List.length_map, List.map_take, List.map_drop]
theorem cut_len {α : Type} (xs : List α) (lo hi : Option Int) : (cutG xs lo hi).length ≤ xs.length := by
  unfold cutG
  rw [List.length_take, List.length_drop]
  omega
theorem cut_mem {α : Type} {xs : List α} {lo hi : Option Int} {x : α} (h : x ∈ cutG xs lo hi) : x ∈ xs := List.mem_of_mem_drop (List.mem_of_mem_take h)
end G
namespace G
open PySem PySem.Spec PyProof.Rows L2
theorem run_boxes : ∀ {hs : List Bool} {S S' : LS}, S.run hs = .ok S' → S'.boxes.length = S.boxes.length
  | [], S, S', h => by cases h; rfl
  | g :: hs, S, S', h => by
    cases hx : S.err g with
    | some x => rw [run_err hx] at h; cases h
    | none =>
      obtain ⟨s, hs'⟩ := err_next hx
      rw [run_ok hx hs'] at h
      rw [run_boxes h, eff_boxes]
theorem alone_boxes {rs : List Stp} {bs : List Int} {S : LS} (h : LS.alone rs bs = .ok S) : S.boxes.length = bs.length := run_boxes h
end G
namespace G
open PySem PySem.Spec PyProof.Rows L2
/-! ### two rows, led by an order -/
def hs2V (hs : List Bool) : List V := hs.map fun h => V.int (hI h)
def spWalked (er : Err → Addr) : Sp := fun vs H Q E => ∃ (a0 a1 b o : Addr) (x0 x1 : List V) (c0 c1 : List Thg) (bs : List Int) (hs : List Bool), vs = [.ref a0, .ref a1, .ref b, .ref o] ∧ H a0 = some (.lst x0) ∧ H a1 = some (.lst x1) ∧ ThRow H x0 c0 ∧ ThRow H x1 c1 ∧ H b = some (.lst (bs.map V.int)) ∧ H o = some (.lst (hs2V hs)) ∧
  (∀ e H', loomErr c0 c1 bs.length = some e → Kp [] H H' → E (.ref (er e)) none H') ∧
  (loomErr c0 c1 bs.length = none → ∀ r0 r1, c0 = r0.map (fun s => some s.enc) → c1 = r1.map (fun s => some s.enc) → (LS.start (two r0 r1) bs).Ok →
    (∀ e H', (LS.start (two r0 r1) bs).run hs = .error e → Kp [] H H' → E (.ref (er e)) none H') ∧
    (∀ S p l n H', (LS.start (two r0 r1) bs).run hs = .ok S → Fre H p → Fre H l → Fre H n → l ≠ n → Kp [] H H' → H' p = some (.tup [.ref l, .ref n]) → H' l = some (.lst (S.boxes.map V.int)) → H' n = some (.lst [.int (S.num false), .int (S.num true)]) → Q (.ref p) H'))
theorem get_hs {hs : List Bool} {j : Nat} {x : V} (h : (hs2V hs)[j]? = some x) : ∃ g, x = .int (hI g) ∧ hs[j]? = some g := by
  unfold hs2V at h
  rw [List.getElem?_map] at h
  cases e : hs[j]? with
  | none => rw [e] at h; cases h
  | some g => rw [e] at h; exact ⟨g, (Option.some.inj h).symm, rfl⟩
theorem drop_get {α : Type} {hs : List α} {j : Nat} {g : α} (h : hs[j]? = some g) : hs.drop j = g :: hs.drop (j + 1) := by
  obtain ⟨hj, e⟩ := List.getElem?_eq_some_iff.mp h
  rw [List.drop_eq_getElem_cons hj, e]
end G
namespace G
open PySem PySem.Spec PyProof.Rows L2
/-! ### the law's own stand: [boxes, numbers, places, holder, rows] -/
structure SA where
  p : Addr
  b : Addr
  n : Addr
  q : Addr
  w : Addr
  row : Bool → Addr
  ps : Bool → List Addr
def SA.fp (A : SA) : List Addr := [A.p, A.b, A.n, A.q]
structure StandAt (H : Hp) (A : SA) (S : LS) : Prop where
  top : H A.p = some (.lst [.ref A.b, .ref A.n, .ref A.q, hV S.hd, .ref A.w])
  rws : H A.w = some (.lst [.ref (A.row false), .ref (A.row true)])
  row : ∀ h, RowAt H (A.row h) (A.ps h) (S.rows h)
  box : H A.b = some (.lst (S.boxes.map V.int))
  num : H A.n = some (.lst [.int (S.num false), .int (S.num true)])
  pls : H A.q = some (.lst [.int (S.pl false), .int (S.pl true)])
  pb : A.p ≠ A.b
  pn : A.p ≠ A.n
  pq : A.p ≠ A.q
  pw : A.p ≠ A.w
  pr : ∀ h, A.p ≠ A.row h
  bn : A.b ≠ A.n
  bq : A.b ≠ A.q
  nq : A.n ≠ A.q
  wb : A.w ≠ A.b
  wn : A.w ≠ A.n
  wq : A.w ≠ A.q
  rb : ∀ h, A.row h ≠ A.b
  rn : ∀ h, A.row h ≠ A.n
  rq : ∀ h, A.row h ≠ A.q
theorem StandAt.keep {W : List Addr} {H H' : Hp} {A : SA} {S : LS} (L : StandAt H A S) (k : Kp W H H') (n1 : A.p ∉ W) (n2 : A.w ∉ W) (n3 : ∀ h, A.row h ∉ W) (n4 : A.b ∉ W) (n5 : A.n ∉ W) (n6 : A.q ∉ W) : StandAt H' A S :=
  ⟨k.get L.top n1, k.get L.rws n2, fun h => (L.row h).keep k (n3 h), k.get L.box n4, k.get L.num n5, k.get L.pls n6, L.pb, L.pn, L.pq, L.pw, L.pr, L.bn, L.bq, L.nq, L.wb, L.wn, L.wq, L.rb, L.rn, L.rq⟩
theorem StandAt.keep0 {H H' : Hp} {A : SA} {S : LS} (L : StandAt H A S) (k : Kp [] H H') : StandAt H' A S := L.keep k nin_nil nin_nil (fun _ => nin_nil) nin_nil nin_nil nin_nil
theorem StandAt.setHd {H H' : Hp} {A : SA} {S : LS} (L : StandAt H A S) (k : Kp [A.p] H H') (o : Option Bool) (e : H' A.p = some (.lst [.ref A.b, .ref A.n, .ref A.q, hV o, .ref A.w])) : StandAt H' A { S with hd := o } :=
  ⟨e, k.get L.rws (nin_cons L.pw.symm nin_nil), fun h => (L.row h).keep k (nin_cons (L.pr h).symm nin_nil), k.get L.box (nin_cons L.pb.symm nin_nil), k.get L.num (nin_cons L.pn.symm nin_nil), k.get L.pls (nin_cons L.pq.symm nin_nil), L.pb, L.pn, L.pq, L.pw, L.pr, L.bn, L.bq, L.nq, L.wb, L.wn, L.wq, L.rb, L.rn, L.rq⟩
theorem StandAt.setNum {H H' : Hp} {A : SA} {S : LS} (L : StandAt H A S) (k : Kp [A.n] H H') (f : Bool → Int) (e : H' A.n = some (.lst [.int (f false), .int (f true)])) : StandAt H' A { S with num := f } :=
  ⟨k.get L.top (nin_cons L.pn nin_nil), k.get L.rws (nin_cons L.wn nin_nil), fun h => (L.row h).keep k (nin_cons (L.rn h) nin_nil), k.get L.box (nin_cons L.bn nin_nil), e, k.get L.pls (nin_cons L.nq.symm nin_nil), L.pb, L.pn, L.pq, L.pw, L.pr, L.bn, L.bq, L.nq, L.wb, L.wn, L.wq, L.rb, L.rn, L.rq⟩
theorem StandAt.setPl {H H' : Hp} {A : SA} {S : LS} (L : StandAt H A S) (k : Kp [A.q] H H') (f : Bool → Nat) (e : H' A.q = some (.lst [.int (f false), .int (f true)])) : StandAt H' A { S with pl := f } :=
  ⟨k.get L.top (nin_cons L.pq nin_nil), k.get L.rws (nin_cons L.wq nin_nil), fun h => (L.row h).keep k (nin_cons (L.rq h) nin_nil), k.get L.box (nin_cons L.bq nin_nil), k.get L.num (nin_cons L.nq nin_nil), e, L.pb, L.pn, L.pq, L.pw, L.pr, L.bn, L.bq, L.nq, L.wb, L.wn, L.wq, L.rb, L.rn, L.rq⟩
theorem StandAt.setBox {H H' : Hp} {A : SA} {S : LS} (L : StandAt H A S) (k : Kp [A.b] H H') (f : List Int) (e : H' A.b = some (.lst (f.map V.int))) : StandAt H' A { S with boxes := f } :=
  ⟨k.get L.top (nin_cons L.pb nin_nil), k.get L.rws (nin_cons L.wb nin_nil), fun h => (L.row h).keep k (nin_cons (L.rb h) nin_nil), e, k.get L.num (nin_cons L.bn.symm nin_nil), k.get L.pls (nin_cons L.bq.symm nin_nil), L.pb, L.pn, L.pq, L.pw, L.pr, L.bn, L.bq, L.nq, L.wb, L.wn, L.wq, L.rb, L.rn, L.rq⟩
theorem kp_sp1 {A : SA} {H H' : Hp} (k : Kp [A.p] H H') : Kp A.fp H H' := k.mono fun a h => by simp [SA.fp] at h ⊢; simp [h]
theorem kp_spb {A : SA} {H H' : Hp} (k : Kp [A.b] H H') : Kp A.fp H H' := k.mono fun a h => by simp [SA.fp] at h ⊢; simp [h]
theorem kp_spn {A : SA} {H H' : Hp} (k : Kp [A.n] H H') : Kp A.fp H H' := k.mono fun a h => by simp [SA.fp] at h ⊢; simp [h]
theorem kp_spq {A : SA} {H H' : Hp} (k : Kp [A.q] H H') : Kp A.fp H H' := k.mono fun a h => by simp [SA.fp] at h ⊢; simp [h]
/-- the word for what refuses the next step -/
def errWordX (o : Str) : Option Err → Str
  | none => "" | some .noTurn => o | some .waits => "waits" | some .again => "again" | some .notHeld => "not held" | _ => "?"
def errWord : Option Err → Str := errWordX "no turn"
def spWord (w : Str) : Sp := fun vs H Q _ => ∃ (A : SA) (S : LS) (g : Bool), vs = [.ref A.p, .int (hI g)] ∧ StandAt H A S ∧ S.Ok ∧ ∀ H', Kp [] H H' → Q (.str (errWordX w (S.err g))) H'
def spDone : Sp := fun vs H Q _ => ∃ (A : SA) (S : LS) (g : Bool) (s : Stp), vs = [.ref A.p, .int (hI g)] ∧ StandAt H A S ∧ S.Ok ∧ S.next g = some s ∧ ∀ H', Kp A.fp H H' → StandAt H' A (S.eff g s) → Q .non H'
def spCan : Sp := fun vs H Q _ => ∃ (A : SA) (S : LS) (g : Bool), vs = [.ref A.p, .int (hI g)] ∧ StandAt H A S ∧ S.Ok ∧ ∀ H', Kp [] H H' → Q (.bl (match S.next g with | none => false | some s => !s.isT || decide (S.hd = none))) H'
theorem useWord {w : Str} {H : Hp} {Q : VK} {E : XK} {A : SA} {S : LS} {g : Bool} (L : StandAt H A S) (o : S.Ok) (k : ∀ H', Kp [] H H' → Q (.str (errWordX w (S.err g))) H') : spWord w [.ref A.p, .int (hI g)] H Q E := ⟨A, S, g, rfl, L, o, k⟩
theorem useDone {H : Hp} {Q : VK} {E : XK} {A : SA} {S : LS} {g : Bool} {s : Stp} (L : StandAt H A S) (o : S.Ok) (hs : S.next g = some s) (k : ∀ H', Kp A.fp H H' → StandAt H' A (S.eff g s) → Q .non H') : spDone [.ref A.p, .int (hI g)] H Q E := ⟨A, S, g, s, rfl, L, o, hs, k⟩
theorem useCan {H : Hp} {Q : VK} {E : XK} {A : SA} {S : LS} {g : Bool} (L : StandAt H A S) (o : S.Ok) (k : ∀ H', Kp [] H H' → Q (.bl (match S.next g with | none => false | some s => !s.isT || decide (S.hd = none))) H') : spCan [.ref A.p, .int (hI g)] H Q E := ⟨A, S, g, rfl, L, o, k⟩
end G

namespace G
open PySem PySem.Spec PyProof.Rows L2
theorem tyAnd {K : PySem.W.Frag} {T : String} {x : V} {H : Hp} {B : Prop} (h : tyV K T x H) (b : B) : tyV K T x H ∧ B := ⟨h, b⟩
theorem op_inK {X : Cx} (K : PySem.W.Frag) (e : X.K = K) : OpR X (compareOp .In) (rIn K false) := e ▸ op_in_seq
theorem op_notInK {X : Cx} (K : PySem.W.Frag) (e : X.K = K) : OpR X (compareOp .NotIn) (rIn K true) := e ▸ op_notIn_seq
theorem op_isNG {X : Cx} : OpR X (compareOp .Is) rIsN := op_isN
theorem op_notNG {X : Cx} : OpR X (compareOp .IsNot) rNotN := op_notN
theorem non_ne_int {i : Int} : ¬ V.int i = V.non := fun z => by cases z
theorem non_ne_ref {i : Addr} : ¬ V.ref i = V.non := fun z => by cases z
theorem non_ne_str {i : Str} : ¬ V.str i = V.non := fun z => by cases z
/-! ### steps that stand in the heap -/
structure StpsAt (H : Hp) (ps : List Addr) (rs : List Stp) : Prop where
  n : ps.length = rs.length
  e : ∀ (i : Nat) (p : Addr) (s : Stp), ps[i]? = some p → rs[i]? = some s → H p = some (.tup s.enc)
theorem StpsAt.keep {W : List Addr} {H H' : Hp} {ps : List Addr} {rs : List Stp} (r : StpsAt H ps rs) (k : Kp W H H') : StpsAt H' ps rs := ⟨r.n, fun i p s h1 h2 => k.getT (r.e i p s h1 h2)⟩
theorem StpsAt.nil {H : Hp} : StpsAt H [] [] := ⟨rfl, fun i p s h => by simp at h⟩
theorem StpsAt.row {H : Hp} {a : Addr} {ps : List Addr} {rs : List Stp} (r : StpsAt H ps rs) (h : H a = some (.lst (ps.map V.ref))) : RowAt H a ps rs := ⟨h, r.n, r.e⟩
theorem RowAt.stps {H : Hp} {a : Addr} {ps : List Addr} {rs : List Stp} (r : RowAt H a ps rs) : StpsAt H ps rs := ⟨r.n, r.e⟩
theorem StpsAt.push {W : List Addr} {H H' : Hp} {p : Addr} {ps : List Addr} {rs : List Stp} {s : Stp} (r : StpsAt H ps rs) (k : Kp W H H') (hp : H' p = some (.tup s.enc)) : StpsAt H' (ps ++ [p]) (rs ++ [s]) := by
  refine ⟨by simp [r.n], fun i q t h1 h2 => ?_⟩
  by_cases hi : i < ps.length
  · rw [List.getElem?_append_left hi] at h1
    rw [List.getElem?_append_left (by rw [← r.n]; exact hi)] at h2
    exact k.getT (r.e i q t h1 h2)
  · rw [List.getElem?_append_right (by omega)] at h1
    rw [List.getElem?_append_right (by rw [← r.n]; omega)] at h2
    have e1 : i - ps.length = 0 := by
      cases z : i - ps.length with
      | zero => rfl
      | succ n => rw [z] at h1; simp at h1
    rw [e1] at h1
    rw [← r.n, e1] at h2
    have a1 : p = q := by simpa using h1
    have a2 : s = t := by simpa using h2
    subst a1 a2
    exact hp
/-! ### rows by cells -/
def spStep2 : Sp := fun vs H Q _ => ∃ (c many : Int), vs = [.int c, .int many] ∧ Bt c ∧ 0 ≤ many ∧ ∀ s p H', Made H H' many p s → Q (.ref p) H'
theorem useStep2 {H : Hp} {Q : VK} {E : XK} {c many : Int} (h1 : Bt c) (h2 : 0 ≤ many) (k : ∀ s p H', Made H H' many p s → Q (.ref p) H') : spStep2 [.int c, .int many] H Q E := ⟨c, many, rfl, h1, h2, k⟩
def spCells (K : PySem.W.Frag) : Sp := fun vs H Q _ => ∃ (a : Addr) (ns : List Int) (st : Int) (n : Nat), vs = [.ref a, .int st, .int n] ∧ SqL K H a (ns.map V.int) ∧ (∀ z ∈ ns, Builtin.Int.intBits z ≤ 1048576) ∧ 0 ≤ st ∧ n ≤ 60 ∧
  ∀ p (cs : List Int) H', Fre H p → Kp [] H H' → H' p = some (.lst (cs.map V.int)) → cs.length = n → (∀ c ∈ cs, Bt c) → Q (.ref p) H'
theorem useCells {K : PySem.W.Frag} {H : Hp} {Q : VK} {E : XK} {a : Addr} {ns : List Int} {st m : Int} (n : Nat) (em : m = (n : Int)) (h1 : SqL K H a (ns.map V.int)) (h2 : ∀ z ∈ ns, Builtin.Int.intBits z ≤ 1048576) (h3 : 0 ≤ st) (h4 : n ≤ 60)
    (k : ∀ p (cs : List Int) H', Fre H p → Kp [] H H' → H' p = some (.lst (cs.map V.int)) → cs.length = n → (∀ c ∈ cs, Bt c) → Q (.ref p) H') : spCells K [.ref a, .int st, .int m] H Q E := by
  subst em
  exact ⟨a, ns, st, n, rfl, h1, h2, h3, h4, k⟩
theorem cell_bits {ns : List Int} (h : ∀ z ∈ ns, Builtin.Int.intBits z ≤ 1048576) (i : Int) : Builtin.Int.intBits (cellI ns i) ≤ 1048576 := by
  unfold cellI
  rw [List.getD_eq_getElem?_getD]
  cases e : ns[i.toNat]? with
  | none => exact (by decide : Builtin.Int.intBits 0 ≤ 1048576)
  | some z => exact h z (List.mem_of_getElem? e)
def spRow6 : Sp := fun vs H Q _ => ∃ (a : Addr) (cs : List Int) (many : Int), vs = [.ref a, .int many] ∧ H a = some (.lst (cs.map V.int)) ∧ cs.length ≤ 60 ∧ (∀ c ∈ cs, Bt c) ∧ 0 ≤ many ∧
  ∀ p ps rs H', rs.length = cs.length → (∀ s ∈ rs, inBox many s = true) → Fre H p → Kp [] H H' → RowAt H' p ps rs → Q (.ref p) H'
theorem useRow6 {H : Hp} {Q : VK} {E : XK} {a : Addr} {cs : List Int} {many : Int} (h1 : H a = some (.lst (cs.map V.int))) (h2 : cs.length ≤ 60) (h3 : ∀ c ∈ cs, Bt c) (h4 : 0 ≤ many)
    (k : ∀ p ps rs H', rs.length = cs.length → (∀ s ∈ rs, inBox many s = true) → Fre H p → Kp [] H H' → RowAt H' p ps rs → Q (.ref p) H') : spRow6 [.ref a, .int many] H Q E := ⟨a, cs, many, rfl, h1, h2, h3, h4, k⟩
theorem at7s (c : Int) : c % 7 = 0 ∨ c % 7 = 1 ∨ c % 7 = 2 ∨ c % 7 = 3 ∨ c % 7 = 4 ∨ c % 7 = 5 ∨ c % 7 = 6 := by omega
/-! ### the law's own words -/
theorem hV_non (o : Option Bool) : decide (hV o = .non) = decide (o = none) := by
  cases o with
  | none => rfl
  | some h => rfl
theorem hV_nn {o : Option Bool} (h : ¬ o = none) : ¬ hV o = V.non := fun z => by
  cases o with
  | none => exact h rfl
  | some b => cases z
theorem hd_other {o : Option Bool} {g : Bool} (h : ¬ o = none) (h2 : ¬ o = some g) : o = some (!g) := by
  cases o with
  | none => exact absurd rfl h
  | some b => cases b <;> cases g <;> first | rfl | exact absurd rfl h2
def spTold6 : Sp := fun vs H Q _ => ∃ (a0 a1 b o : Addr) (p0 p1 : List Addr) (r0 r1 : List Stp) (bs : List Int) (hs : List Bool), vs = [.ref a0, .ref a1, .ref b, .ref o] ∧ RowAt H a0 p0 r0 ∧ RowAt H a1 p1 r1 ∧ H b = some (.lst (bs.map V.int)) ∧ H o = some (.lst (hs2V hs)) ∧ (LS.start (two r0 r1) bs).Ok ∧
  (∀ e H', (LS.start (two r0 r1) bs).run hs = .error e → Kp [] H H' → Q (.str (errWord (some e))) H') ∧
  (∀ S p l n H', (LS.start (two r0 r1) bs).run hs = .ok S → Fre H p → Fre H l → Fre H n → l ≠ n → Kp [] H H' → H' p = some (.tup [.ref l, .ref n]) → H' l = some (.lst (S.boxes.map V.int)) → H' n = some (.lst [.int (S.num false), .int (S.num true)]) → Q (.ref p) H')
theorem err4 {S : LS} {h : Bool} {e : Err} (x : S.err h = some e) : e = .noTurn ∨ e = .waits ∨ e = .again ∨ e = .notHeld := by
  unfold LS.err at x
  split at x
  · cases x; exact .inl rfl
  · rename_i s _
    split at x
    · cases x; exact .inr (.inl rfl)
    · cases s <;> simp only [LS.gErr] at x <;> (try cases x)
      · split at x
        · cases x; exact .inr (.inr (.inl rfl))
        · cases x
      · split at x
        · cases x
        · cases x; exact .inr (.inr (.inr rfl))
theorem run_err4 : ∀ {hs : List Bool} {S : LS} {e : Err}, S.run hs = .error e → e = .noTurn ∨ e = .waits ∨ e = .again ∨ e = .notHeld
  | [], S, e, h => by cases h
  | g :: hs, S, e, h => by
    cases hx : S.err g with
    | some x =>
      rw [run_err hx] at h
      cases h
      exact err4 hx
    | none =>
      obtain ⟨s, hs'⟩ := err_next hx
      rw [run_ok hx hs'] at h
      exact run_err4 h
theorem ok_needC {rows : Bool → List Stp} {bs : List Int} (o : (LS.start rows bs).Ok) (h : Bool) : needC ((rows h).map fun s => some s.enc) bs.length = none := needC_ok (o.len h) (o.box h)
theorem useWalked {er : Err → Addr} {H : Hp} {Q : VK} {E : XK} {a0 a1 b o : Addr} {p0 p1 : List Addr} {r0 r1 : List Stp} {bs : List Int} {hs : List Bool} (R0 : RowAt H a0 p0 r0) (R1 : RowAt H a1 p1 r1) (hb : H b = some (.lst (bs.map V.int))) (ho : H o = some (.lst (hs2V hs))) (k : (LS.start (two r0 r1) bs).Ok)
    (ke : ∀ e H', (LS.start (two r0 r1) bs).run hs = .error e → Kp [] H H' → E (.ref (er e)) none H')
    (kq : ∀ S p l n H', (LS.start (two r0 r1) bs).run hs = .ok S → Fre H p → Fre H l → Fre H n → l ≠ n → Kp [] H H' → H' p = some (.tup [.ref l, .ref n]) → H' l = some (.lst (S.boxes.map V.int)) → H' n = some (.lst [.int (S.num false), .int (S.num true)]) → Q (.ref p) H') :
    spWalked er [.ref a0, .ref a1, .ref b, .ref o] H Q E :=
  ⟨a0, a1, b, o, _, _, _, _, bs, hs, rfl, R0.l, R1.l, R0.th, R1.th, hb, ho, fun e H' he _ => absurd (he.symm.trans ((loomErr_1 (c1 := r1.map fun s => some s.enc) (show needC (r0.map fun s => some s.enc) bs.length = none from ok_needC k false)).trans (ok_needC k true))) (by intro z; cases z), fun _ q0 q1 e0 e1 _ => by
    have f0 := rows_inj e0
    have f1 := rows_inj e1
    subst f0 f1
    exact ⟨ke, kq⟩⟩
/-! ### comparing data that was handed in -/
theorem useNeRow {K : PySem.W.Frag} {H : Hp} {Q : VK} {a b : Addr} {ps qs : List Addr} {rs : List Stp} (r : RowAt H a ps rs) (r2 : RowAt H b qs rs) (q : Q (.bl false) H) : rNeD K (.ref a) (.ref b) H Q :=
  ⟨_, _, r.dp, r2.dp, row_shaped rs, row_shaped rs, by rw [SeqAt.eqv_refl _ (SeqAt.canLay_of_shaped (row_shaped rs))]; exact q⟩
def intsDat (xs : List Int) : PyData := .list (xs.map PyData.int)
theorem ints_lay : ∀ xs : List Int, PyData.canLayAll0 (xs.map PyData.int) = true
  | [] => rfl
  | s :: r => by
    rw [List.map_cons, PyData.canLayAll0, ints_lay r]; rfl
theorem ints_depth : ∀ xs : List Int, PyData.depthAll (xs.map PyData.int) ≤ 1
  | [] => Nat.zero_le _
  | s :: r => by
    rw [List.map_cons, PyData.depthAll]
    exact Nat.max_le.mpr ⟨by simp [PyData.depth], ints_depth r⟩
theorem ints_shaped (xs : List Int) : SeqAt.shaped (intsDat xs) = true := by
  have h1 : (intsDat xs).canLay0 = true := by
    unfold intsDat
    rw [PyData.canLay0]
    exact ints_lay xs
  have h2 : (intsDat xs).depth ≤ 64 := by
    unfold intsDat
    rw [PyData.depth]
    have := ints_depth xs
    omega
  unfold SeqAt.shaped
  rw [h1, decide_eq_true h2]; rfl
theorem dp_ints {K : PySem.W.Frag} {H : Hp} : ∀ xs : List Int, DpAll K H (xs.map V.int) (xs.map PyData.int)
  | [] => .nil
  | x :: r => .cons (.int x) (dp_ints r)
theorem eqv_ints (xs : List Int) : PyData.eqv (intsDat xs) (intsDat xs) = true := SeqAt.eqv_refl _ (SeqAt.canLay_of_shaped (ints_shaped xs))
theorem useEqInts {K : PySem.W.Frag} {H : Hp} {Q : VK} {a b : Addr} {xs : List Int} (h1 : H a = some (.lst (xs.map V.int))) (h2 : H b = some (.lst (xs.map V.int))) (q : Q (.bl true) H) : rEqD K (.ref a) (.ref b) H Q :=
  ⟨_, _, .lst (SqL.of h1) (dp_ints xs), .lst (SqL.of h2) (dp_ints xs), ints_shaped xs, ints_shaped xs, by rw [show PyData.eqv (.list (xs.map PyData.int)) (.list (xs.map PyData.int)) = true from eqv_ints xs]; exact q⟩
theorem useNeInts {K : PySem.W.Frag} {H : Hp} {Q : VK} {a b : Addr} {xs : List Int} (h1 : H a = some (.lst (xs.map V.int))) (h2 : H b = some (.lst (xs.map V.int))) (q : Q (.bl false) H) : rNeD K (.ref a) (.ref b) H Q :=
  ⟨_, _, .lst (SqL.of h1) (dp_ints xs), .lst (SqL.of h2) (dp_ints xs), ints_shaped xs, ints_shaped xs, by rw [show PyData.eqv (.list (xs.map PyData.int)) (.list (xs.map PyData.int)) = true from eqv_ints xs]; exact q⟩
theorem hs2V_ints (hs : List Bool) : hs2V hs = (hs.map hI).map V.int := by unfold hs2V; rw [List.map_map]; rfl
/-! ### an order, one hand more -/
theorem run_snoc : ∀ {hs : List Bool} {S T : LS} (g : Bool), S.run hs = .ok T → S.run (hs ++ [g]) = T.run [g]
  | [], S, T, g, h => by cases h; rfl
  | a :: hs, S, T, g, h => by
    cases hx : S.err a with
    | some x => rw [run_err hx] at h; cases h
    | none =>
      obtain ⟨s, hs'⟩ := err_next hx
      rw [run_ok hx hs'] at h
      rw [List.cons_append, run_ok hx hs']
      exact run_snoc g h
theorem run_one {T : LS} {g : Bool} : T.run [g] = T.stepE g := by
  show (match T.stepE g with | .error e => Except.error e | .ok S' => S'.run []) = _
  cases T.stepE g <;> rfl
theorem hI_mod (c : Int) : ∃ g : Bool, c % 2 = hI g := by
  rcases (show c % 2 = 0 ∨ c % 2 = 1 by omega) with e | e
  · exact ⟨false, e⟩
  · exact ⟨true, e⟩
theorem hs2V_snoc (hs : List Bool) (g : Bool) : hs2V hs ++ [V.int (hI g)] = hs2V (hs ++ [g]) := by unfold hs2V; rw [List.map_append]; rfl
end G
namespace G
open PySem PySem.Spec PyProof.Rows L2
theorem bits_div {c k : Int} (hk : 0 < k) : Builtin.Int.intBits (c / k) ≤ Builtin.Int.intBits c := by
  refine bits_mono ?_
  rcases Int.lt_or_le c 0 with h0 | h0
  · have h1 : c ≤ c / k := Int.le_ediv_of_mul_le (a := c) (b := c) hk (by
      have e : c * k - c = c * (k - 1) := by rw [Int.mul_sub, Int.mul_one]
      have q : c * (k - 1) ≤ 0 := Int.mul_nonpos_of_nonpos_of_nonneg (by omega) (by omega)
      omega)
    have h2 : c / k < 0 := Int.ediv_neg_of_neg_of_pos h0 hk
    omega
  · have h1 : c / k ≤ c := Int.ediv_le_self _ h0
    have h2 : 0 ≤ c / k := Int.ediv_nonneg h0 (by omega)
    omega
theorem bt_div_add {ns : List Int} (h : ∀ z ∈ ns, Builtin.Int.intBits z ≤ 1048576) (i : Int) {k t : Int} (hk : 0 < k) (h0 : 0 ≤ t) (h1 : t ≤ 1000) : Bt (cellI ns i / k + t) :=
  Bt.add (bt_of (Nat.le_trans (bits_div hk) (cell_bits h i))) h0 h1 (Nat.le_trans (Nat.le_trans (bits_div hk) (cell_bits h i)) (by decide))
theorem errWordX_ne {o : Str} (ho : o ≠ "") {S : LS} {g : Bool} {e : Err} (x : S.err g = some e) : errWordX o (some e) ≠ "" := by
  rcases err4 x with z | z | z | z <;> subst z
  · exact ho
  · exact (by decide +kernel : ("waits" : Str) ≠ "")
  · exact (by decide +kernel : ("again" : Str) ≠ "")
  · exact (by decide +kernel : ("not held" : Str) ≠ "")
theorem two_f {α : Type} {x y : α} : two x y false = x := rfl
theorem two_t {α : Type} {x y : α} : two x y true = y := rfl
/-- an order so far, the law's own stand beside it -/
structure Led (r0 r1 : List Stp) (bs : List Int) (hs : List Bool) (w : Str) (S : LS) : Prop where
  o : S.Ok
  rows : S.rows = two r0 r1
  box : S.boxes.length = bs.length
  run : (w = "" ∧ (LS.start (two r0 r1) bs).run hs = .ok S) ∨ (∃ e, w = errWord (some e) ∧ w ≠ "" ∧ (LS.start (two r0 r1) bs).run hs = .error e)
theorem Led.init {r0 r1 : List Stp} {bs : List Int} (o : (LS.start (two r0 r1) bs).Ok) : Led r0 r1 bs [] "" (LS.start (two r0 r1) bs) := ⟨o, rfl, rfl, .inl ⟨rfl, rfl⟩⟩
theorem Led.okRun {r0 r1 : List Stp} {bs : List Int} {hs : List Bool} {S : LS} (d : Led r0 r1 bs hs "" S) : (LS.start (two r0 r1) bs).run hs = .ok S := by
  rcases d.run with ⟨_, h⟩ | ⟨e, _, h, _⟩
  · exact h
  · exact absurd rfl h
theorem Led.err {r0 r1 : List Stp} {bs : List Int} {hs : List Bool} {S : LS} (d : Led r0 r1 bs hs "" S) {g : Bool} {e : Err} (x : S.err g = some e) : Led r0 r1 bs (hs ++ [g]) (errWord (some e)) S :=
  ⟨d.o, d.rows, d.box, .inr ⟨e, rfl, errWordX_ne (by decide +kernel) x, by rw [run_snoc g d.okRun, run_one, stepE_err x]⟩⟩
theorem Led.go {r0 r1 : List Stp} {bs : List Int} {hs : List Bool} {S : LS} (d : Led r0 r1 bs hs "" S) {g : Bool} {s : Stp} (x : S.err g = none) (hn : S.next g = some s) : Led r0 r1 bs (hs ++ [g]) "" (S.eff g s) :=
  ⟨d.o.eff hn, by rw [eff_rows]; exact d.rows, by rw [eff_boxes]; exact d.box, .inl ⟨rfl, by rw [run_snoc g d.okRun, run_one, stepE_ok x hn]⟩⟩
theorem kp_order {O : Addr} {A : SA} {H H1 H2 : Hp} (p : Kp (O :: A.fp) H H1) (k : Kp [O] H1 H2) : Kp (O :: A.fp) H H2 := p.step k fun a h => by
  have e : a = O := by simpa using h
  rw [e]; exact .inl List.mem_cons_self
theorem kp_stand {O : Addr} {A : SA} {H H1 H2 : Hp} (p : Kp (O :: A.fp) H H1) (k : Kp A.fp H1 H2) : Kp (O :: A.fp) H H2 := p.step k fun a h => .inl (List.mem_cons_of_mem _ h)
/-- what the list of the order is apart from -/
structure OrdAp (O : Addr) (A : SA) : Prop where
  p : A.p ≠ O
  w : A.w ≠ O
  row : ∀ h, A.row h ≠ O
  b : A.b ≠ O
  n : A.n ≠ O
  q : A.q ≠ O
theorem StandAt.ord {O : Addr} {H H' : Hp} {A : SA} {S : LS} (L : StandAt H A S) (k : Kp [O] H H') (d : OrdAp O A) : StandAt H' A S :=
  L.keep k (by simpa using d.p) (by simpa using d.w) (fun h => by simpa using d.row h) (by simpa using d.b) (by simpa using d.n) (by simpa using d.q)
theorem OrdAp.nin {O : Addr} {A : SA} (d : OrdAp O A) : O ∉ A.fp := by
  simp only [SA.fp, List.mem_cons, List.not_mem_nil, or_false, not_or]
  exact ⟨d.p.symm, d.b.symm, d.n.symm, d.q.symm⟩
theorem nin_ofp {O x : Addr} {A : SA} (h0 : x ≠ O) (h1 : x ≠ A.p) (h2 : x ≠ A.b) (h3 : x ≠ A.n) (h4 : x ≠ A.q) : x ∉ O :: A.fp := by
  simp only [SA.fp, List.mem_cons, List.not_mem_nil, or_false, not_or]
  exact ⟨h0, h1, h2, h3, h4⟩
/-- a stand that is built: its places are new, none of them is another's -/
theorem StandAt.built {H : Hp} {p b n q w a0 a1 : Addr} {p0 p1 : List Addr} {r0 r1 : List Stp} {bs : List Int} (top : H p = some (.lst [.ref b, .ref n, .ref q, .non, .ref w])) (rws : H w = some (.lst [.ref a0, .ref a1])) (R0 : RowAt H a0 p0 r0) (R1 : RowAt H a1 p1 r1)
    (box : H b = some (.lst (bs.map V.int))) (num : H n = some (.lst [.int 0, .int 0])) (pls : H q = some (.lst [.int 0, .int 0])) (pb : p ≠ b) (pn : p ≠ n) (pq : p ≠ q) (pw : p ≠ w) (pr0 : p ≠ a0) (pr1 : p ≠ a1) (bn : b ≠ n) (bq : b ≠ q) (nq : n ≠ q) (wb : w ≠ b) (wn : w ≠ n) (wq : w ≠ q)
    (rb0 : a0 ≠ b) (rb1 : a1 ≠ b) (rn0 : a0 ≠ n) (rn1 : a1 ≠ n) (rq0 : a0 ≠ q) (rq1 : a1 ≠ q) : StandAt H ⟨p, b, n, q, w, two a0 a1, two p0 p1⟩ (LS.start (two r0 r1) bs) :=
  ⟨top, rws, fun h => by cases h <;> first | exact R0 | exact R1, box, num, pls, pb, pn, pq, pw, fun h => by cases h <;> first | exact pr0 | exact pr1, bn, bq, nq, wb, wn, wq, fun h => by cases h <;> first | exact rb0 | exact rb1,
   fun h => by cases h <;> first | exact rn0 | exact rn1, fun h => by cases h <;> first | exact rq0 | exact rq1⟩
theorem start_ok2 {r0 r1 : List Stp} {bs : List Int} (l0 : r0.length ≤ 60) (l1 : r1.length ≤ 60) (b0 : ∀ s ∈ r0, inBox bs.length s = true) (b1 : ∀ s ∈ r1, inBox bs.length s = true) : (LS.start (two r0 r1) bs).Ok where
  len := fun h => by cases h <;> first | exact l0 | exact l1
  box := fun h s hs => by
    cases h
    · exact b0 s hs
    · exact b1 s hs
  pl := fun h => Nat.zero_le _
end G
namespace G
open PySem PySem.Spec PyProof.Rows L2
theorem useWordN {w : Str} {H : Hp} {Q : VK} {E : XK} {A : SA} {S : LS} {g : Bool} (L : StandAt H A S) (o : S.Ok) (e : S.err g = none) (k : ∀ H', Kp [] H H' → Q (.str "") H') : spWord w [.ref A.p, .int (hI g)] H Q E := useWord L o fun H' kp => by rw [e]; exact k H' kp
theorem useWordE {w : Str} (hw : w ≠ "") {H : Hp} {Q : VK} {E : XK} {A : SA} {S : LS} {g : Bool} {x : Err} (L : StandAt H A S) (o : S.Ok) (e : S.err g = some x) (k : ∀ H', errWordX w (some x) ≠ "" → Kp [] H H' → Q (.str (errWordX w (some x))) H') : spWord w [.ref A.p, .int (hI g)] H Q E := useWord L o fun H' kp => by rw [e]; exact k H' (errWordX_ne hw e) kp
theorem hs2V_len (hs : List Bool) : (hs2V hs).length = hs.length := by unfold hs2V; rw [List.length_map]
end G

namespace G
open PySem PySem.Spec PyProof.Rows L2
/-! ### who is ahead in an order -/
theorem hI_inj {g h : Bool} : hI g = hI h ↔ g = h := by cases g <;> cases h <;> decide
def byOrd (rows : Bool → List Stp) : (Bool → Nat) → List (Bool × Stp) → List Bool → Option (List (Bool × Stp))
  | _, acc, [] => some acc
  | pl, acc, h :: hs => match (rows h)[pl h]? with
    | none => none
    | some s => byOrd rows (upB pl h (pl h + 1)) (acc ++ [(h, s)]) hs
theorem byOrd_none {rows : Bool → List Stp} {pl : Bool → Nat} {acc : List (Bool × Stp)} {h : Bool} {hs : List Bool} (e : (rows h)[pl h]? = none) : byOrd rows pl acc (h :: hs) = none := by rw [byOrd, e]
theorem byOrd_some {rows : Bool → List Stp} {pl : Bool → Nat} {acc : List (Bool × Stp)} {h : Bool} {hs : List Bool} {s : Stp} (e : (rows h)[pl h]? = some s) : byOrd rows pl acc (h :: hs) = byOrd rows (upB pl h (pl h + 1)) (acc ++ [(h, s)]) hs := by rw [byOrd, e]
/-- what is done, as pairs in the heap -/
structure PairsAt (H : Hp) (ts : List Addr) (acc : List (Bool × Stp)) : Prop where
  n : ts.length = acc.length
  e : ∀ (i : Nat) (t : Addr) (x : Bool × Stp), ts[i]? = some t → acc[i]? = some x → ∃ p, H t = some (.tup [.int (hI x.1), .ref p]) ∧ H p = some (.tup x.2.enc)
theorem PairsAt.keep {W : List Addr} {H H' : Hp} {ts : List Addr} {acc : List (Bool × Stp)} (r : PairsAt H ts acc) (k : Kp W H H') : PairsAt H' ts acc :=
  ⟨r.n, fun i t x h1 h2 => by obtain ⟨p, a, b⟩ := r.e i t x h1 h2; exact ⟨p, k.getT a, k.getT b⟩⟩
theorem PairsAt.nil {H : Hp} : PairsAt H [] [] := ⟨rfl, fun i p s h => by simp at h⟩
theorem PairsAt.push {W : List Addr} {H H' : Hp} {t p : Addr} {ts : List Addr} {acc : List (Bool × Stp)} {g : Bool} {s : Stp} (r : PairsAt H ts acc) (k : Kp W H H') (ht : H' t = some (.tup [.int (hI g), .ref p])) (hp : H' p = some (.tup s.enc)) : PairsAt H' (ts ++ [t]) (acc ++ [(g, s)]) := by
  refine ⟨by simp [r.n], fun i q x h1 h2 => ?_⟩
  by_cases hi : i < ts.length
  · rw [List.getElem?_append_left hi] at h1
    rw [List.getElem?_append_left (by rw [← r.n]; exact hi)] at h2
    exact (r.keep k).e i q x h1 h2
  · rw [List.getElem?_append_right (by omega)] at h1
    rw [List.getElem?_append_right (by rw [← r.n]; omega)] at h2
    have e1 : i - ts.length = 0 := by
      cases z : i - ts.length with
      | zero => rfl
      | succ n => rw [z] at h1; simp at h1
    rw [e1] at h1
    rw [← r.n, e1] at h2
    have a1 : t = q := by simpa using h1
    have a2 : (g, s) = x := by simpa using h2
    subst a1 a2
    exact ⟨p, ht, hp⟩
theorem PairsAt.get {H : Hp} {ts : List Addr} {acc : List (Bool × Stp)} (r : PairsAt H ts acc) {i : Nat} (hi : i < acc.length) : ∃ t p g s, ts[i]? = some t ∧ acc[i]? = some (g, s) ∧ atI (ts.map V.ref) (i : Int) = some (.ref t) ∧ H t = some (.tup [.int (hI g), .ref p]) ∧ H p = some (.tup s.enc) := by
  have hp : i < ts.length := by rw [r.n]; exact hi
  obtain ⟨p, a, b⟩ := r.e i ts[i] acc[i] (List.getElem?_eq_getElem hp) (List.getElem?_eq_getElem hi)
  exact ⟨ts[i], p, acc[i].1, acc[i].2, List.getElem?_eq_getElem hp, List.getElem?_eq_getElem hi, at_of rfl (by rw [List.getElem?_map, List.getElem?_eq_getElem hp]; rfl), a, b⟩
def hit (x y : Bool × Stp) : Prop := x.1 ≠ y.1 ∧ apartS x.2 y.2 = false
def Ahd (acc : List (Bool × Stp)) (h : Bool) : Prop := ∃ (i j : Nat) (x y : Bool × Stp), acc[i]? = some x ∧ acc[j]? = some y ∧ i < j ∧ x.1 = h ∧ hit x y
def Pre (acc : List (Bool × Stp)) (j i : Nat) (h : Bool) : Prop := ∃ (i' j' : Nat) (x y : Bool × Stp), acc[i']? = some x ∧ acc[j']? = some y ∧ i' < j' ∧ (j' < j ∨ (j' = j ∧ i' < i)) ∧ x.1 = h ∧ hit x y
theorem pre_zero {acc : List (Bool × Stp)} {h : Bool} : ¬ Pre acc 0 0 h := fun ⟨_, _, _, _, _, _, _, q, _⟩ => by omega
theorem pre_row {acc : List (Bool × Stp)} {j : Nat} {h : Bool} : Pre acc (j + 1) 0 h ↔ Pre acc j j h := by
  constructor
  · rintro ⟨i', j', x, y, a, b, c, d, e⟩
    exact ⟨i', j', x, y, a, b, c, by omega, e⟩
  · rintro ⟨i', j', x, y, a, b, c, d, e⟩
    exact ⟨i', j', x, y, a, b, c, by omega, e⟩
theorem pre_all {acc : List (Bool × Stp)} {h : Bool} : Pre acc acc.length 0 h ↔ Ahd acc h := by
  constructor
  · rintro ⟨i', j', x, y, a, b, c, d, e⟩
    exact ⟨i', j', x, y, a, b, c, e⟩
  · rintro ⟨i', j', x, y, a, b, c, e⟩
    have := (List.getElem?_eq_some_iff.mp b).1
    exact ⟨i', j', x, y, a, b, c, by omega, e⟩
theorem pre_next {acc : List (Bool × Stp)} {i j : Nat} {h : Bool} {x y : Bool × Stp} (hx : acc[i]? = some x) (hy : acc[j]? = some y) (hij : i < j) : Pre acc j (i + 1) h ↔ Pre acc j i h ∨ (x.1 = h ∧ hit x y) := by
  constructor
  · rintro ⟨i', j', x', y', a, b, c, d, e⟩
    by_cases q : j' = j ∧ i' = i
    · obtain ⟨rfl, rfl⟩ := q
      rw [hx] at a; rw [hy] at b
      cases a; cases b
      exact .inr e
    · exact .inl ⟨i', j', x', y', a, b, c, by omega, e⟩
  · rintro (⟨i', j', x', y', a, b, c, d, e⟩ | e)
    · exact ⟨i', j', x', y', a, b, c, by omega, e⟩
    · exact ⟨i, j, x, y, hx, hy, hij, by omega, e⟩
def Row (acc : List (Bool × Stp)) (y : Bool × Stp) (i : Nat) (h : Bool) : Prop := ∃ (i' : Nat) (x : Bool × Stp), i' < i ∧ acc[i']? = some x ∧ x.1 = h ∧ hit x y
theorem row_next {acc : List (Bool × Stp)} {i : Nat} {h : Bool} {x y : Bool × Stp} (hx : acc[i]? = some x) : Row acc y (i + 1) h ↔ Row acc y i h ∨ (x.1 = h ∧ hit x y) := by
  constructor
  · rintro ⟨i', x', a, b, e⟩
    by_cases q : i' = i
    · subst q
      rw [hx] at b; cases b
      exact .inr e
    · exact .inl ⟨i', x', by omega, b, e⟩
  · rintro (⟨i', x', a, b, e⟩ | e)
    · exact ⟨i', x', by omega, b, e⟩
    · exact ⟨i, x, by omega, hx, e⟩
theorem ahd_snoc {acc : List (Bool × Stp)} {y : Bool × Stp} {h : Bool} : Ahd (acc ++ [y]) h ↔ Ahd acc h ∨ Row acc y acc.length h := by
  constructor
  · rintro ⟨i, j, x, z, a, b, c, e⟩
    have hj := (List.getElem?_eq_some_iff.mp b).1
    rw [List.length_append, List.length_singleton] at hj
    have hi : i < acc.length := by omega
    rw [List.getElem?_append_left hi] at a
    by_cases q : j < acc.length
    · rw [List.getElem?_append_left q] at b
      exact .inl ⟨i, j, x, z, a, b, c, e⟩
    · have ej : j = acc.length := by omega
      subst ej
      have b' : y = z := by simpa using b
      subst b'
      exact .inr ⟨i, x, hi, a, e⟩
  · rintro (⟨i, j, x, z, a, b, c, e⟩ | ⟨i, x, hi, a, e⟩)
    · have hj := (List.getElem?_eq_some_iff.mp b).1
      exact ⟨i, j, x, z, by rw [List.getElem?_append_left (by omega)]; exact a, by rw [List.getElem?_append_left hj]; exact b, c, e⟩
    · exact ⟨i, acc.length, x, y, by rw [List.getElem?_append_left hi]; exact a, by simp, hi, e⟩
theorem ahd_nil {h : Bool} : ¬ Ahd [] h := fun ⟨_, _, _, _, a, _⟩ => by simp at a
/-- one more pair is looked at, and found -/
theorem fnd_yes {f : Bool → Bool} {P P' : Bool → Prop} {x y : Bool × Stp} (hf : ∀ h, f h = true ↔ P h) (hn : ∀ h, P' h ↔ P h ∨ (x.1 = h ∧ hit x y)) (hh : hit x y) : ∀ h, upB f x.1 true h = true ↔ P' h := fun h => by
  rw [hn]
  by_cases e : h = x.1
  · subst e; rw [upB_same]; exact ⟨fun _ => .inr ⟨rfl, hh⟩, fun _ => rfl⟩
  · rw [upB_ne e, hf]; exact ⟨.inl, fun q => q.elim id fun q => absurd q.1.symm e⟩
theorem fnd_no {f : Bool → Bool} {P P' : Bool → Prop} {x y : Bool × Stp} (hf : ∀ h, f h = true ↔ P h) (hn : ∀ h, P' h ↔ P h ∨ (x.1 = h ∧ hit x y)) (hh : ¬ hit x y) : ∀ h, f h = true ↔ P' h := fun h => by
  rw [hn, hf]
  exact ⟨.inl, fun q => q.elim id fun q => absurd q.2 hh⟩
theorem fnd_eq {f g : Bool → Bool} {P : Bool → Prop} (h1 : ∀ h, f h = true ↔ P h) (h2 : ∀ h, g h = true ↔ P h) (h : Bool) : f h = g h := by
  have := (h1 h).trans (h2 h).symm
  cases hf : f h <;> cases hg : g h <;> simp_all
def spStepsBy (er : Err → Addr) : Sp := fun vs H Q E => ∃ (a0 a1 o : Addr) (p0 p1 : List Addr) (r0 r1 : List Stp) (hs : List Bool), vs = [.ref a0, .ref a1, .ref o] ∧ RowAt H a0 p0 r0 ∧ RowAt H a1 p1 r1 ∧ H o = some (.lst (hs2V hs)) ∧ hs.length ≤ 200 ∧
  (∀ H', byOrd (two r0 r1) (fun _ => 0) [] hs = none → Kp [] H H' → E (.ref (er .noTurn)) none H') ∧
  (∀ acc D ts H', byOrd (two r0 r1) (fun _ => 0) [] hs = some acc → acc.length ≤ hs.length → Fre H D → Kp [] H H' → H' D = some (.lst (ts.map V.ref)) → PairsAt H' ts acc → Q (.ref D) H')
def spAhead (er : Err → Addr) : Sp := fun vs H Q E => ∃ (a0 a1 o : Addr) (p0 p1 : List Addr) (r0 r1 : List Stp) (hs : List Bool), vs = [.ref a0, .ref a1, .ref o] ∧ RowAt H a0 p0 r0 ∧ RowAt H a1 p1 r1 ∧ H o = some (.lst (hs2V hs)) ∧ hs.length ≤ 200 ∧
  (∀ H', byOrd (two r0 r1) (fun _ => 0) [] hs = none → Kp [] H H' → E (.ref (er .noTurn)) none H') ∧
  (∀ acc (f : Bool → Bool) p H', byOrd (two r0 r1) (fun _ => 0) [] hs = some acc → (∀ h, f h = true ↔ Ahd acc h) → Fre H p → Kp [] H H' → H' p = some (.tup [.bl (f false), .bl (f true)]) → Q (.ref p) H')
/-- a thing is found by the row -/
theorem RowAt.two {H : Hp} {a0 a1 : Addr} {p0 p1 : List Addr} {r0 r1 : List Stp} (R0 : RowAt H a0 p0 r0) (R1 : RowAt H a1 p1 r1) (g : Bool) : RowAt H (two a0 a1 g) (two p0 p1 g) (two r0 r1 g) := by
  cases g
  · exact R0
  · exact R1
end G
namespace G
open PySem PySem.Spec PyProof.Rows L2
def spApartL : Sp := fun vs H Q _ => ∃ (p q : Addr) (a b : Stp), vs = [.ref p, .ref q] ∧ H p = some (.tup a.enc) ∧ H q = some (.tup b.enc) ∧ ∀ H', Kp [] H H' → Q (.bl (apartS a b)) H'
theorem useApartL {H : Hp} {Q : VK} {E : XK} {p q : Addr} {a b : Stp} (h1 : H p = some (.tup a.enc)) (h2 : H q = some (.tup b.enc)) (k : ∀ H', Kp [] H H' → Q (.bl (apartS a b)) H') : spApartL [.ref p, .ref q] H Q E := ⟨p, q, a, b, rfl, h1, h2, k⟩
def spLawAhead : Sp := fun vs H Q _ => ∃ (a0 a1 o R : Addr) (p0 p1 : List Addr) (r0 r1 : List Stp) (hs : List Bool), vs = [.ref o, .ref R] ∧ H R = some (.lst [.ref a0, .ref a1]) ∧ RowAt H a0 p0 r0 ∧ RowAt H a1 p1 r1 ∧ H o = some (.lst (hs2V hs)) ∧ hs.length ≤ 200 ∧
  (∀ H', byOrd (two r0 r1) (fun _ => 0) [] hs = none → Kp [] H H' → Q .non H') ∧
  (∀ acc (f : Bool → Bool) F H', byOrd (two r0 r1) (fun _ => 0) [] hs = some acc → (∀ h, f h = true ↔ Ahd acc h) → Fre H F → Kp [] H H' → H' F = some (.lst [.bl (f false), .bl (f true)]) → Q (.ref F) H')
theorem up_cast {pl : Bool → Nat} {g : Bool} (h : Bool) : upB (fun b => (pl b : Int)) g ((pl g : Int) + 1) h = ((upB pl g (pl g + 1) h : Nat) : Int) := by unfold upB; split <;> simp
def spNumA : Sp := fun vs H Q _ => ∃ (c : Int), vs = [.int c] ∧ Bt c ∧ ∀ n : Int, Q (.int n) H
theorem useNumA {H : Hp} {Q : VK} {E : XK} {c : Int} (h1 : Bt c) (k : ∀ n : Int, Q (.int n) H) : spNumA [.int c] H Q E := ⟨c, rfl, h1, k⟩
/-- a step that was built -/
def MadeS (H H' : Hp) (p : Addr) (s : Stp) : Prop := Fre H p ∧ Kp [] H H' ∧ H' p = some (.tup s.enc)
def spStep13 : Sp := fun vs H Q _ => ∃ (c : Int), vs = [.int c] ∧ Bt c ∧ ∀ s p H', MadeS H H' p s → Q (.ref p) H'
theorem useStep13 {H : Hp} {Q : VK} {E : XK} {c : Int} (h1 : Bt c) (k : ∀ s p H', MadeS H H' p s → Q (.ref p) H') : spStep13 [.int c] H Q E := ⟨c, rfl, h1, k⟩
def spTold13 : Sp := fun vs H Q _ => ∃ (a0 a1 o : Addr) (p0 p1 : List Addr) (r0 r1 : List Stp) (hs : List Bool), vs = [.ref a0, .ref a1, .ref o] ∧ RowAt H a0 p0 r0 ∧ RowAt H a1 p1 r1 ∧ H o = some (.lst (hs2V hs)) ∧ hs.length ≤ 200 ∧
  (∀ H', byOrd (two r0 r1) (fun _ => 0) [] hs = none → Kp [] H H' → Q (.bl true) H') ∧
  (∀ acc (f : Bool → Bool) p H', byOrd (two r0 r1) (fun _ => 0) [] hs = some acc → (∀ h, f h = true ↔ Ahd acc h) → Fre H p → Kp [] H H' → H' p = some (.tup [.bl (f false), .bl (f true)]) → Q (.ref p) H')
theorem vCnt {K : PySem.W.Frag} {H : Hp} {Q : VK} {p : Addr} {hs : List Bool} {i : Int} (h : SqL K H p (hs2V hs)) (q : Q (.int (((hs.map hI).count i : Nat) : Int)) H) : rCntI K (.ref p) [.int i] H Q := ⟨p, hs.map hI, i, rfl, rfl, by rw [← hs2V_ints]; exact h, q⟩
end G
namespace G
open PySem PySem.Spec PyProof.Rows L2
theorem toBl {Q : VK} {H : Hp} {b c : Bool} (q : Q (.bl c) H) (e : c = b) : Q (.bl b) H := e ▸ q
end G

namespace G
open PySem PySem.Spec PyProof.Rows L2
/-! ### takes and frees by turns -/
def alt : Bool → List Stp → Bool
  | _, [] => true
  | held, s :: r => match s with
    | .take => !held && alt true r
    | .free => held && alt false r
    | _ => alt held r
def heldBy : Bool → List Stp → Bool
  | held, [] => held
  | held, s :: r => match s with
    | .take => heldBy true r
    | .free => heldBy false r
    | _ => heldBy held r
/-- the guard's word behind a held -/
def altOk (held : Bool) (s : Stp) : Bool := match s with
  | .take => !held | .free => held | _ => true
def heldS (held : Bool) (s : Stp) : Bool := match s with
  | .take => true | .free => false | _ => held
theorem alt_cons {held : Bool} {s : Stp} {r : List Stp} : alt held (s :: r) = (altOk held s && alt (heldS held s) r) := by cases s <;> simp [alt, altOk, heldS]
theorem heldBy_cons {held : Bool} {s : Stp} {r : List Stp} : heldBy held (s :: r) = heldBy (heldS held s) r := by cases s <;> simp [heldBy, heldS]
theorem heldS_G {h : Bool} {s : Stp} (e : s.isG = true) : heldS h s = s.isT := by cases s <;> first | rfl | cases e
theorem heldS_N {h : Bool} {s : Stp} (e : s.isG = false) : heldS h s = h := by cases s <;> first | rfl | cases e
theorem alt_snoc : ∀ {r : List Stp} {held : Bool} {s : Stp}, alt held (r ++ [s]) = (alt held r && altOk (heldBy held r) s)
  | [], held, s => by simp [alt_cons, alt, heldBy]
  | x :: r, held, s => by rw [List.cons_append, alt_cons, alt_cons, alt_snoc, heldBy_cons, Bool.and_assoc]
theorem heldBy_snoc : ∀ {r : List Stp} {held : Bool} {s : Stp}, heldBy held (r ++ [s]) = heldS (heldBy held r) s
  | [], held, s => by simp [heldBy_cons, heldBy]
  | x :: r, held, s => by rw [List.cons_append, heldBy_cons, heldBy_cons, heldBy_snoc]
/-- what refuses a step, by the guard's holder -/
def errH (hd : Option Bool) (g : Bool) (s : Stp) : Option Err := match s with
  | .take => if hd = some (!g) then some .waits else if hd = some g then some .again else none
  | .free => if hd = some g then none else some .notHeld
  | _ => none
theorem err_some {S : LS} {g : Bool} {s : Stp} (h : S.next g = some s) : S.err g = errH S.hd g s := by
  unfold LS.err
  rw [h]
  show (if S.waits g = true then some Err.waits else S.gErr g s) = _
  rw [waits_some h]
  cases s <;> simp [Stp.isT, LS.gErr, errH]
def hdS (hd : Option Bool) (g : Bool) (s : Stp) : Option Bool := match s with
  | .take => some g | .free => none | _ => hd
theorem eff_hdS {S : LS} {g : Bool} {s : Stp} : (S.eff g s).hd = hdS S.hd g s := by cases s <;> rfl
/-- each row goes on by turns -/
def Alt (S : LS) : Prop := ∀ h, alt (decide (S.hd = some h)) ((S.rows h).drop (S.pl h)) = true
theorem drop_next {S : LS} {g : Bool} {s : Stp} (h : S.next g = some s) : (S.rows g).drop (S.pl g) = s :: (S.rows g).drop (S.pl g + 1) := drop_get h
theorem Alt.ok {S : LS} (a : Alt S) {g : Bool} {s : Stp} (h : S.next g = some s) : altOk (decide (S.hd = some g)) s = true ∧ alt (heldS (decide (S.hd = some g)) s) ((S.rows g).drop (S.pl g + 1)) = true := by
  have := a g
  rw [drop_next h, alt_cons, Bool.and_eq_true] at this
  exact this
def canB (S : LS) (g : Bool) : Bool := match S.next g with
  | none => false
  | some s => !s.isT || decide (S.hd = none)
theorem Alt.can {S : LS} (a : Alt S) {g : Bool} : canB S g = true ↔ S.err g = none := by
  unfold canB
  cases h : S.next g with
  | none => rw [err_none h]; exact ⟨fun z => Bool.noConfusion z, fun z => by cases z⟩
  | some s =>
    rw [err_some h]
    have := (a.ok h).1
    cases s <;> simp [Stp.isT, errH, altOk] at this ⊢
    · cases hd : S.hd with
      | none => simp
      | some b => rw [hd] at this; cases b <;> cases g <;> simp at this ⊢
    · exact this
theorem canB_next {S : LS} {g : Bool} (h : canB S g = true) : ∃ s, S.next g = some s := by
  unfold canB at h
  cases e : S.next g with
  | none => rw [e] at h; cases h
  | some s => exact ⟨s, rfl⟩
theorem eff_next_ne {S : LS} {g h : Bool} {s : Stp} (n : h ≠ g) : (S.eff g s).next h = S.next h := by
  unfold LS.next
  rw [eff_rows, eff_pl, upB_ne n]
theorem Alt.eff {S : LS} (a : Alt S) {g : Bool} {s : Stp} (e : S.err g = none) (h : S.next g = some s) : Alt (S.eff g s) := fun k => by
  rw [eff_rows, eff_pl, eff_hdS]
  rw [err_some h] at e
  by_cases q : k = g
  · subst q
    rw [upB_same]
    have h2 := (a.ok h).2
    have : decide (hdS S.hd k s = some k) = heldS (decide (S.hd = some k)) s := by cases s <;> first | rfl | simp [hdS, heldS]
    rw [this]; exact h2
  · rw [upB_ne q]
    have h2 := a k
    have : decide (hdS S.hd g s = some k) = decide (S.hd = some k) := by
      have ek : k = !g := by cases k <;> cases g <;> simp_all
      cases s with
      | take =>
        have n2 : ¬ S.hd = some k := by
          intro z
          unfold errH at e
          dsimp only at e
          rw [if_pos (by rw [← ek]; exact z)] at e
          cases e
        rw [decide_eq_false n2]
        exact decide_eq_false fun z => q (Option.some.inj z).symm
      | free =>
        have n2 : ¬ S.hd = some k := by
          intro z
          unfold errH at e
          dsimp only at e
          rw [if_neg (by rw [z]; intro y; exact q (Option.some.inj y))] at e
          cases e
        rw [decide_eq_false n2]
        rfl
      | _ => rfl
    rw [this]; exact h2
theorem Alt.start {r0 r1 : List Stp} {bs : List Int} (h0 : alt false r0 = true) (h1 : alt false r1 = true) : Alt (LS.start (two r0 r1) bs) := fun h => by
  cases h
  · exact h0
  · exact h1
/-! ### two steps that are apart -/
theorem eff_eq {S : LS} {g : Bool} {s : Stp} : S.eff g s = { S.act g s with pl := upB S.pl g (S.pl g + 1) } := by
  show ({ S.act g s with pl := upB (S.act g s).pl g ((S.act g s).pl g + 1) } : LS) = _
  rw [act_pl]
theorem upB_comm {α : Type} {f : Bool → α} {g h : Bool} {x y : α} (n : g ≠ h) : upB (upB f g x) h y = upB (upB f h y) g x := by
  funext k
  unfold upB
  by_cases k1 : k = h
  · have k2 : ¬ k = g := fun z => n (z.symm.trans k1)
    rw [if_pos k1, if_neg k2, if_pos k1]
  · by_cases k2 : k = g
    · rw [if_neg k1, if_pos k2, if_pos k2]
    · rw [if_neg k1, if_neg k2, if_neg k2, if_neg k1]
theorem getD_set_ne {l : List Int} {i j : Nat} {x : Int} (n : i ≠ j) : (l.set i x).getD j 0 = l.getD j 0 := by
  rw [List.getD_eq_getElem?_getD, List.getD_eq_getElem?_getD, List.getElem?_set_ne n]
theorem isB_isG {s t : Stp} (h : s.isB = true) : (s.isG && t.isG) = false := by cases s <;> first | rfl | cases h
theorem act_comm {S : LS} {g : Bool} {s t : Stp} (hs : s.isB = true → 0 ≤ s.arg) (ht : t.isB = true → 0 ≤ t.arg) (ap : apartS s t = true) : (S.act (!g) t).act g s = (S.act g s).act (!g) t := by
  have ng : g ≠ !g := by cases g <;> decide
  have nb : s.isB = true → t.isB = true → s.isS = true ∨ t.isS = true → s.arg.toNat ≠ t.arg.toNat := fun a b c e => by
    have h1 := hs a
    have h2 := ht b
    have e2 : s.arg = t.arg := by omega
    unfold apartS at ap
    rw [if_neg (by rw [isB_isG a]; exact Bool.false_ne_true), if_pos (by rw [a, b, decide_eq_true e2]; rfl)] at ap
    rcases c with c | c <;> rw [c] at ap <;> simp at ap
  cases s <;> cases t <;> first
    | (exfalso; revert ap; simp [apartS, Stp.isG]; done)
    | (simp only [LS.act, LS.box, upB_ne ng, upB_ne ng.symm, upB_comm ng]; done)
    | (simp only [LS.act, LS.box, upB_ne ng, upB_ne ng.symm, upB_comm ng.symm]; done)
    | (have q := nb rfl rfl (by simp [Stp.isS]); simp only [Stp.arg] at q; simp only [LS.act, LS.box, upB_ne ng, upB_ne ng.symm, getD_set_ne q, getD_set_ne q.symm, List.set_comm _ _ q]; done)
def LS.wpl (S : LS) (p : Bool → Nat) : LS := ⟨S.rows, S.boxes, S.num, p, S.hd⟩
theorem eff_wpl {S : LS} {g : Bool} {s : Stp} : S.eff g s = (S.act g s).wpl (upB S.pl g (S.pl g + 1)) := by
  show (⟨(S.act g s).rows, (S.act g s).boxes, (S.act g s).num, upB (S.act g s).pl g ((S.act g s).pl g + 1), (S.act g s).hd⟩ : LS) = _
  rw [act_pl]; rfl
theorem act_wpl {S : LS} {p : Bool → Nat} {g : Bool} {s : Stp} : (S.wpl p).act g s = (S.act g s).wpl p := by cases s <;> rfl
theorem eff_comm {S : LS} {g : Bool} {s t : Stp} (hs : s.isB = true → 0 ≤ s.arg) (ht : t.isB = true → 0 ≤ t.arg) (ap : apartS s t = true) : (S.eff (!g) t).eff g s = (S.eff g s).eff (!g) t := by
  have ng : g ≠ !g := by cases g <;> decide
  have e1 : (S.eff (!g) t).eff g s = ((S.act (!g) t).act g s).wpl (upB (upB S.pl (!g) (S.pl (!g) + 1)) g (S.pl g + 1)) := by
    rw [eff_wpl, eff_pl, eff_wpl, act_wpl, upB_ne ng]; rfl
  have e2 : (S.eff g s).eff (!g) t = ((S.act g s).act (!g) t).wpl (upB (upB S.pl g (S.pl g + 1)) (!g) (S.pl (!g) + 1)) := by
    rw [eff_wpl, eff_pl, eff_wpl, act_wpl, upB_ne ng.symm]; rfl
  rw [e1, e2, act_comm hs ht ap, upB_comm ng]
theorem errH_hd {hd : Option Bool} {g h : Bool} {s t : Stp} (ap : apartS s t = true) : errH (hdS hd g s) h t = errH hd h t := by
  cases s <;> cases t <;> first | rfl | (exfalso; revert ap; simp [apartS, Stp.isG]; done)
theorem LS.Ok.arg {S : LS} (o : S.Ok) {g : Bool} {s : Stp} (h : S.next g = some s) : s.isB = true → 0 ≤ s.arg := fun hB => by
  have := o.box g s (List.mem_of_getElem? h)
  unfold inBox at this
  rw [hB] at this
  simp at this
  exact this.1
/-- two neighbours that are apart, exchanged -/
theorem swap {S : LS} (o : S.Ok) {g : Bool} {s t : Stp} (hs : S.next g = some s) (ht : S.next (!g) = some t) (ap : apartS s t = true) (rest : List Bool) {T : LS} (r : S.run (g :: (!g) :: rest) = .ok T) : S.run ((!g) :: g :: rest) = .ok T := by
  have ng : g ≠ !g := by cases g <;> decide
  have e1 : S.err g = none := by
    cases h : S.err g with
    | none => rfl
    | some x => rw [run_err h] at r; cases r
  rw [run_ok e1 hs] at r
  have ht2 : (S.eff g s).next (!g) = some t := by rw [eff_next_ne ng.symm]; exact ht
  have hs2 : (S.eff (!g) t).next g = some s := by rw [eff_next_ne ng]; exact hs
  have e2 : (S.eff g s).err (!g) = none := by
    cases h : (S.eff g s).err (!g) with
    | none => rfl
    | some x => rw [run_err h] at r; cases r
  rw [run_ok e2 ht2] at r
  have f1 : S.err (!g) = none := by rw [err_some ht2, eff_hdS, errH_hd ap] at e2; rw [err_some ht]; exact e2
  have f2 : (S.eff (!g) t).err g = none := by rw [err_some hs2, eff_hdS, errH_hd (by rw [apartS_comm]; exact ap)]; rw [err_some hs] at e1; exact e1
  rw [run_ok f1 ht, run_ok f2 hs2, eff_comm (o.arg hs) (o.arg ht) ap]
  exact r
theorem run_append : ∀ {a b : List Bool} {S : LS}, S.run (a ++ b) = match S.run a with | .ok T => T.run b | .error e => .error e
  | [], b, S => rfl
  | g :: a, b, S => by
    cases h : S.err g with
    | some e => rw [List.cons_append, run_err h, run_err h]
    | none =>
      obtain ⟨s, hs⟩ := err_next h
      rw [List.cons_append, run_ok h hs, run_ok h hs]
      exact run_append
theorem run_Ok : ∀ {hs : List Bool} {S T : LS}, S.Ok → S.run hs = .ok T → T.Ok
  | [], S, T, o, h => by cases h; exact o
  | g :: hs, S, T, o, h => by
    cases hx : S.err g with
    | some x => rw [run_err hx] at h; cases h
    | none =>
      obtain ⟨s, hs'⟩ := err_next hx
      rw [run_ok hx hs'] at h
      exact run_Ok (o.eff hs') h
end G
namespace G
open PySem PySem.Spec PyProof.Rows L2
/-! ### promises -/
theorem useNeT {H : Hp} {Q : VK} {a : Stp} (q : Q (.bl (!a.isT)) H) : rNe (.str a.word) (.str "take") H Q := vNe rfl (by rw [word_isT]; exact q)
def spStepG : Sp := fun vs H Q _ => ∃ (c many : Int) (held : Bool), vs = [.int c, .int many, .bl held] ∧ Bt c ∧ 0 < many ∧ ∀ s p H', Made H H' many p s → altOk held s = true → Q (.ref p) H'
theorem useStepG {H : Hp} {Q : VK} {E : XK} {c many : Int} {held : Bool} (h1 : Bt c) (h2 : 0 < many) (k : ∀ s p H', Made H H' many p s → altOk held s = true → Q (.ref p) H') : spStepG [.int c, .int many, .bl held] H Q E := ⟨c, many, held, rfl, h1, h2, k⟩
def spRowG8 (K : PySem.W.Frag) : Sp := fun vs H Q _ => ∃ (a : Addr) (ns : List Int) (st : Int) (n : Nat) (many : Int), vs = [.ref a, .int st, .int n, .int many] ∧ SqL K H a (ns.map V.int) ∧ (∀ z ∈ ns, Builtin.Int.intBits z ≤ 1048576) ∧ 0 ≤ st ∧ n ≤ 60 ∧ 0 < many ∧
  ∀ p ps rs H', rs.length = n → (∀ s ∈ rs, inBox many s = true) → alt false rs = true → Fre H p → Kp [] H H' → RowAt H' p ps rs → Q (.ref p) H'
theorem useRowG8 {K : PySem.W.Frag} {H : Hp} {Q : VK} {E : XK} {a : Addr} {ns : List Int} {st m many : Int} (n : Nat) (em : m = (n : Int)) (h1 : SqL K H a (ns.map V.int)) (h2 : ∀ z ∈ ns, Builtin.Int.intBits z ≤ 1048576) (h3 : 0 ≤ st) (h4 : n ≤ 60) (h5 : 0 < many)
    (k : ∀ p ps rs H', rs.length = n → (∀ s ∈ rs, inBox many s = true) → alt false rs = true → Fre H p → Kp [] H H' → RowAt H' p ps rs → Q (.ref p) H') : spRowG8 K [.ref a, .int st, .int m, .int many] H Q E := by
  subst em
  exact ⟨a, ns, st, n, many, rfl, h1, h2, h3, h4, h5, k⟩
theorem canB_eq {S : LS} {g : Bool} : (match S.next g with | none => false | some s => !s.isT || decide (S.hd = none)) = canB S g := rfl
theorem useCanB {H : Hp} {Q : VK} {E : XK} {A : SA} {S : LS} {g : Bool} (L : StandAt H A S) (o : S.Ok) (k : ∀ H', Kp [] H H' → Q (.bl (canB S g)) H') : spCan [.ref A.p, .int (hI g)] H Q E := useCan L o k
def spSame : Sp := fun vs H Q _ => ∃ (a0 a1 b o : Addr) (p0 p1 : List Addr) (r0 r1 : List Stp) (bs : List Int) (hs : List Bool) (A : SA) (S : LS), vs = [.ref a0, .ref a1, .ref b, .ref o, .ref A.p] ∧ RowAt H a0 p0 r0 ∧ RowAt H a1 p1 r1 ∧ H b = some (.lst (bs.map V.int)) ∧ H o = some (.lst (hs2V hs)) ∧ (LS.start (two r0 r1) bs).Ok ∧ StandAt H A S ∧ S.boxes.length ≤ 100 ∧ (LS.start (two r0 r1) bs).run hs = .ok S ∧ ∀ H', Kp [] H H' → Q (.bl true) H'
theorem useSame {H : Hp} {Q : VK} {E : XK} {a0 a1 b o : Addr} {p0 p1 : List Addr} {r0 r1 : List Stp} {bs : List Int} {hs : List Bool} {A : SA} {S : LS} (R0 : RowAt H a0 p0 r0) (R1 : RowAt H a1 p1 r1) (hb : H b = some (.lst (bs.map V.int))) (ho : H o = some (.lst (hs2V hs))) (so : (LS.start (two r0 r1) bs).Ok) (L : StandAt H A S) (lb : S.boxes.length ≤ 100) (r : (LS.start (two r0 r1) bs).run hs = .ok S)
    (k : ∀ H', Kp [] H H' → Q (.bl true) H') : spSame [.ref a0, .ref a1, .ref b, .ref o, .ref A.p] H Q E := ⟨a0, a1, b, o, p0, p1, r0, r1, bs, hs, A, S, rfl, R0, R1, hb, ho, so, L, lb, r, k⟩
/-- range(j), j perhaps below nought -/
theorem vrForRz {σ : St} {H : Hp} {n b c : St → Hp → Prop} {r : VK} {t : TS} {g : TG} {j : Int} (h1 : -1000 ≤ j) (h2 : j ≤ 1000000) (Pv : Nat → St → Hp → Prop) (h0 : Pv 0 σ H)
    (hs : ∀ (i : Nat) σ H, i < j.toNat → Pv i σ H → g (.int (i : Int)) σ H fun σ2 H2 => t ⟨Pv (i + 1), r, n, Pv (i + 1)⟩ σ2 H2) (hd : ∀ σ H, Pv j.toNat σ H → n σ H) : rForR g t ⟨n, r, b, c⟩ σ [.int j] H := by
  refine ⟨j, rfl, by omega, by omega, ?_⟩
  exact for_range (lo := 0) (n := j.toNat) (D := ⟨n, r, b, c⟩) Pv h0 (fun i σ H hi p => by rw [Int.zero_add]; exact hs i σ H hi p) hd
theorem cutV_lo {xs : List V} {k : Nat} (h : k ≤ xs.length) : cutV xs none (some (k : Int)) = xs.take k := by
  unfold cutV
  rw [HT.sIx_nat, HT.sIx_none, List.drop_zero, Nat.sub_zero, Nat.min_eq_left h]
theorem cutV_hi {xs : List V} {k : Nat} (h : k ≤ xs.length) : cutV xs (some (k : Int)) none = xs.drop k := by
  unfold cutV
  rw [HT.sIx_nat, HT.sIx_none, Nat.min_eq_left h]
  exact List.take_of_length_le (by rw [List.length_drop]; omega)
/-- the steps that an order does, by its places -/
def TraceOf (S0 : LS) (hs : List Bool) (ss : List Stp) : Prop := ss.length = hs.length ∧ ∀ (k : Nat) (g : Bool), hs[k]? = some g → ∃ Sk, S0.run (hs.take k) = .ok Sk ∧ Sk.next g = ss[k]?
theorem TraceOf.nil {S0 : LS} : TraceOf S0 [] [] := ⟨rfl, fun k g h => by simp at h⟩
theorem TraceOf.snoc {S0 S : LS} {hs : List Bool} {ss : List Stp} (t : TraceOf S0 hs ss) {g : Bool} {s : Stp} (r : S0.run hs = .ok S) (hn : S.next g = some s) : TraceOf S0 (hs ++ [g]) (ss ++ [s]) := by
  refine ⟨by simp [t.1], fun k h hk => ?_⟩
  by_cases q : k < hs.length
  · rw [List.getElem?_append_left q] at hk
    obtain ⟨Sk, a, b⟩ := t.2 k h hk
    exact ⟨Sk, by rw [List.take_append_of_le_length (by omega)]; exact a, by rw [List.getElem?_append_left (by rw [t.1]; exact q)]; exact b⟩
  · have hl := (List.getElem?_eq_some_iff.mp hk).1
    rw [List.length_append, List.length_singleton] at hl
    have ek : k = hs.length := by omega
    subst ek
    have e : g = h := by simpa using hk
    subst e
    exact ⟨S, by rw [List.take_left]; exact r, by rw [hn, ← t.1]; simp⟩
/-- the order with two neighbours exchanged -/
theorem TraceOf.turned {S0 S : LS} {hs : List Bool} {ss : List Stp} (t : TraceOf S0 hs ss) (o : S0.Ok) (r : S0.run hs = .ok S) {k : Nat} {g h : Bool} {s u : Stp} (h1 : hs[k]? = some g) (h2 : hs[k + 1]? = some h) (n : g ≠ h) (s1 : ss[k]? = some s) (s2 : ss[k + 1]? = some u) (ap : apartS s u = true) :
    S0.run (hs.take k ++ [h, g] ++ hs.drop (k + 2)) = .ok S := by
  have eh : h = !g := by cases g <;> cases h <;> simp_all
  subst eh
  obtain ⟨Sk, a, b⟩ := t.2 k g h1
  obtain ⟨Sl, a2, b2⟩ := t.2 (k + 1) (!g) h2
  rw [s1] at b
  rw [s2] at b2
  have e1 : hs = hs.take k ++ g :: (!g) :: hs.drop (k + 2) := by
    conv => lhs; rw [← List.take_append_drop k hs]
    rw [drop_get h1, drop_get h2]
  have r2 := r
  rw [e1, run_append, a] at r2
  replace r2 : Sk.run (g :: (!g) :: hs.drop (k + 2)) = .ok S := r2
  have ht : hs.take (k + 1) = hs.take k ++ [g] := by rw [List.take_add_one, h1]; rfl
  rw [ht, run_append, a] at a2
  have e0 : Sk.err g = none := by
    cases x : Sk.err g with
    | none => rfl
    | some y => rw [run_err x] at r2; cases r2
  have a3 : Sk.run [g] = .ok Sl := a2
  rw [run_ok e0 b] at a3
  cases a3
  rw [eff_next_ne (by cases g <;> decide)] at b2
  have := swap (run_Ok o a) b b2 ap (hs.drop (k + 2)) r2
  rw [List.append_assoc, run_append, a]
  exact this
end G
namespace G
open PySem PySem.Spec PyProof.Rows L2
/-- what the loop over an order's cells keeps -/
structure LedC (r0 r1 : List Stp) (bs : List Int) (hs : List Bool) (S : LS) : Prop where
  o : S.Ok
  alt : Alt S
  rows : S.rows = two r0 r1
  box : S.boxes.length = bs.length
  run : (LS.start (two r0 r1) bs).run hs = .ok S
theorem LedC.init {r0 r1 : List Stp} {bs : List Int} (o : (LS.start (two r0 r1) bs).Ok) (h0 : G.alt false r0 = true) (h1 : G.alt false r1 = true) : LedC r0 r1 bs [] (LS.start (two r0 r1) bs) := ⟨o, Alt.start h0 h1, rfl, rfl, rfl⟩
theorem LedC.go {r0 r1 : List Stp} {bs : List Int} {hs : List Bool} {S : LS} (d : LedC r0 r1 bs hs S) {g : Bool} {s : Stp} (x : S.err g = none) (hn : S.next g = some s) : LedC r0 r1 bs (hs ++ [g]) (S.eff g s) :=
  ⟨d.o.eff hn, d.alt.eff x hn, by rw [eff_rows]; exact d.rows, by rw [eff_boxes]; exact d.box, by rw [run_snoc g d.run, run_one, stepE_ok x hn]⟩
theorem nin_zofp {Z O x : Addr} {A : SA} (hz : x ≠ Z) (h : x ∉ O :: A.fp) : x ∉ Z :: O :: A.fp := nin_cons hz h
theorem kp_zo {Z O : Addr} {A : SA} {H H1 H2 : Hp} (p : Kp (Z :: O :: A.fp) H H1) (k : Kp [O] H1 H2) : Kp (Z :: O :: A.fp) H H2 := p.step k fun a h => by
  have e : a = O := by simpa using h
  rw [e]; exact .inl (by simp)
theorem kp_zz {Z O : Addr} {A : SA} {H H1 H2 : Hp} (p : Kp (Z :: O :: A.fp) H H1) (k : Kp [Z] H1 H2) : Kp (Z :: O :: A.fp) H H2 := p.step k fun a h => by
  have e : a = Z := by simpa using h
  rw [e]; exact .inl (by simp)
theorem kp_zs {Z O : Addr} {A : SA} {H H1 H2 : Hp} (p : Kp (Z :: O :: A.fp) H H1) (k : Kp A.fp H1 H2) : Kp (Z :: O :: A.fp) H H2 := p.step k fun a h => .inl (List.mem_cons_of_mem _ (List.mem_cons_of_mem _ h))
theorem OrdAp.fwdN {O : Addr} {A : SA} (d : OrdAp O A) {W : List Addr} {H H' : Hp} {o : HO} (k : Kp A.fp H H') (h : H O = some o) : H' O = some o := k.get h d.nin
end G
namespace G
open PySem PySem.Spec PyProof.Rows L2
theorem at_hs {hs : List Bool} {i : Nat} {g : Bool} (h : hs[i]? = some g) : atI (hs2V hs) (i : Int) = some (.int (hI g)) := at_of rfl (by unfold hs2V; rw [List.getElem?_map, h]; rfl)
theorem at_ps {ps : List Addr} {i : Nat} {p : Addr} (h : ps[i]? = some p) : atI (ps.map V.ref) (i : Int) = some (.ref p) := at_of rfl (by rw [List.getElem?_map, h]; rfl)
theorem hs2V_take {hs : List Bool} {i : Nat} : (hs2V hs).take i = hs2V (hs.take i) := by unfold hs2V; rw [List.map_take]
theorem hs2V_drop {hs : List Bool} {i : Nat} : (hs2V hs).drop i = hs2V (hs.drop i) := by unfold hs2V; rw [List.map_drop]
theorem hs2V_app {a b : List Bool} : hs2V a ++ hs2V b = hs2V (a ++ b) := by unfold hs2V; rw [List.map_append]
theorem StpsAt.get {H : Hp} {ps : List Addr} {rs : List Stp} (r : StpsAt H ps rs) {i : Nat} (h : i < rs.length) : ∃ p s, ps[i]? = some p ∧ rs[i]? = some s ∧ H p = some (.tup s.enc) := by
  have hp : i < ps.length := by rw [r.n]; exact h
  exact ⟨ps[i], rs[i], List.getElem?_eq_getElem hp, List.getElem?_eq_getElem h, r.e i _ _ (List.getElem?_eq_getElem hp) (List.getElem?_eq_getElem h)⟩
end G

namespace G
open PySem PySem.Spec PyProof.Rows L2
/-! ### rows that free the guard at their end: always one can go on -/
def Rel (S : LS) : Prop := ∀ h, heldBy (decide (S.hd = some h)) ((S.rows h).drop (S.pl h)) = false
theorem hd_keep {S : LS} {g k : Bool} {s : Stp} (a : Alt S) (e : S.err g = none) (h : S.next g = some s) (q : k ≠ g) : decide (hdS S.hd g s = some k) = decide (S.hd = some k) := by
  rw [err_some h] at e
  have ek : k = !g := by cases k <;> cases g <;> simp_all
  cases s with
  | take =>
    have n2 : ¬ S.hd = some k := by
      intro z
      unfold errH at e
      dsimp only at e
      rw [if_pos (by rw [← ek]; exact z)] at e
      cases e
    rw [decide_eq_false n2]
    exact decide_eq_false fun z => q (Option.some.inj z).symm
  | free =>
    have n2 : ¬ S.hd = some k := by
      intro z
      unfold errH at e
      dsimp only at e
      rw [if_neg (by rw [z]; intro y; exact q (Option.some.inj y))] at e
      cases e
    rw [decide_eq_false n2]
    rfl
  | _ => rfl
theorem Rel.eff {S : LS} (r : Rel S) (a : Alt S) {g : Bool} {s : Stp} (e : S.err g = none) (h : S.next g = some s) : Rel (S.eff g s) := fun k => by
  rw [eff_rows, eff_pl, eff_hdS]
  by_cases q : k = g
  · subst q
    rw [upB_same]
    have h2 := r k
    rw [drop_next h, heldBy_cons] at h2
    have : decide (hdS S.hd k s = some k) = heldS (decide (S.hd = some k)) s := by cases s <;> first | rfl | simp [hdS, heldS]
    rw [this]; exact h2
  · rw [upB_ne q, hd_keep a e h q]
    exact r k
theorem Rel.start {r0 r1 : List Stp} {bs : List Int} (h0 : heldBy false r0 = false) (h1 : heldBy false r1 = false) : Rel (LS.start (two r0 r1) bs) := fun h => by
  cases h
  · exact h0
  · exact h1
theorem canB_no {S : LS} {g : Bool} {s : Stp} (h : S.next g = some s) (c : canB S g = false) : s = .take ∧ S.hd ≠ none := by
  unfold canB at c
  rw [h] at c
  cases s <;> simp [Stp.isT] at c
  exact ⟨rfl, c⟩
theorem progress {S : LS} (a : Alt S) (r : Rel S) (c : ∀ h, canB S h = false) (h : Bool) : S.next h = none := by
  cases e : S.next h with
  | none => rfl
  | some s =>
    exfalso
    obtain ⟨rfl, hn⟩ := canB_no e (c h)
    have h1 := (a.ok e).1
    have n1 : S.hd ≠ some h := fun z => by rw [decide_eq_true z] at h1; cases h1
    have hd : S.hd = some (!h) := hd_other hn n1
    have r2 := r (!h)
    rw [decide_eq_true hd] at r2
    cases e2 : S.next (!h) with
    | none =>
      have : (S.rows (!h)).drop (S.pl (!h)) = [] := List.drop_eq_nil_of_le (List.getElem?_eq_none_iff.mp e2)
      rw [this] at r2
      cases r2
    | some t =>
      obtain ⟨rfl, _⟩ := canB_no e2 (c (!h))
      have h3 := (a.ok e2).1
      rw [decide_eq_true hd] at h3
      cases h3
def left (S : LS) : Nat := ((S.rows false).length - S.pl false) + ((S.rows true).length - S.pl true)
theorem left_eff {S : LS} {g : Bool} {s : Stp} (h : S.next g = some s) : left (S.eff g s) + 1 = left S := by
  have hl := next_lt h
  unfold left
  rw [eff_rows, eff_pl]
  cases g
  · rw [upB_same, upB_ne (by decide)]; omega
  · rw [upB_same, upB_ne (by decide)]; omega
theorem left_zero {S : LS} (h : left S = 0) (o : S.Ok) (g : Bool) : S.pl g = (S.rows g).length := by
  unfold left at h
  have h0 := o.pl false
  have h1 := o.pl true
  cases g <;> omega
theorem next_zero {S : LS} (h : left S = 0) (o : S.Ok) (g : Bool) : S.next g = none := by
  rw [next_none o]
  exact decide_eq_true (left_zero h o g)
theorem left_next {S : LS} (o : S.Ok) (h : ∀ g, S.next g = none) : left S = 0 := by
  have h0 := of_decide_eq_true ((next_none o).mp (h false))
  have h1 := of_decide_eq_true ((next_none o).mp (h true))
  unfold left
  omega
theorem run_left : ∀ {hs : List Bool} {S T : LS}, S.run hs = .ok T → T.rows = S.rows ∧ left T + hs.length = left S
  | [], S, T, h => by cases h; exact ⟨rfl, rfl⟩
  | g :: hs, S, T, h => by
    cases hx : S.err g with
    | some x => rw [run_err hx] at h; cases h
    | none =>
      obtain ⟨s, hs'⟩ := err_next hx
      rw [run_ok hx hs'] at h
      obtain ⟨a, b⟩ := run_left h
      have := left_eff hs'
      exact ⟨a.trans (eff_rows S g s), by rw [List.length_cons]; omega⟩
theorem run_take {hs : List Bool} {S T : LS} (k : Nat) (h : S.run hs = .ok T) : ∃ T', S.run (hs.take k) = .ok T' := by
  rw [← List.take_append_drop k hs, run_append] at h
  cases e : S.run (hs.take k) with
  | ok T' => exact ⟨T', rfl⟩
  | error x => rw [e] at h; cases h
/-! ### the steps of an order that can be done -/
theorem byOrd_run : ∀ {hs : List Bool} {S T : LS} (acc : List (Bool × Stp)) (rest : List Bool), S.run hs = .ok T → ∃ tr, tr.length = hs.length ∧ byOrd S.rows S.pl acc (hs ++ rest) = byOrd S.rows T.pl (acc ++ tr) rest
  | [], S, T, acc, rest, h => by cases h; exact ⟨[], rfl, by rw [List.append_nil]; rfl⟩
  | g :: hs, S, T, acc, rest, h => by
    cases hx : S.err g with
    | some x => rw [run_err hx] at h; cases h
    | none =>
      obtain ⟨s, hs'⟩ := err_next hx
      rw [run_ok hx hs'] at h
      obtain ⟨tr, l, e⟩ := byOrd_run (acc ++ [(g, s)]) rest h
      rw [eff_rows, eff_pl] at e
      refine ⟨(g, s) :: tr, by simp [l], ?_⟩
      rw [List.cons_append, byOrd_some (show (S.rows g)[S.pl g]? = some s from hs'), e, List.append_assoc]
      rfl
theorem byOrd_all {hs : List Bool} {S T : LS} (h : S.run hs = .ok T) : ∃ acc, byOrd S.rows S.pl [] hs = some acc ∧ acc.length = hs.length := by
  obtain ⟨tr, l, e⟩ := byOrd_run [] [] h
  rw [List.append_nil, List.nil_append] at e
  exact ⟨tr, e, l⟩
theorem byOrd_more {hs : List Bool} {S T : LS} (h : S.run hs = .ok T) (g : Bool) (n : T.next g = none) : byOrd S.rows S.pl [] (hs ++ [g]) = none := by
  obtain ⟨tr, l, e⟩ := byOrd_run [] [g] h
  rw [e]
  have hr := (run_left h).1
  exact byOrd_none (by rw [← hr]; exact n)
/-! ### an order in which one hand is not ahead tells what the plain one tells -/
theorem byOrd_acc : ∀ {hs : List Bool} {rows : Bool → List Stp} {pl : Bool → Nat} {acc : List (Bool × Stp)}, byOrd rows pl acc hs = (byOrd rows pl [] hs).map (acc ++ ·)
  | [], rows, pl, acc => by simp [byOrd]
  | g :: hs, rows, pl, acc => by
    cases e : (rows g)[pl g]? with
    | none => rw [byOrd_none e, byOrd_none e]; rfl
    | some s =>
      rw [byOrd_some e, byOrd_some e, byOrd_acc (acc := acc ++ [(g, s)]), byOrd_acc (acc := [] ++ [(g, s)])]
      cases byOrd rows (upB pl g (pl g + 1)) [] hs <;> simp
theorem ahd_cons {acc : List (Bool × Stp)} {x : Bool × Stp} {h : Bool} (n : ¬ Ahd (x :: acc) h) : ¬ Ahd acc h ∧ ∀ y ∈ acc, x.1 = h → ¬ hit x y := by
  refine ⟨fun ⟨i, j, y, z, a, b, c, e⟩ => n ⟨i + 1, j + 1, y, z, by simpa using a, by simpa using b, by omega, e⟩, fun y hy e hh => ?_⟩
  obtain ⟨j, hj⟩ := List.mem_iff_getElem?.mp hy
  exact n ⟨0, j + 1, x, y, rfl, by simpa using hj, by omega, e, hh⟩
/-- b's step is put behind a steps of the other hand -/
theorem move : ∀ (a : Nat) {S T : LS} {b : Bool} {s : Stp} {B : List Bool}, S.Ok → S.next b = some s → (∀ i, i < a → ∀ t, (S.rows (!b))[S.pl (!b) + i]? = some t → apartS s t = true) → S.run (b :: (List.replicate a (!b) ++ B)) = .ok T → S.run (List.replicate a (!b) ++ b :: B) = .ok T
  | 0, S, T, b, s, B, o, hs, ap, r => r
  | a + 1, S, T, b, s, B, o, hs, ap, r => by
    have e1 : S.err b = none := by
      cases h : S.err b with
      | none => rfl
      | some x => rw [run_err h] at r; cases r
    have r2 := r
    rw [List.replicate_succ, List.cons_append] at r2 ⊢
    have r3 := r2
    rw [run_ok e1 hs] at r3
    have nb : (!b) ≠ b := by cases b <;> decide
    have nb2 : b ≠ !b := by cases b <;> decide
    cases ht : S.next (!b) with
    | none =>
      have : (S.eff b s).next (!b) = none := by rw [eff_next_ne nb]; exact ht
      rw [run_err (err_none this)] at r3
      cases r3
    | some t =>
      have apt : apartS s t = true := ap 0 (by omega) t (by rw [Nat.add_zero]; exact ht)
      have r4 := swap o hs ht apt _ r2
      have e2 : S.err (!b) = none := by
        cases h : S.err (!b) with
        | none => rfl
        | some x => rw [run_err h] at r4; cases r4
      rw [run_ok e2 ht] at r4 ⊢
      refine move a (o.eff ht) (by rw [eff_next_ne nb2]; exact hs) (fun i hi u hu => ?_) r4
      rw [eff_rows, eff_pl, upB_same] at hu
      exact ap (i + 1) (by omega) u (by rw [← hu]; congr 1; omega)
theorem byOrd_mem : ∀ {hs : List Bool} {rows : Bool → List Stp} {pl : Bool → Nat} {acc : List (Bool × Stp)} {h : Bool} {i : Nat} {t : Stp}, byOrd rows pl [] hs = some acc → i < hs.count h → (rows h)[pl h + i]? = some t → (h, t) ∈ acc
  | [], rows, pl, acc, h, i, t, e, hi, ht => by simp at hi
  | g :: hs, rows, pl, acc, h, i, t, e, hi, ht => by
    cases q : (rows g)[pl g]? with
    | none => rw [byOrd_none q] at e; cases e
    | some s =>
      rw [byOrd_some q, byOrd_acc] at e
      cases e2 : byOrd rows (upB pl g (pl g + 1)) [] hs with
      | none => rw [e2] at e; cases e
      | some acc' =>
        rw [e2] at e
        have ea : (g, s) :: acc' = acc := by simpa using e
        subst ea
        by_cases hg : h = g
        · subst hg
          cases i with
          | zero =>
            rw [Nat.add_zero, q] at ht
            cases ht
            exact List.mem_cons_self
          | succ i =>
            rw [List.count_cons_self] at hi
            refine List.mem_cons_of_mem _ (byOrd_mem e2 (i := i) (by omega) ?_)
            rw [upB_same, ← ht]; congr 1; omega
        · rw [List.count_cons_of_ne (fun z => hg z.symm)] at hi
          refine List.mem_cons_of_mem _ (byOrd_mem e2 hi ?_)
          rw [upB_ne hg]; exact ht
theorem sort : ∀ {hs : List Bool} {S T : LS} {b : Bool} {acc : List (Bool × Stp)}, S.Ok → S.run hs = .ok T → byOrd S.rows S.pl [] hs = some acc → ¬ Ahd acc b → S.run (List.replicate (hs.count (!b)) (!b) ++ List.replicate (hs.count b) b) = .ok T
  | [], S, T, b, acc, o, r, ac, n => r
  | g :: hs, S, T, b, acc, o, r, ac, n => by
    have e1 : S.err g = none := by
      cases h : S.err g with
      | none => rfl
      | some x => rw [run_err h] at r; cases r
    obtain ⟨s, hs'⟩ := err_next e1
    have r2 := r
    rw [run_ok e1 hs'] at r2
    rw [byOrd_some (show (S.rows g)[S.pl g]? = some s from hs'), byOrd_acc] at ac
    cases e : byOrd S.rows (upB S.pl g (S.pl g + 1)) [] hs with
    | none => rw [e] at ac; cases ac
    | some acc' =>
      rw [e] at ac
      have ea : (g, s) :: acc' = acc := by simpa using ac
      subst ea
      obtain ⟨n1, n2⟩ := ahd_cons n
      have ih := sort (b := b) (o.eff hs') r2 (by rw [eff_rows, eff_pl]; exact e) n1
      by_cases q : g = b
      · subst q
        have c1 : (g :: hs).count (!g) = hs.count (!g) := by rw [List.count_cons_of_ne (by cases g <;> decide)]
        have c2 : (g :: hs).count g = hs.count g + 1 := List.count_cons_self
        rw [c1, c2, List.replicate_succ]
        refine move _ o hs' (fun i hi t ht => ?_) (by rw [run_ok e1 hs']; exact ih)
        have hm : ((!g), t) ∈ acc' := byOrd_mem e hi (by rw [upB_ne (by cases g <;> decide)]; exact ht)
        have := n2 _ hm rfl
        cases hap : apartS s t with
        | true => rfl
        | false => exact absurd ⟨(by intro z; cases g <;> cases z), hap⟩ this
      · have eg : g = !b := by cases g <;> cases b <;> simp_all
        subst eg
        have c1 : ((!b) :: hs).count (!b) = hs.count (!b) + 1 := List.count_cons_self
        have c2 : ((!b) :: hs).count b = hs.count b := by rw [List.count_cons_of_ne (by cases b <;> decide)]
        rw [c1, c2, List.replicate_succ, List.cons_append, run_ok e1 hs']
        exact ih
end G
namespace G
open PySem PySem.Spec PyProof.Rows L2
/-! ### promises -/
def spRowG9 : Sp := fun vs H Q _ => ∃ (a : Addr) (cs : List Int) (many : Int), vs = [.ref a, .int many] ∧ H a = some (.lst (cs.map V.int)) ∧ cs.length ≤ 59 ∧ (∀ c ∈ cs, Bt c) ∧ 0 < many ∧
  ∀ p ps rs H', rs.length ≤ cs.length + 1 → (∀ s ∈ rs, inBox many s = true) → alt false rs = true → heldBy false rs = false → Fre H p → Kp [] H H' → RowAt H' p ps rs → Q (.ref p) H'
theorem useRowG9 {H : Hp} {Q : VK} {E : XK} {a : Addr} {cs : List Int} {many : Int} (h1 : H a = some (.lst (cs.map V.int))) (h2 : cs.length ≤ 59) (h3 : ∀ c ∈ cs, Bt c) (h4 : 0 < many)
    (k : ∀ p ps rs H', rs.length ≤ cs.length + 1 → (∀ s ∈ rs, inBox many s = true) → alt false rs = true → heldBy false rs = false → Fre H p → Kp [] H H' → RowAt H' p ps rs → Q (.ref p) H') : spRowG9 [.ref a, .int many] H Q E := ⟨a, cs, many, rfl, h1, h2, h3, h4, k⟩
def spOrder9 : Sp := fun vs H Q _ => ∃ (c : Addr) (cs : List Int) (ev : Int) (A : SA) (r0 r1 : List Stp) (bs : List Int), vs = [.ref c, .int ev, .ref A.p] ∧ H c = some (.lst (cs.map V.int)) ∧ cs.length ≤ 63 ∧ 0 < ev ∧ StandAt H A (LS.start (two r0 r1) bs) ∧ c ∉ A.fp ∧ (LS.start (two r0 r1) bs).Ok ∧ alt false r0 = true ∧ alt false r1 = true ∧ heldBy false r0 = false ∧ heldBy false r1 = false ∧
  ∀ O hs S H', LedC r0 r1 bs hs S → (∀ g, S.next g = none) → Fre H O → Kp A.fp H H' → StandAt H' A S → H' O = some (.lst (hs2V hs)) → Q (.ref O) H'
def spLawAhead9 : Sp := fun vs H Q _ => ∃ (a0 a1 o R : Addr) (p0 p1 : List Addr) (r0 r1 : List Stp) (hs : List Bool) (acc : List (Bool × Stp)), vs = [.ref o, .ref R] ∧ H R = some (.lst [.ref a0, .ref a1]) ∧ RowAt H a0 p0 r0 ∧ RowAt H a1 p1 r1 ∧ H o = some (.lst (hs2V hs)) ∧ hs.length ≤ 200 ∧ byOrd (two r0 r1) (fun _ => 0) [] hs = some acc ∧
  (∀ (f : Bool → Bool) F H', (∀ h, f h = true ↔ Ahd acc h) → Fre H F → Kp [] H H' → H' F = some (.lst [.bl (f false), .bl (f true)]) → Q (.ref F) H')
def spPair : Sp := fun vs H Q _ => ∃ (p F : Addr) (f g : Bool → Bool), vs = [.ref p, .ref F] ∧ H p = some (.tup [.bl (f false), .bl (f true)]) ∧ H F = some (.lst [.bl (g false), .bl (g true)]) ∧ (∀ h, f h = g h) ∧ Q (.bl true) H
theorem usePair {H : Hp} {Q : VK} {E : XK} {p F : Addr} {f g : Bool → Bool} (h1 : H p = some (.tup [.bl (f false), .bl (f true)])) (h2 : H F = some (.lst [.bl (g false), .bl (g true)])) (h3 : ∀ h, f h = g h) (k : Q (.bl true) H) : spPair [.ref p, .ref F] H Q E := ⟨p, F, f, g, rfl, h1, h2, h3, k⟩
def spMore : Sp := fun vs H Q _ => ∃ (a0 a1 o : Addr) (p0 p1 : List Addr) (r0 r1 : List Stp) (hs : List Bool), vs = [.ref a0, .ref a1, .ref o] ∧ RowAt H a0 p0 r0 ∧ RowAt H a1 p1 r1 ∧ H o = some (.lst (hs2V hs)) ∧ hs.length ≤ 200 ∧ byOrd (two r0 r1) (fun _ => 0) [] hs = none ∧ ∀ H', Kp [] H H' → Q (.bl true) H'
theorem hs_count {r0 r1 : List Stp} {bs : List Int} : ∀ {hs : List Bool} {S T : LS} (g : Bool), S.run hs = .ok T → T.pl g = S.pl g + hs.count g
  | [], S, T, g, h => by cases h; simp
  | x :: hs, S, T, g, h => by
    cases hx : S.err x with
    | some e => rw [run_err hx] at h; cases h
    | none =>
      obtain ⟨s, hs'⟩ := err_next hx
      rw [run_ok hx hs'] at h
      rw [hs_count (r0 := r0) (r1 := r1) (bs := bs) g h, eff_pl]
      by_cases q : g = x
      · subst q; rw [upB_same, List.count_cons_self]; omega
      · rw [upB_ne q, List.count_cons_of_ne (fun z => q z.symm)]
/-- the plain order of two whole rows -/
theorem plain_of {r0 r1 : List Stp} {bs : List Int} {hs : List Bool} {T : LS} {b : Bool} {acc : List (Bool × Stp)} (o : (LS.start (two r0 r1) bs).Ok) (d : LedC r0 r1 bs hs T) (e : ∀ g, T.next g = none) (ac : byOrd (two r0 r1) (fun _ => 0) [] hs = some acc) (n : ¬ Ahd acc b) :
    (LS.start (two r0 r1) bs).run (List.replicate (two r0 r1 (!b)).length (!b) ++ List.replicate (two r0 r1 b).length b) = .ok T := by
  have := sort (b := b) o d.run ac n
  have c : ∀ g, hs.count g = (two r0 r1 g).length := fun g => by
    have h1 := hs_count (r0 := r0) (r1 := r1) (bs := bs) g d.run
    have h2 := of_decide_eq_true ((next_none d.o).mp (e g))
    rw [d.rows] at h2
    rw [← h2, h1]
    show _ = 0 + _
    omega
  rw [c, c] at this
  exact this
end G
namespace G
open PySem PySem.Spec PyProof.Rows L2
/-- what is left of a plain order, row by row -/
def restP (R : Bool → List Stp) (ld : Bool) : Nat → List Bool
  | 0 => List.replicate (R ld).length ld ++ List.replicate (R (!ld)).length (!ld)
  | 1 => List.replicate (R (!ld)).length (!ld)
  | _ => []
theorem restP_step {R : Bool → List Stp} {ld : Bool} {i : Nat} {x : V} (h : [V.int (hI ld), V.int (1 - hI ld)][i]? = some x) : ∃ g, x = .int (hI g) ∧ restP R ld i = List.replicate (R g).length g ++ restP R ld (i + 1) := by
  match i, h with
  | 0, h => cases h; exact ⟨ld, rfl, rfl⟩
  | 1, h => cases h; exact ⟨!ld, by rw [hI_not], by simp [restP]⟩
  | i + 2, h => simp at h
/-- a stand of one's own on its way through a plain order -/
structure PlainAt (H : Hp) (A : SA) (R : Bool → List Stp) (n : Nat) (T : LS) (rest : List Bool) (S : LS) : Prop where
  L : StandAt H A S
  o : S.Ok
  rows : S.rows = R
  box : S.boxes.length = n
  run : S.run rest = .ok T
theorem PlainAt.keep0 {H H' : Hp} {A : SA} {R : Bool → List Stp} {n : Nat} {T S : LS} {rest : List Bool} (p : PlainAt H A R n T rest S) (k : Kp [] H H') : PlainAt H' A R n T rest S := ⟨p.L.keep0 k, p.o, p.rows, p.box, p.run⟩
theorem PlainAt.err {H : Hp} {A : SA} {R : Bool → List Stp} {n : Nat} {T S : LS} {g : Bool} {rest : List Bool} (p : PlainAt H A R n T (g :: rest) S) : S.err g = none := by
  cases h : S.err g with
  | none => rfl
  | some x => have := p.run; rw [run_err h] at this; cases this
theorem PlainAt.go {H H' : Hp} {A : SA} {R : Bool → List Stp} {n : Nat} {T S : LS} {g : Bool} {rest : List Bool} (p : PlainAt H A R n T (g :: rest) S) {s : Stp} (hn : S.next g = some s) (L : StandAt H' A (S.eff g s)) : PlainAt H' A R n T rest (S.eff g s) :=
  ⟨L, p.o.eff hn, by rw [eff_rows]; exact p.rows, by rw [eff_boxes]; exact p.box, by rw [← run_ok p.err hn]; exact p.run⟩
theorem PlainAt.done {H : Hp} {A : SA} {R : Bool → List Stp} {n : Nat} {T S : LS} (p : PlainAt H A R n T [] S) : S = T := by
  have := p.run
  cases this
  rfl
end G

namespace G
open PySem PySem.Spec PyProof.Rows L2
/-! ### weaving by turns -/
def goesB (S : LS) (g : Bool) : Bool := !S.over g && !S.waits g
theorem goes_next {S : LS} (o : S.Ok) {g : Bool} (h : goesB S g = true) : ∃ s, S.next g = some s ∧ S.err g = S.gErr g s := by
  unfold goesB at h
  rw [Bool.and_eq_true] at h
  obtain ⟨s, hs⟩ := next_some (S := S) o (h := g) (by simpa using h.1)
  exact ⟨s, hs, err_g hs (by simpa using h.2)⟩
theorem gErr2 {S : LS} {g : Bool} {s : Stp} {e : Err} (h : S.gErr g s = some e) : e = .again ∨ e = .notHeld := by
  cases s <;> simp only [LS.gErr] at h <;> (try cases h)
  · split at h
    · cases h; exact .inl rfl
    · cases h
  · split at h
    · cases h
    · cases h; exact .inr rfl
/-- a hand goes on as far as it can -/
inductive Far : LS → Bool → List Bool → Except Err (LS × List Bool) → Prop
  | stop {S : LS} {h : Bool} {o : List Bool} : goesB S h = false → Far S h o (.ok (S, o))
  | err {S : LS} {h : Bool} {o : List Bool} {e : Err} : goesB S h = true → S.err h = some e → Far S h o (.error e)
  | go {S : LS} {h : Bool} {o : List Bool} {s : Stp} {r : Except Err (LS × List Bool)} : goesB S h = true → S.err h = none → S.next h = some s → Far (S.eff h s) h (o ++ [h]) r → Far S h o r
/-- the first hand, then the second one, and so on -/
inductive Rounds : LS → List Bool → Except Err (LS × List Bool) → Prop
  | done {S : LS} {o : List Bool} : S.over false = true → S.over true = true → Rounds S o (.ok (S, o))
  | stuck {S : LS} {o : List Bool} : (S.over false && S.over true) = false → goesB S false = false → goesB S true = false → Rounds S o (.error .stuck)
  | err0 {S : LS} {o : List Bool} {e : Err} : (goesB S false || goesB S true) = true → Far S false o (.error e) → Rounds S o (.error e)
  | err1 {S S1 : LS} {o o1 : List Bool} {e : Err} : (goesB S false || goesB S true) = true → Far S false o (.ok (S1, o1)) → Far S1 true o1 (.error e) → Rounds S o (.error e)
  | step {S S1 S2 : LS} {o o1 o2 : List Bool} {r : Except Err (LS × List Bool)} : (goesB S false || goesB S true) = true → Far S false o (.ok (S1, o1)) → Far S1 true o1 (.ok (S2, o2)) → Rounds S2 o2 r → Rounds S o r
/-- the turns, then the rounds -/
inductive Weave : LS → List Bool → List Bool → Except Err (LS × List Bool) → Prop
  | rest {S : LS} {o : List Bool} {r : Except Err (LS × List Bool)} : Rounds S o r → Weave S o [] r
  | pass {S : LS} {o : List Bool} {h : Bool} {ts : List Bool} {r : Except Err (LS × List Bool)} : goesB S h = false → Weave S o ts r → Weave S o (h :: ts) r
  | err {S : LS} {o : List Bool} {h : Bool} {ts : List Bool} {e : Err} : goesB S h = true → S.err h = some e → Weave S o (h :: ts) (.error e)
  | go {S : LS} {o : List Bool} {h : Bool} {ts : List Bool} {s : Stp} {r : Except Err (LS × List Bool)} : goesB S h = true → S.err h = none → S.next h = some s → Weave (S.eff h s) (o ++ [h]) ts r → Weave S o (h :: ts) r
theorem Far.det {S : LS} {h : Bool} {o : List Bool} {r : Except Err (LS × List Bool)} (f : Far S h o r) : ∀ {r'}, Far S h o r' → r = r' := by
  induction f with
  | stop g => intro r' f'; cases f' with
    | stop _ => rfl
    | err g' _ => rw [g] at g'; cases g'
    | go g' _ _ _ => rw [g] at g'; cases g'
  | err g e => intro r' f'; cases f' with
    | stop g' => rw [g] at g'; cases g'
    | err _ e' => rw [e] at e'; cases e'; rfl
    | go _ e' _ _ => rw [e] at e'; cases e'
  | go g e n _ ih => intro r' f'; cases f' with
    | stop g' => rw [g] at g'; cases g'
    | err _ e' => rw [e] at e'; cases e'
    | go _ _ n' f' => rw [n] at n'; cases n'; exact ih f'
theorem over_goes {S : LS} {g : Bool} (h : S.over g = true) : goesB S g = false := by unfold goesB; rw [h]; rfl
theorem Rounds.det {S : LS} {o : List Bool} {r : Except Err (LS × List Bool)} (f : Rounds S o r) : ∀ {r'}, Rounds S o r' → r = r' := by
  induction f with
  | @done S o a b =>
    intro r' f'
    have g0 := over_goes a
    have g1 := over_goes b
    cases f' with
    | done _ _ => rfl
    | stuck a' _ _ => rw [a, b] at a'; cases a'
    | err0 g _ => rw [g0, g1] at g; cases g
    | err1 g _ _ => rw [g0, g1] at g; cases g
    | step g _ _ _ => rw [g0, g1] at g; cases g
  | @stuck S o a g0 g1 =>
    intro r' f'
    cases f' with
    | done a' b' => rw [a', b'] at a; cases a
    | stuck _ _ _ => rfl
    | err0 g _ => rw [g0, g1] at g; cases g
    | err1 g _ _ => rw [g0, g1] at g; cases g
    | step g _ _ _ => rw [g0, g1] at g; cases g
  | @err0 S o e g f0 =>
    intro r' f'
    cases f' with
    | done a b => rw [over_goes a, over_goes b] at g; cases g
    | stuck _ g0 g1 => rw [g0, g1] at g; cases g
    | err0 _ f0' => exact (by cases f0.det f0'; rfl)
    | err1 _ f0' _ => cases f0.det f0'
    | step _ f0' _ _ => cases f0.det f0'
  | @err1 S S1 o o1 e g f0 f1 =>
    intro r' f'
    cases f' with
    | done a b => rw [over_goes a, over_goes b] at g; cases g
    | stuck _ g0 g1 => rw [g0, g1] at g; cases g
    | err0 _ f0' => cases f0.det f0'
    | err1 _ f0' f1' => cases f0.det f0'; cases f1.det f1'; rfl
    | step _ f0' f1' _ => cases f0.det f0'; cases f1.det f1'
  | @step S S1 S2 o o1 o2 r g f0 f1 _ ih =>
    intro r' f'
    cases f' with
    | done a b => rw [over_goes a, over_goes b] at g; cases g
    | stuck _ g0 g1 => rw [g0, g1] at g; cases g
    | err0 _ f0' => cases f0.det f0'
    | err1 _ f0' f1' => cases f0.det f0'; cases f1.det f1'
    | step _ f0' f1' f2' => cases f0.det f0'; cases f1.det f1'; exact ih f2'
theorem Weave.det {S : LS} {o ts : List Bool} {r : Except Err (LS × List Bool)} (f : Weave S o ts r) : ∀ {r'}, Weave S o ts r' → r = r' := by
  induction f with
  | rest f => intro r' f'; cases f' with
    | rest f' => exact f.det f'
  | pass g _ ih => intro r' f'; cases f' with
    | pass _ f' => exact ih f'
    | err g' _ => rw [g] at g'; cases g'
    | go g' _ _ _ => rw [g] at g'; cases g'
  | err g e => intro r' f'; cases f' with
    | pass g' _ => rw [g] at g'; cases g'
    | err _ e' => rw [e] at e'; cases e'; rfl
    | go _ e' _ _ => rw [e] at e'; cases e'
  | go g e n _ ih => intro r' f'; cases f' with
    | pass g' _ => rw [g] at g'; cases g'
    | err _ e' => rw [e] at e'; cases e'
    | go _ _ n' f' => rw [n] at n'; cases n'; exact ih f'
/-- what is done by going far: the order is as much longer as the rest is shorter -/
theorem Far.len {S : LS} {h : Bool} {o : List Bool} {r : Except Err (LS × List Bool)} (f : Far S h o r) : ∀ {S1 o1}, r = .ok (S1, o1) → G.left S1 + o1.length = G.left S + o.length ∧ o.length ≤ o1.length ∧ (goesB S h = true → o.length < o1.length) := by
  induction f with
  | stop g => intro S1 o1 e; cases e; exact ⟨rfl, Nat.le_refl _, fun g' => by rw [g] at g'; cases g'⟩
  | err g e => intro S1 o1 e'; cases e'
  | go g e n _ ih =>
    intro S1 o1 e'
    obtain ⟨a, b, _⟩ := ih e'
    have hl := left_eff n
    rw [List.length_append, List.length_singleton] at a b
    exact ⟨by omega, by omega, fun _ => by omega⟩
theorem over_of {S : LS} (o : S.Ok) {g : Bool} (h : left S = 0) : S.over g = true := decide_eq_true (left_zero h o g)
theorem over_left {S : LS} (h0 : S.over false = true) (h1 : S.over true = true) : left S = 0 := by
  have a := of_decide_eq_true h0
  have b := of_decide_eq_true h1
  unfold left
  omega
/-! ### promises -/
def spGoes (C : Addr) : Sp := fun vs H Q _ => ∃ (A : LA) (S : LS) (g : Bool), vs = [.ref A.p, .int (hI g)] ∧ LoomAt C H A S ∧ S.Ok ∧ Q (.bl (goesB S g)) H
theorem useGoes {C : Addr} {H : Hp} {Q : VK} {E : XK} {A : LA} {S : LS} {g : Bool} (L : LoomAt C H A S) (o : S.Ok) (k : Q (.bl (goesB S g)) H) : spGoes C [.ref A.p, .int (hI g)] H Q E := ⟨A, S, g, rfl, L, o, k⟩
theorem useGoes0 {C : Addr} {H : Hp} {Q : VK} {E : XK} {A : LA} {S : LS} (L : LoomAt C H A S) (o : S.Ok) (k : Q (.bl (goesB S false)) H) : spGoes C [.ref A.p, .int 0] H Q E := useGoes (g := false) L o k
theorem useGoes1 {C : Addr} {H : Hp} {Q : VK} {E : XK} {A : LA} {S : LS} (L : LoomAt C H A S) (o : S.Ok) (k : Q (.bl (goesB S true)) H) : spGoes C [.ref A.p, .int 1] H Q E := useGoes (g := true) L o k
def spWoven (er : Err → Addr) : Sp := fun vs H Q E => ∃ (a0 a1 b t : Addr) (x0 x1 : List V) (c0 c1 : List Thg) (bs : List Int) (ts : List Bool), vs = [.ref a0, .ref a1, .ref b, .ref t] ∧ H a0 = some (.lst x0) ∧ H a1 = some (.lst x1) ∧ ThRow H x0 c0 ∧ ThRow H x1 c1 ∧ H b = some (.lst (bs.map V.int)) ∧ H t = some (.lst (hs2V ts)) ∧
  (∀ e H', loomErr c0 c1 bs.length = some e → Kp [] H H' → E (.ref (er e)) none H') ∧
  (loomErr c0 c1 bs.length = none → ∀ r0 r1, c0 = r0.map (fun s => some s.enc) → c1 = r1.map (fun s => some s.enc) → (LS.start (two r0 r1) bs).Ok →
    (∀ e H', Weave (LS.start (two r0 r1) bs) [] ts (.error e) → (e = .again ∨ e = .notHeld ∨ e = .stuck) → Kp [] H H' → E (.ref (er e)) none H') ∧
    (∀ S o p l n w H', Weave (LS.start (two r0 r1) bs) [] ts (.ok (S, o)) → S.boxes.length = bs.length → o.length ≤ 120 → Fre H p → Fre H l → Fre H n → Fre H w → l ≠ n → l ≠ w → n ≠ w → Kp [] H H' → H' p = some (.tup [.ref l, .ref n, .ref w]) → H' l = some (.lst (S.boxes.map V.int)) → H' n = some (.lst [.int (S.num false), .int (S.num true)]) → H' w = some (.lst (hs2V o)) → Q (.ref p) H'))
theorem useWoven {er : Err → Addr} {H : Hp} {Q : VK} {E : XK} {a0 a1 b t : Addr} {p0 p1 : List Addr} {r0 r1 : List Stp} {bs : List Int} {ts : List Bool} (R0 : RowAt H a0 p0 r0) (R1 : RowAt H a1 p1 r1) (hb : H b = some (.lst (bs.map V.int))) (ht : H t = some (.lst (hs2V ts))) (k : (LS.start (two r0 r1) bs).Ok)
    (ke : ∀ e H', Weave (LS.start (two r0 r1) bs) [] ts (.error e) → (e = .again ∨ e = .notHeld ∨ e = .stuck) → Kp [] H H' → E (.ref (er e)) none H')
    (kq : ∀ S o p l n w H', Weave (LS.start (two r0 r1) bs) [] ts (.ok (S, o)) → S.boxes.length = bs.length → o.length ≤ 120 → Fre H p → Fre H l → Fre H n → Fre H w → l ≠ n → l ≠ w → n ≠ w → Kp [] H H' → H' p = some (.tup [.ref l, .ref n, .ref w]) → H' l = some (.lst (S.boxes.map V.int)) → H' n = some (.lst [.int (S.num false), .int (S.num true)]) → H' w = some (.lst (hs2V o)) → Q (.ref p) H') :
    spWoven er [.ref a0, .ref a1, .ref b, .ref t] H Q E :=
  ⟨a0, a1, b, t, _, _, _, _, bs, ts, rfl, R0.l, R1.l, R0.th, R1.th, hb, ht, fun e H' he _ => absurd (he.symm.trans ((loomErr_1 (c1 := r1.map fun s => some s.enc) (show needC (r0.map fun s => some s.enc) bs.length = none from ok_needC k false)).trans (ok_needC k true))) (by intro z; cases z), fun _ q0 q1 e0 e1 _ => by
    have f0 := rows_inj e0
    have f1 := rows_inj e1
    subst f0 f1
    exact ⟨ke, kq⟩⟩
/-- a loom that is led on, its order beside it -/
structure LoomO (C : Addr) (H0 H : Hp) (A : LA) (O : Addr) (rows : Bool → List Stp) (n : Nat) (S : LS) (o : List Bool) : Prop where
  kp : Kp (O :: A.fp) H0 H
  L : LoomAt C H A S
  ok : S.Ok
  ord : H O = some (.lst (hs2V o))
  rws : S.rows = rows
  box : S.boxes.length = n
  len : left S + o.length ≤ 120
theorem LoomO.hz {C : Addr} {H0 H : Hp} {A : LA} {O : Addr} {rows : Bool → List Stp} {n : Nat} {S : LS} {o : List Bool} (l : LoomO C H0 H A O rows n S o) : (hs2V o).length < sizeLine := len_lt (by rw [hs2V_len]; have := l.len; omega)
/-- a step more, and its hand in the order -/
theorem LoomO.go {C : Addr} {H0 H H1 H2 : Hp} {A : LA} {O : Addr} {rows : Bool → List Stp} {n : Nat} {S : LS} {o : List Bool} (l : LoomO C H0 H A O rows n S o) (dO : O ∉ A.fp) (dr : ∀ x, x = A.p ∨ x = A.r ∨ x = A.b ∨ x = A.n ∨ x = A.q ∨ x = A.row false ∨ x = A.row true → x ≠ O) {g : Bool} {s : Stp} (hn : S.next g = some s) (k : Kp A.fp H H1) (L : LoomAt C H1 A (S.eff g s)) (k2 : Kp [O] H1 H2) (e : H2 O = some (.lst (hs2V o ++ [.int (hI g)]))) : LoomO C H0 H2 A O rows n (S.eff g s) (o ++ [g]) := by
  have nn : ∀ {x}, x ≠ O → x ∉ [O] := fun {x} h => by simpa using h
  refine ⟨(l.kp.step k fun a h => .inl (List.mem_cons_of_mem _ h)).step k2 fun a h => ?_, L.keep k2 (nn (dr _ (by simp))) (nn (dr _ (by simp))) (fun h => by cases h <;> exact nn (dr _ (by simp))) (nn (dr _ (by simp))) (nn (dr _ (by simp))) (nn (dr _ (by simp))), l.ok.eff hn, by rw [← hs2V_snoc]; exact e, by rw [eff_rows]; exact l.rws, by rw [eff_boxes]; exact l.box, ?_⟩
  · have e : a = O := by simpa using h
    rw [e]; exact .inl List.mem_cons_self
  · have := l.len
    have := left_eff hn
    rw [List.length_append, List.length_singleton]
    omega
/-- what may follow -/
def Fol (S0 : LS) (ts : List Bool) (S : LS) (o : List Bool) : Prop := ∀ r, Rounds S o r → Weave S0 [] ts r
def Fol1 (S0 : LS) (ts : List Bool) (S : LS) (o : List Bool) : Prop := (∀ e, Far S true o (.error e) → Weave S0 [] ts (.error e)) ∧ ∀ S2 o2, Far S true o (.ok (S2, o2)) → Fol S0 ts S2 o2
def FolX (S0 : LS) (ts : List Bool) : Nat → LS → List Bool → Prop
  | 0, S, o => (∀ e, Far S false o (.error e) → Weave S0 [] ts (.error e)) ∧ ∀ S2 o2, Far S false o (.ok (S2, o2)) → Fol1 S0 ts S2 o2
  | 1, S, o => Fol1 S0 ts S o
  | _, S, o => Fol S0 ts S o
theorem FolX.of {S0 S : LS} {ts o : List Bool} (f : Fol S0 ts S o) (g : (goesB S false || goesB S true) = true) : FolX S0 ts 0 S o :=
  ⟨fun e h => f _ (.err0 g h), fun S1 o1 h => ⟨fun e h1 => f _ (.err1 g h h1), fun S2 o2 h1 r hr => f r (.step g h h1 hr)⟩⟩
/-- at hand i: the ends of going far -/
theorem FolX.far {S0 S : LS} {ts o : List Bool} {i : Nat} {g : Bool} (hi : (i = 0 ∧ g = false) ∨ (i = 1 ∧ g = true)) (f : FolX S0 ts i S o) : (∀ e, Far S g o (.error e) → Weave S0 [] ts (.error e)) ∧ ∀ S2 o2, Far S g o (.ok (S2, o2)) → FolX S0 ts (i + 1) S2 o2 := by
  rcases hi with ⟨rfl, rfl⟩ | ⟨rfl, rfl⟩
  · exact f
  · exact f
def FarF (S0 : LS) (ts : List Bool) (i : Nat) (g : Bool) (S : LS) (o : List Bool) : Prop := (∀ e, Far S g o (.error e) → Weave S0 [] ts (.error e)) ∧ ∀ S2 o2, Far S g o (.ok (S2, o2)) → FolX S0 ts (i + 1) S2 o2
theorem FarF.go {S0 S : LS} {ts o : List Bool} {i : Nat} {g : Bool} (f : FarF S0 ts i g S o) (h : goesB S g = true) (e : S.err g = none) {s : Stp} (n : S.next g = some s) : FarF S0 ts i g (S.eff g s) (o ++ [g]) := ⟨fun x hx => f.1 x (.go h e n hx), fun S2 o2 h2 => f.2 S2 o2 (.go h e n h2)⟩
theorem FarF.stop {S0 S : LS} {ts o : List Bool} {i : Nat} {g : Bool} (f : FarF S0 ts i g S o) (h : goesB S g = false) : FolX S0 ts (i + 1) S o := f.2 S o (.stop h)
theorem FarF.err {S0 S : LS} {ts o : List Bool} {i : Nat} {g : Bool} (f : FarF S0 ts i g S o) (h : goesB S g = true) {e : Err} (x : S.err g = some e) : Weave S0 [] ts (.error e) := f.1 e (.err h x)
end G
namespace G
open PySem PySem.Spec PyProof.Rows L2
theorem whTest {tc : TT} {σ : St} {H : Hp} {F : Bool → Hp → Prop} (b : Bool) (h : ∀ G : Bool → Hp → Prop, G b H → tc σ H G) (k : F b H) : tc σ H F := h F k
theorem LoomO.keep0 {C : Addr} {H0 H H1 : Hp} {A : LA} {O : Addr} {rows : Bool → List Stp} {n : Nat} {S : LS} {o : List Bool} (l : LoomO C H0 H A O rows n S o) (k : Kp [] H H1) : LoomO C H0 H1 A O rows n S o := ⟨l.kp.step0 k, l.L.keep0 k, l.ok, k.get0 l.ord, l.rws, l.box, l.len⟩
/-- what a round has done so far -/
def Prog (S : LS) (o : List Bool) : Nat → LS → List Bool → Prop
  | 0, S', o' => S' = S ∧ o' = o
  | 1, S', o' => o.length < o'.length ∨ (S' = S ∧ o' = o ∧ goesB S true = true)
  | _, S', o' => o.length < o'.length
theorem Prog.next {S S1 S2 : LS} {o o1 o2 : List Bool} {i : Nat} {g : Bool} (hi : (i = 0 ∧ g = false) ∨ (i = 1 ∧ g = true)) (hg : (goesB S false || goesB S true) = true) (p : Prog S o i S1 o1) (hend : goesB S2 g = false) (h : (S2 = S1 ∧ o2 = o1) ∨ o1.length < o2.length) : Prog S o (i + 1) S2 o2 := by
  rcases hi with ⟨rfl, rfl⟩ | ⟨rfl, rfl⟩
  · obtain ⟨rfl, rfl⟩ := p
    rcases h with ⟨rfl, rfl⟩ | h
    · rw [hend] at hg
      exact .inr ⟨rfl, rfl, hg⟩
    · exact .inl h
  · rcases p with p | ⟨rfl, rfl, g1⟩
    · rcases h with ⟨rfl, rfl⟩ | h
      · exact p
      · exact (Nat.lt_trans p h : o.length < o2.length)
    · rcases h with ⟨rfl, rfl⟩ | h
      · rw [hend] at g1; cases g1
      · exact h
theorem hand01 {i : Nat} {x : V} (h : [V.int 0, V.int 1][i]? = some x) : ∃ g, x = .int (hI g) ∧ ((i = 0 ∧ g = false) ∨ (i = 1 ∧ g = true)) := by
  match i, h with
  | 0, h => cases h; exact ⟨false, rfl, .inl ⟨rfl, rfl⟩⟩
  | 1, h => cases h; exact ⟨true, rfl, .inr ⟨rfl, rfl⟩⟩
  | i + 2, h => simp at h
end G

namespace G
open PySem PySem.Spec PyProof.Rows L2
/-! ### weaving rows that go by turns and free the guard: it ends, and the order can be done -/
theorem goes_err {S : LS} (a : Alt S) (o : S.Ok) {g : Bool} (h : goesB S g = true) : S.err g = none := by
  obtain ⟨s, hs, e⟩ := goes_next o h
  rw [e]
  have ak := (a.ok hs).1
  cases s with
  | take =>
    have n1 : S.hd ≠ some g := fun z => by rw [decide_eq_true z] at ak; cases ak
    exact if_neg n1
  | free => exact if_pos (of_decide_eq_true ak)
  | _ => rfl
theorem goes_can {S : LS} (a : Alt S) (o : S.Ok) {g : Bool} (h : goesB S g = false) : canB S g = false := by
  cases c : canB S g with
  | false => rfl
  | true =>
    obtain ⟨s, hs⟩ := canB_next c
    have e := a.can.mp c
    have hv : S.over g = false := by
      cases v : S.over g with
      | false => rfl
      | true => rw [(next_none o).mpr v] at hs; cases hs
    have hw : S.waits g = false := by
      cases w : S.waits g with
      | false => rfl
      | true => rw [err_waits hs w] at e; cases e
    unfold goesB at h
    rw [hv, hw] at h
    cases h
theorem Alt.runA : ∀ {hs : List Bool} {S T : LS}, Alt S → S.run hs = .ok T → Alt T
  | [], S, T, a, h => by cases h; exact a
  | g :: hs, S, T, a, h => by
    cases hx : S.err g with
    | some x => rw [run_err hx] at h; cases h
    | none =>
      obtain ⟨s, hs'⟩ := err_next hx
      rw [run_ok hx hs'] at h
      exact Alt.runA (a.eff hx hs') h
theorem Rel.runR : ∀ {hs : List Bool} {S T : LS}, Rel S → Alt S → S.run hs = .ok T → Rel T
  | [], S, T, r, a, h => by cases h; exact r
  | g :: hs, S, T, r, a, h => by
    cases hx : S.err g with
    | some x => rw [run_err hx] at h; cases h
    | none =>
      obtain ⟨s, hs'⟩ := err_next hx
      rw [run_ok hx hs'] at h
      exact Rel.runR (r.eff a hx hs') (a.eff hx hs') h
theorem Far.run {S : LS} {h : Bool} {o : List Bool} {r : Except Err (LS × List Bool)} (f : Far S h o r) : Alt S → S.Ok → ∃ S1 o1, r = .ok (S1, o ++ o1) ∧ S.run o1 = .ok S1 := by
  induction f with
  | @stop S h o g => intro a ok; exact ⟨S, [], by rw [List.append_nil], rfl⟩
  | err g e => intro a ok; rw [goes_err a ok g] at e; cases e
  | @go S h o s r g e n _ ih =>
    intro a ok
    obtain ⟨S1, o1, e1, e2⟩ := ih (a.eff e n) (ok.eff n)
    exact ⟨S1, h :: o1, by rw [e1, List.append_assoc]; rfl, by rw [run_ok e n]; exact e2⟩
theorem run_app {S T U : LS} {a b : List Bool} (h1 : S.run a = .ok T) (h2 : T.run b = .ok U) : S.run (a ++ b) = .ok U := by
  rw [run_append, h1]; exact h2
theorem Rounds.run {S : LS} {o : List Bool} {r : Except Err (LS × List Bool)} (f : Rounds S o r) : Alt S → Rel S → S.Ok → ∃ S1 o1, r = .ok (S1, o ++ o1) ∧ S.run o1 = .ok S1 ∧ ∀ g, S1.next g = none := by
  induction f with
  | @done S o h0 h1 => intro a rl ok; exact ⟨S, [], by rw [List.append_nil], rfl, fun g => by cases g <;> exact (next_none ok).mpr (by assumption)⟩
  | @stuck S o hv g0 g1 =>
    intro a rl ok
    exfalso
    have pn := progress a rl fun h => by
      cases h
      · exact goes_can a ok g0
      · exact goes_can a ok g1
    rw [(next_none ok).mp (pn false), (next_none ok).mp (pn true)] at hv
    cases hv
  | err0 g f0 => intro a rl ok; obtain ⟨S1, o1, e, _⟩ := f0.run a ok; cases e
  | err1 g f0 f1 =>
    intro a rl ok
    obtain ⟨T1, p1, e, r1⟩ := f0.run a ok
    cases e
    obtain ⟨T2, p2, e, _⟩ := f1.run (a.runA r1) (run_Ok ok r1)
    cases e
  | step g f0 f1 _ ih =>
    intro a rl ok
    obtain ⟨T1, p1, e, r1⟩ := f0.run a ok
    cases e
    have a1 := a.runA r1
    have l1 := rl.runR a r1
    have k1 := run_Ok ok r1
    obtain ⟨T2, p2, e, r2⟩ := f1.run a1 k1
    cases e
    obtain ⟨S3, o3, e3, r3, n3⟩ := ih (a1.runA r2) (l1.runR a1 r2) (run_Ok k1 r2)
    exact ⟨S3, p1 ++ (p2 ++ o3), by rw [e3]; simp, run_app r1 (run_app r2 r3), n3⟩
theorem Weave.run {S : LS} {o ts : List Bool} {r : Except Err (LS × List Bool)} (f : Weave S o ts r) : Alt S → Rel S → S.Ok → ∃ S1 o1, r = .ok (S1, o ++ o1) ∧ S.run o1 = .ok S1 ∧ ∀ g, S1.next g = none := by
  induction f with
  | rest f => intro a rl ok; exact f.run a rl ok
  | pass g _ ih => intro a rl ok; exact ih a rl ok
  | err g e => intro a rl ok; rw [goes_err a ok g] at e; cases e
  | @go S o h ts s r g e n _ ih =>
    intro a rl ok
    obtain ⟨S1, o1, e1, r1, n1⟩ := ih (a.eff e n) (rl.eff a e n) (ok.eff n)
    exact ⟨S1, h :: o1, by rw [e1, List.append_assoc]; rfl, by rw [run_ok e n]; exact r1, n1⟩
/-! ### rows under the guard -/
/-- a step that is apart from all others -/
def ntr (s : Stp) : Prop := s.isG = false ∧ s.isB = false
theorem ntr_apart {s t : Stp} (h : ntr s) : apartS s t = true := by
  unfold apartS
  rw [h.1, h.2]; rfl
theorem ntr_apart' {s t : Stp} (h : ntr t) : apartS s t = true := by rw [apartS_comm]; exact ntr_apart h
structure GR (rs : List Stp) (a z : Nat) : Prop where
  lt : a < z
  tk : ∀ k, rs[k]? = some .take ↔ k = a
  fr : ∀ k, rs[k]? = some .free ↔ k = z
  nt : ∀ k s, rs[k]? = some s → k < a ∨ z < k → ntr s
theorem GR.mk' {bef mid beh : List Stp} (h1 : ∀ s ∈ bef, ntr s) (h2 : ∀ s ∈ mid, s.isG = false) (h3 : ∀ s ∈ beh, ntr s) : GR (bef ++ .take :: (mid ++ .free :: beh)) bef.length (bef.length + 1 + mid.length) := by
  have at_ : ∀ k s, (bef ++ Stp.take :: (mid ++ .free :: beh))[k]? = some s → (k < bef.length ∧ s ∈ bef) ∨ (k = bef.length ∧ s = .take) ∨ (bef.length < k ∧ k < bef.length + 1 + mid.length ∧ s ∈ mid) ∨ (k = bef.length + 1 + mid.length ∧ s = .free) ∨ (bef.length + 1 + mid.length < k ∧ s ∈ beh) := by
    intro k s h
    by_cases c1 : k < bef.length
    · rw [List.getElem?_append_left c1] at h
      exact .inl ⟨c1, List.mem_of_getElem? h⟩
    · rw [List.getElem?_append_right (by omega)] at h
      cases e : k - bef.length with
      | zero => rw [e] at h; exact .inr (.inl ⟨by omega, by simpa using h.symm⟩)
      | succ j =>
        rw [e, List.getElem?_cons_succ] at h
        by_cases c2 : j < mid.length
        · rw [List.getElem?_append_left c2] at h
          exact .inr (.inr (.inl ⟨by omega, by omega, List.mem_of_getElem? h⟩))
        · rw [List.getElem?_append_right (by omega)] at h
          cases e2 : j - mid.length with
          | zero => rw [e2] at h; exact .inr (.inr (.inr (.inl ⟨by omega, by simpa using h.symm⟩)))
          | succ i =>
            rw [e2, List.getElem?_cons_succ] at h
            exact .inr (.inr (.inr (.inr ⟨by omega, List.mem_of_getElem? h⟩)))
  refine ⟨by omega, fun k => ⟨fun h => ?_, fun h => ?_⟩, fun k => ⟨fun h => ?_, fun h => ?_⟩, fun k s h hk => ?_⟩
  · rcases at_ k _ h with ⟨_, q⟩ | ⟨q, _⟩ | ⟨_, _, q⟩ | ⟨_, q⟩ | ⟨_, q⟩
    · have := (h1 _ q).1; cases this
    · exact q
    · have := h2 _ q; cases this
    · cases q
    · have := (h3 _ q).1; cases this
  · subst h; simp
  · rcases at_ k _ h with ⟨_, q⟩ | ⟨_, q⟩ | ⟨_, _, q⟩ | ⟨q, _⟩ | ⟨_, q⟩
    · have := (h1 _ q).1; cases this
    · cases q
    · have := h2 _ q; cases this
    · exact q
    · have := (h3 _ q).1; cases this
  · subst h
    rw [List.getElem?_append_right (by omega), show bef.length + 1 + mid.length - bef.length = mid.length + 1 by omega, List.getElem?_cons_succ, List.getElem?_append_right (by omega), Nat.sub_self]
    rfl
  · rcases at_ k _ h with ⟨_, q⟩ | ⟨q, _⟩ | ⟨q1, q2, _⟩ | ⟨q, _⟩ | ⟨_, q⟩
    · exact h1 _ q
    · omega
    · omega
    · omega
    · exact h3 _ q
theorem alt_ng : ∀ {r : List Stp} {h : Bool} {t : List Stp}, (∀ s ∈ r, s.isG = false) → alt h (r ++ t) = alt h t ∧ heldBy h (r ++ t) = heldBy h t
  | [], h, t, _ => ⟨rfl, rfl⟩
  | s :: r, h, t, hr => by
    have hs := hr s List.mem_cons_self
    have := alt_ng (r := r) (h := h) (t := t) fun x hx => hr x (List.mem_cons_of_mem _ hx)
    rw [List.cons_append, alt_cons, heldBy_cons, heldS_N hs]
    have e : altOk h s = true := by cases s <;> first | rfl | cases hs
    rw [e, this.1, this.2]
    exact ⟨rfl, rfl⟩
theorem alt_guard {bef mid beh : List Stp} (h1 : ∀ s ∈ bef, ntr s) (h2 : ∀ s ∈ mid, s.isG = false) (h3 : ∀ s ∈ beh, ntr s) : alt false (bef ++ .take :: (mid ++ .free :: beh)) = true ∧ heldBy false (bef ++ .take :: (mid ++ .free :: beh)) = false := by
  obtain ⟨e1, e2⟩ := alt_ng (h := false) (t := .take :: (mid ++ .free :: beh)) fun s hs => (h1 s hs).1
  obtain ⟨e3, e4⟩ := alt_ng (h := true) (t := .free :: beh) h2
  obtain ⟨e5, e6⟩ := alt_ng (r := beh) (h := false) (t := []) fun s hs => (h3 s hs).1
  rw [List.append_nil] at e5 e6
  rw [e1, e2, alt_cons, heldBy_cons]
  show (altOk false .take && alt true (mid ++ .free :: beh)) = true ∧ heldBy true (mid ++ .free :: beh) = false
  rw [e3, e4, alt_cons, heldBy_cons]
  show (altOk false .take && (altOk true .free && alt false beh)) = true ∧ heldBy false beh = false
  rw [e5, e6]
  exact ⟨rfl, rfl⟩
/-! ### who takes the guard first -/
structure JJ (S : LS) (a z : Bool → Nat) : Prop where
  gr : ∀ h, GR (S.rows h) (a h) (z h)
  hd : ∀ h, S.hd = some h ↔ (a h < S.pl h ∧ S.pl h ≤ z h)
theorem JJ.eff {S : LS} {a z : Bool → Nat} (j : JJ S a z) {g : Bool} {s : Stp} (e : S.err g = none) (n : S.next g = some s) : JJ (S.eff g s) a z := by
  refine ⟨fun h => by rw [eff_rows]; exact j.gr h, fun h => ?_⟩
  rw [eff_pl, eff_hdS]
  rw [err_some n] at e
  have ng : (!g) ≠ g := by cases g <;> decide
  have hcase : h = g ∨ h = !g := by cases h <;> cases g <;> simp
  have jg := j.hd g
  have jn := j.hd (!g)
  have n' : (S.rows g)[S.pl g]? = some s := n
  have tk := (j.gr g).tk (S.pl g)
  have fr := (j.gr g).fr (S.pl g)
  have lt := (j.gr g).lt
  rw [n'] at tk fr
  cases s with
  | take =>
    have ek : S.pl g = a g := tk.mp rfl
    have hn : S.hd = none := by
      unfold errH at e
      dsimp only at e
      split at e
      · cases e
      · split at e
        · cases e
        · rename_i q1 q2
          cases hh : S.hd with
          | none => rfl
          | some b => rw [hh] at q1 q2; cases b <;> cases g <;> simp at q1 q2
    rcases hcase with rfl | rfl
    · rw [upB_same]; exact ⟨fun _ => by omega, fun _ => rfl⟩
    · rw [upB_ne ng, ← jn, hn]
      exact ⟨fun z => (ng (Option.some.inj z).symm).elim, fun z => by cases z⟩
  | free =>
    have ek : S.pl g = z g := fr.mp rfl
    have hs : S.hd = some g := by
      unfold errH at e
      dsimp only at e
      split at e
      · assumption
      · cases e
    rcases hcase with rfl | rfl
    · rw [upB_same]; exact ⟨fun q => (by cases q), fun q => by omega⟩
    · rw [upB_ne ng, ← jn, hs]
      exact ⟨fun q => (by cases q), fun q => (ng (Option.some.inj q).symm).elim⟩
  | _ =>
    have n1 : S.pl g ≠ a g := fun q => by have := tk.mpr q; cases this
    have n2 : S.pl g ≠ z g := fun q => by have := fr.mpr q; cases this
    show S.hd = some h ↔ _
    rcases hcase with rfl | rfl
    · rw [upB_same, jg]; exact ⟨fun q => by omega, fun q => by omega⟩
    · rw [upB_ne ng, jn]
theorem byOrd_idx : ∀ {hs : List Bool} {rows : Bool → List Stp} {pl : Bool → Nat} {acc : List (Bool × Stp)} {y : Bool × Stp}, byOrd rows pl [] hs = some acc → y ∈ acc → ∃ k, pl y.1 ≤ k ∧ (rows y.1)[k]? = some y.2
  | [], rows, pl, acc, y, e, hy => by cases e; cases hy
  | g :: hs, rows, pl, acc, y, e, hy => by
    cases q : (rows g)[pl g]? with
    | none => rw [byOrd_none q] at e; cases e
    | some s =>
      rw [byOrd_some q, byOrd_acc] at e
      cases e2 : byOrd rows (upB pl g (pl g + 1)) [] hs with
      | none => rw [e2] at e; cases e
      | some acc' =>
        rw [e2] at e
        have ea : (g, s) :: acc' = acc := by simpa using e
        subst ea
        rcases List.mem_cons.mp hy with rfl | hy
        · exact ⟨pl g, Nat.le_refl _, q⟩
        · obtain ⟨k, h1, h2⟩ := byOrd_idx e2 hy
          refine ⟨k, Nat.le_trans ?_ h1, h2⟩
          by_cases c : y.1 = g
          · rw [c, upB_same]; omega
          · rw [upB_ne c]; exact Nat.le_refl _
theorem ahd_cons_mk {acc : List (Bool × Stp)} {x : Bool × Stp} {h : Bool} (n : ¬ Ahd acc h) (m : ∀ y ∈ acc, x.1 = h → ¬ hit x y) : ¬ Ahd (x :: acc) h := by
  rintro ⟨i, j, y, z, a, b, c, e, hh⟩
  cases j with
  | zero => omega
  | succ j =>
    have b' : acc[j]? = some z := by simpa using b
    cases i with
    | zero =>
      have : x = y := by simpa using a
      subst this
      exact m z (List.mem_of_getElem? b') e hh
    | succ i => exact n ⟨i, j, y, z, by simpa using a, b', by omega, e, hh⟩
theorem nohit_l {x y : Bool × Stp} (h : ntr x.2) : ¬ hit x y := fun z => by have := z.2; rw [ntr_apart h] at this; cases this
theorem nohit_r {x y : Bool × Stp} (h : ntr y.2) : ¬ hit x y := fun z => by have := z.2; rw [ntr_apart' h] at this; cases this
/-- f has taken the guard, the other one not before f freed it -/
theorem after_take : ∀ {hs : List Bool} {S T : LS} {a z : Bool → Nat} {f : Bool} {acc : List (Bool × Stp)}, JJ S a z → a f < S.pl f → (a (!f) < S.pl (!f) → z f < S.pl f) → S.run hs = .ok T → byOrd S.rows S.pl [] hs = some acc → ¬ Ahd acc (!f)
  | [], S, T, a, z, f, acc, j, h1, h2, r, e => by cases e; exact ahd_nil
  | g :: hs, S, T, a, z, f, acc, j, h1, h2, r, e => by
    have e1 : S.err g = none := by
      cases h : S.err g with
      | none => rfl
      | some x => rw [run_err h] at r; cases r
    obtain ⟨s, hn⟩ := err_next e1
    rw [run_ok e1 hn] at r
    rw [byOrd_some (show (S.rows g)[S.pl g]? = some s from hn), byOrd_acc] at e
    cases e2 : byOrd S.rows (upB S.pl g (S.pl g + 1)) [] hs with
    | none => rw [e2] at e; cases e
    | some acc' =>
      rw [e2] at e
      have ea : (g, s) :: acc' = acc := by simpa using e
      subst ea
      have j' := j.eff e1 hn
      have nf : f ≠ !f := by cases f <;> decide
      have ha : a f < (S.eff g s).pl f := by
        rw [eff_pl]
        by_cases c : f = g
        · subst c; rw [upB_same]; omega
        · rw [upB_ne c]; exact h1
      have hb : a (!f) < (S.eff g s).pl (!f) → z f < (S.eff g s).pl f := by
        rw [eff_pl]
        by_cases c : g = f
        · subst c
          rw [upB_same, upB_ne nf.symm]
          intro q; have := h2 q; omega
        · have ec : g = !f := by cases g <;> cases f <;> simp_all
          subst ec
          rw [upB_same, upB_ne nf]
          intro q
          by_cases q2 : a (!f) < S.pl (!f)
          · exact h2 q2
          · have q3 : S.pl (!f) = a (!f) := by omega
            have tk := ((j.gr (!f)).tk (S.pl (!f))).mpr q3
            have es : s = .take := by
              have : (S.rows (!f))[S.pl (!f)]? = some s := hn
              rw [tk] at this; cases this; rfl
            subst es
            rw [err_some hn] at e1
            have hnf : S.hd ≠ some f := by
              intro y
              unfold errH at e1
              dsimp only at e1
              rw [Bool.not_not, if_pos y] at e1
              cases e1
            rw [Ne, j.hd f] at hnf
            omega
      refine ahd_cons_mk (after_take j' ha hb r (by rw [eff_rows, eff_pl]; exact e2)) fun y hy hg => ?_
      have hg : g = !f := hg
      subst hg
      by_cases crit : a (!f) ≤ S.pl (!f)
      · by_cases yf : y.1 = f
        · have hz : z f < (S.eff (!f) s).pl f := hb (by rw [eff_pl, upB_same]; omega)
          rw [eff_pl] at hz
          obtain ⟨k, k1, k2⟩ := byOrd_idx e2 hy
          rw [yf] at k1 k2
          exact nohit_r ((j.gr f).nt k y.2 k2 (.inr (by omega)))
        · intro hh
          apply hh.1
          show (!f) = y.1
          cases h : y.1 <;> cases f <;> simp_all
      · exact nohit_l ((j.gr (!f)).nt _ s hn (.inl (by omega)))
inductive FirstT (rows : Bool → List Stp) : (Bool → Nat) → List Bool → Bool → Prop
  | nil {pl : Bool → Nat} : FirstT rows pl [] false
  | here {pl : Bool → Nat} {g : Bool} {hs : List Bool} : (rows g)[pl g]? = some .take → FirstT rows pl (g :: hs) g
  | next {pl : Bool → Nat} {g f : Bool} {hs : List Bool} {s : Stp} : (rows g)[pl g]? = some s → s ≠ .take → FirstT rows (upB pl g (pl g + 1)) hs f → FirstT rows pl (g :: hs) f
theorem before_take : ∀ {hs : List Bool} {S T : LS} {a z : Bool → Nat} {f : Bool} {acc : List (Bool × Stp)}, JJ S a z → (∀ h, S.pl h ≤ a h) → S.run hs = .ok T → byOrd S.rows S.pl [] hs = some acc → FirstT S.rows S.pl hs f → ¬ Ahd acc (!f)
  | [], S, T, a, z, f, acc, j, hp, r, e, ft => by cases e; exact ahd_nil
  | g :: hs, S, T, a, z, f, acc, j, hp, r, e, ft => by
    have e1 : S.err g = none := by
      cases h : S.err g with
      | none => rfl
      | some x => rw [run_err h] at r; cases r
    obtain ⟨s, hn⟩ := err_next e1
    have hn' : (S.rows g)[S.pl g]? = some s := hn
    rw [run_ok e1 hn] at r
    rw [byOrd_some hn', byOrd_acc] at e
    cases e2 : byOrd S.rows (upB S.pl g (S.pl g + 1)) [] hs with
    | none => rw [e2] at e; cases e
    | some acc' =>
      rw [e2] at e
      have ea : (g, s) :: acc' = acc := by simpa using e
      subst ea
      have j' := j.eff e1 hn
      have e3 : byOrd (S.eff g s).rows (S.eff g s).pl [] hs = some acc' := by rw [eff_rows, eff_pl]; exact e2
      cases ft with
      | here ht =>
        have es : s = .take := by rw [hn'] at ht; cases ht; rfl
        subst es
        have ek := ((j.gr g).tk _).mp hn'
        have ng : (!g) ≠ g := by cases g <;> decide
        have hpn := hp (!g)
        refine ahd_cons_mk (after_take (f := g) j' (by rw [eff_pl, upB_same]; omega) (by rw [eff_pl, upB_ne ng]; intro q; omega) r e3) fun y hy hg => ?_
        exact absurd hg (by show g ≠ !g; exact ng.symm)
      | next hs' hne ft' =>
        rw [hn'] at hs'
        cases hs'
        have nk : S.pl g ≠ a g := fun q => hne (by have := ((j.gr g).tk _).mpr q; rw [hn'] at this; exact Option.some.inj this)
        have hpg := hp g
        refine ahd_cons_mk (before_take j' (fun h => ?_) r e3 (by rw [eff_rows, eff_pl]; exact ft')) fun y hy _ => nohit_l ((j.gr g).nt _ s hn' (.inl (by omega)))
        rw [eff_pl]
        by_cases c : h = g
        · subst c; rw [upB_same]; omega
        · rw [upB_ne c]; exact hp h
/-- where one row has neither boxes nor guard -/
theorem bare_ahd {hs : List Bool} {rows : Bool → List Stp} {pl : Bool → Nat} {acc : List (Bool × Stp)} {b : Bool} (hb : ∀ s ∈ rows b, ntr s) (e : byOrd rows pl [] hs = some acc) (h : Bool) : ¬ Ahd acc h := by
  rintro ⟨i, j, x, y, a, c, _, _, hh⟩
  obtain ⟨k1, _, h1⟩ := byOrd_idx e (List.mem_of_getElem? a)
  obtain ⟨k2, _, h2⟩ := byOrd_idx e (List.mem_of_getElem? c)
  by_cases xb : x.1 = b
  · rw [xb] at h1
    exact nohit_l (hb _ (List.mem_of_getElem? h1)) hh
  · have yb : y.1 = b := by
      have := hh.1
      cases hx : x.1 <;> cases hy : y.1 <;> cases b <;> simp_all
    rw [yb] at h2
    exact nohit_r (hb _ (List.mem_of_getElem? h2)) hh
end G
namespace G
open PySem PySem.Spec PyProof.Rows L2
theorem StpsAt.app {H : Hp} {ps qs : List Addr} {rs ss : List Stp} (a : StpsAt H ps rs) (b : StpsAt H qs ss) : StpsAt H (ps ++ qs) (rs ++ ss) := by
  refine ⟨by simp [a.n, b.n], fun i p s h1 h2 => ?_⟩
  by_cases hi : i < ps.length
  · rw [List.getElem?_append_left hi] at h1
    rw [List.getElem?_append_left (by rw [← a.n]; exact hi)] at h2
    exact a.e i p s h1 h2
  · rw [List.getElem?_append_right (by omega)] at h1
    rw [List.getElem?_append_right (by rw [← a.n]; omega), ← a.n] at h2
    exact b.e _ p s h1 h2
theorem StpsAt.one {H : Hp} {p : Addr} {s : Stp} (h : H p = some (.tup s.enc)) : StpsAt H [p] [s] := StpsAt.nil.push (W := []) Kp.refl h
theorem inBox_ntr {s : Stp} (h : ntr s) (m : Int) : inBox m s = true := by unfold inBox; rw [h.2]; rfl
theorem inBox_zero {s : Stp} (h : inBox 0 s = true) : s.isB = false := by
  unfold inBox at h
  cases e : s.isB with
  | false => rfl
  | true =>
    rw [e] at h
    simp at h
    omega
def spStep11 : Sp := fun vs H Q _ => ∃ (c many : Int), vs = [.int c, .int many] ∧ Bt c ∧ 0 ≤ many ∧ ∀ s p H', Made H H' many p s → s.isG = false → Q (.ref p) H'
theorem useStep11 {H : Hp} {Q : VK} {E : XK} {c many : Int} (h1 : Bt c) (h2 : 0 ≤ many) (k : ∀ s p H', Made H H' many p s → s.isG = false → Q (.ref p) H') : spStep11 [.int c, .int many] H Q E := ⟨c, many, rfl, h1, h2, k⟩
/-- a row of this law -/
def GRow (bare : Bool) (many : Int) (rs : List Stp) : Prop := rs.length ≤ 16 ∧ (∀ s ∈ rs, inBox many s = true) ∧ if bare = true then (∀ s ∈ rs, ntr s) else ∃ bef mid beh, rs = bef ++ .take :: (mid ++ .free :: beh) ∧ (∀ s ∈ bef, ntr s) ∧ (∀ s ∈ mid, s.isG = false) ∧ (∀ s ∈ beh, ntr s)
def spRow11 (K : PySem.W.Frag) : Sp := fun vs H Q _ => ∃ (a : Addr) (ns : List Int) (st : Int) (n : Nat) (many : Int) (bare : Bool), vs = [.ref a, .int st, .int n, .int many, .bl bare] ∧ SqL K H a (ns.map V.int) ∧ (∀ z ∈ ns, Builtin.Int.intBits z ≤ 1048576) ∧ 0 ≤ st ∧ n ≤ 10 ∧ 1 ≤ many ∧ many ≤ 9 ∧
  ∀ p ps rs H', GRow bare many rs → Fre H p → Kp [] H H' → RowAt H' p ps rs → Q (.ref p) H'
def spLed : Sp := fun vs H Q _ => ∃ (o : Addr) (A : SA) (S0 T : LS) (hs : List Bool), vs = [.ref o, .ref A.p] ∧ H o = some (.lst (hs2V hs)) ∧ o ∉ A.fp ∧ StandAt H A S0 ∧ S0.Ok ∧ Alt S0 ∧ S0.run hs = .ok T ∧ (∀ g, T.next g = none) ∧ ∀ H', Kp A.fp H H' → StandAt H' A T → Q (.bl true) H'
def spFirst : Sp := fun vs H Q _ => ∃ (a0 a1 o R : Addr) (p0 p1 : List Addr) (r0 r1 : List Stp) (hs : List Bool) (acc : List (Bool × Stp)), vs = [.ref o, .ref R] ∧ H R = some (.lst [.ref a0, .ref a1]) ∧ RowAt H a0 p0 r0 ∧ RowAt H a1 p1 r1 ∧ H o = some (.lst (hs2V hs)) ∧ byOrd (two r0 r1) (fun _ => 0) [] hs = some acc ∧
  ∀ f H', FirstT (two r0 r1) (fun _ => 0) hs f → Kp [] H H' → Q (.int (hI f)) H'
theorem eqv_take (s : Stp) : PyData.eqv s.dat (.tuple [.str "take"]) = s.isT := by
  cases s <;> first | rfl | decide +kernel | simp [Stp.dat, PyData.eqv, PyData.eqvAll, Stp.isT]
theorem dat_shaped (s : Stp) : SeqAt.shaped s.dat = true := by
  unfold SeqAt.shaped
  have := dat_depth s
  rw [dat_lay, decide_eq_true (show s.dat.depth ≤ 64 by omega)]; rfl
theorem useEqTake {K : PySem.W.Frag} {H : Hp} {Q : VK} {p q : Addr} {s : Stp} (h1 : H p = some (.tup s.enc)) (h2 : H q = some (.tup [.str "take"])) (k : Q (.bl s.isT) H) : rEqD K (.ref p) (.ref q) H Q :=
  ⟨_, _, dp_step h1, dp_step (s := .take) h2, dat_shaped s, dat_shaped .take, by rw [show PyData.eqv s.dat Stp.take.dat = s.isT from eqv_take s]; exact k⟩
end G
namespace G
open PySem PySem.Spec PyProof.Rows L2
/-- a row is not the list of rows that is made -/
theorem row_ne {H : Hp} {D : Addr} {rr : List (Addr × List Addr × List Stp)} {j : Nat} {x : Addr × List Addr × List Stp} (R : RowAt H x.1 x.2.1 x.2.2) (h : H D = some (.lst (rr.map fun x => V.ref x.1))) (hx : rr[j]? = some x) : x.1 ≠ D := fun e => by
  have l := R.l
  rw [e, h] at l
  have l2 : (rr.map fun x => V.ref x.1) = x.2.1.map V.ref := by
    injection l with l; injection l
  have g1 : (x.2.1.map V.ref)[j]? = some (V.ref x.1) := by rw [← l2, List.getElem?_map, hx]; rfl
  obtain ⟨p, s, ep, hs, hp⟩ := R.step g1
  have : p = x.1 := (V.ref.inj ep).symm
  rw [this, e, h] at hp
  cases hp
theorem vLcInts {α : Type} {f : α → Bool} {l : List α} {b : α} : (l.map fun x => V.int (hI (f x))) ++ [V.int (hI (f b))] = (l ++ [b]).map fun x => V.int (hI (f x)) := by rw [List.map_append]; rfl
theorem GRow.alt {bare : Bool} {m : Int} {rs : List Stp} (g : GRow bare m rs) : G.alt false rs = true ∧ heldBy false rs = false := by
  obtain ⟨_, _, h⟩ := g
  cases bare with
  | true =>
    rw [if_pos rfl] at h
    have := alt_ng (r := rs) (h := false) (t := []) fun s hs => (h s hs).1
    rw [List.append_nil] at this
    exact this
  | false =>
    rw [if_neg (by decide)] at h
    obtain ⟨bef, mid, beh, rfl, h1, h2, h3⟩ := h
    exact alt_guard h1 h2 h3
theorem GRow.gr {m : Int} {rs : List Stp} (g : GRow false m rs) : ∃ a z, GR rs a z := by
  obtain ⟨_, _, h⟩ := g
  rw [if_neg (by decide)] at h
  obtain ⟨bef, mid, beh, rfl, h1, h2, h3⟩ := h
  exact ⟨_, _, GR.mk' h1 h2 h3⟩
/-- the first taker's rows first -/
theorem first_ahd {r0 r1 : List Stp} {bs : List Int} {m : Int} {hs : List Bool} {T : LS} {f : Bool} {acc : List (Bool × Stp)} (g0 : GRow false m r0) (g1 : GRow false m r1) (r : (LS.start (two r0 r1) bs).run hs = .ok T) (ac : byOrd (two r0 r1) (fun _ => 0) [] hs = some acc) (ft : FirstT (two r0 r1) (fun _ => 0) hs f) : ¬ Ahd acc (!f) := by
  obtain ⟨a0, z0, q0⟩ := g0.gr
  obtain ⟨a1, z1, q1⟩ := g1.gr
  have j : JJ (LS.start (two r0 r1) bs) (two a0 a1) (two z0 z1) := ⟨fun h => by cases h <;> first | exact q0 | exact q1, fun h => ⟨fun z => (by cases z), fun z => absurd z.1 (Nat.not_lt_zero _)⟩⟩
  exact before_take j (fun h => Nat.zero_le _) r ac ft
end G
namespace G
open PySem PySem.Spec PyProof.Rows L2
theorem useLed {H : Hp} {Q : VK} {E : XK} {o : Addr} {A : SA} {S0 T : LS} {hs : List Bool} (h1 : H o = some (.lst (hs2V hs))) (h2 : o ∉ A.fp) (h3 : StandAt H A S0) (h4 : S0.Ok) (h5 : Alt S0) (h6 : S0.run hs = .ok T) (h7 : ∀ g, T.next g = none) (k : ∀ H', Kp A.fp H H' → StandAt H' A T → Q (.bl true) H') : spLed [.ref o, .ref A.p] H Q E := ⟨o, A, S0, T, hs, rfl, h1, h2, h3, h4, h5, h6, h7, k⟩
theorem useFirst {H : Hp} {Q : VK} {E : XK} {a0 a1 o R : Addr} {p0 p1 : List Addr} {r0 r1 : List Stp} {hs : List Bool} {acc : List (Bool × Stp)} (h1 : H R = some (.lst [.ref a0, .ref a1])) (h2 : RowAt H a0 p0 r0) (h3 : RowAt H a1 p1 r1) (h4 : H o = some (.lst (hs2V hs))) (h5 : byOrd (two r0 r1) (fun _ => 0) [] hs = some acc)
    (k : ∀ f H', FirstT (two r0 r1) (fun _ => 0) hs f → Kp [] H H' → Q (.int (hI f)) H') : spFirst [.ref o, .ref R] H Q E := ⟨a0, a1, o, R, p0, p1, r0, r1, hs, acc, rfl, h1, h2, h3, h4, h5, k⟩
end G

namespace G
open PySem PySem.Spec PyProof.Rows L2
/-! ### a def that is handed the exception which a suite holds -/
abbrev SpE := Addr → Value → Option Addr → Sp
structure FnE (P : Program) (w : World) (K : PySem.W.Frag) (mg : Str → Option Value) (base : Heap) (k : Nat) (f : Addr) (fd : FuncData) (ps : List Str) (sp : SpE) : Prop where
  len : ∀ a c d vs H Q E, sp a c d vs H Q E → vs.length = ps.length
  run : ∀ (A : Around) (below : List Env) (s : Shared) (H : Hp) (args : Args) (us : List Value) (vs : List V) (Q : VK) (E : XK) (a : Addr) (oe : Obj) (c : Value) (d : Option Addr),
    L2H.RoomH k A → L2H.PinOk below H s (a, oe) → Zc c d oe → (∃ xs, oe.data = .fields xs) → Env0 P w K mg base A below s H → BindsTo s fd args (ps.zip us) → Vals vs us → sp a c d vs H Q E → codeAny (model P w) A (.call (.ref f) args) (CR (L2.CX P w) below P w H s Q E) s
abbrev cxE (P : Program) (w : World) (K : PySem.W.Frag) (mg : Str → Option Value) (base : Heap) (N : List Str) (qual : Str) (scope : Scope) (f : Addr) (cd : Value) (A : Around) (below : List Env) (s : Shared) (H : Hp) (E : XK) (a : Addr) (oe : Obj) : Cx :=
  L2H.cxH (L2.CX P w) P w K mg base N qual scope f cd A below s H E (a, oe)
theorem fnE_mk {P : Program} {w : World} {K : PySem.W.Frag} {mg : Str → Option Value} {base : Heap} {k : Nat} {x qual : Str} {st : Stmt} {f : Addr} {fd : FuncData} {N ps : List Str} {sp : SpE} (F : Fun K x qual st f fd) (S : FnScope N ps (defScope st)) (len : ∀ a c d vs H Q E, sp a c d vs H Q E → vs.length = ps.length)
    (walk : ∀ (cdv : Value) (A : Around) (below : List Env) (s : Shared) (H : Hp) (vs : List V) (Q : VK) (E : XK) (a : Addr) (oe : Obj) (c : Value) (d : Option Addr), L2H.RoomH k (A.deeper (envOfC qual (defScope st) s.heap.objs.size f cdv)) → Zc c d oe → (∃ xs, oe.data = .fields xs) → sp a c d vs H Q E →
      ∃ t, PSs (cxE P w K mg base N qual (defScope st) f cdv A below s H E a oe) (defBody st) t ∧ t { nx := fun _ H' => Q .non H', rt := Q } (L2.start N vs) H) : FnE P w K mg base (k + 1) f fd ps sp := by
  obtain ⟨oc, od, kV, doc, pm, an, cdv, ct, osl, rfl, lk, hcd⟩ := F.ex
  refine ⟨len, fun A below s H args us vs Q E a oe c d room pin hz hf env0 bnd vals wish => ?_⟩
  have inK : K.In s.heap := env0.mod.kin.keeps fun b o q => (env0.bs b o q).left
  have noLim : s.heap.NoLimit := env0.mod.nolimit.keeps fun b o q => (env0.bs b o q).left
  refine codeAny_call_function room.depth (inK _ _ lk) rfl S.co S.gen rfl (PySem.W.codeRec_of inK hcd) (bnd _ _ _ _ ?_)
  have kinds : ∀ q ∈ ps.zip us, (defScope st).names.lookup q.1 = some .local ∨ ((defScope st).names.lookup q.1 = some .cell ∧ ((cellsFrom (s.heap.objs.size + 1) (defScope st).names []).lookup q.1).isSome = true) := by
    rintro ⟨n, v⟩ hq
    cases S.par n (List.of_mem_zip hq).left with
    | inl z => exact .inl z
    | inr z => exact .inr ⟨z, PySem.W.cellsFrom_some _ _ _ (.inl z)⟩
  refine wpAny_newFunctionEnv_cells S.kind kinds ?_
  rintro env rfl s1 inCall
  refine ⟨noLim.keeps inCall.toInCall.keep, codeAny_func ?_⟩
  obtain ⟨t, reads, says⟩ := walk cdv A below s H vs Q E a oe c d (room.deeper _) hz hf wish
  have I0 : Inv (cxE P w K mg base N qual (defScope st) f cdv A below s H E a oe) [] (L2.start N vs) H s1 := L2H.inv_startH S pin env0 (len _ _ _ _ _ _ _ wish) vals inCall
  refine wpAny_mono (reads.run [] s1 (L2.start N vs) H _ I0 says) ?_ fun _ _ z => z
  intro fl s' end_
  cases fl with
  | ret u =>
    obtain ⟨v, σ', H', J, rv, q⟩ := end_
    exact ⟨v, H', J.os, J.bare, J.base, J.hok, rv, q⟩
  | next =>
    obtain ⟨σ', H', J, q⟩ := end_
    exact ⟨V.non, H', J.os, J.bare, J.base, J.hok, rfl, q⟩
  | brk =>
    obtain ⟨_, _, _, z⟩ := end_
    cases z
  | cont =>
    obtain ⟨_, _, _, z⟩ := end_
    cases z
/-- such a def by its name -/
structure ClE (P : Program) (w : World) (K : PySem.W.Frag) (mg : Str → Option Value) (base : Heap) (k : Nat) (x : Str) (ps : List Str) (sp : SpE) : Prop where
  ex : ∃ (f : Addr) (fd : FuncData), FnE P w K mg base k f fd ps sp ∧ mg x = some (.ref f) ∧ PySem.W.keepIn K (.ref f) = true ∧ Binds K fd ps []
theorem ClE.of {P : Program} {w : World} {K : PySem.W.Frag} {mg : Str → Option Value} {base : Heap} {x : Str} {st : Stmt} {f : Addr} {fd : FuncData} {N ps : List Str} {k : Nat} {sp : SpE} (F : Fun K x x st f fd) (hm : mg x = some (.ref f)) (hb : Binds K fd ps []) (S : FnScope N ps (defScope st)) (len : ∀ a c d vs H Q E, sp a c d vs H Q E → vs.length = ps.length)
    (walk : ∀ (cdv : Value) (A : Around) (below : List Env) (s : Shared) (H : Hp) (vs : List V) (Q : VK) (E : XK) (a : Addr) (oe : Obj) (c : Value) (d : Option Addr), L2H.RoomH k (A.deeper (envOfC x (defScope st) s.heap.objs.size f cdv)) → Zc c d oe → (∃ xs, oe.data = .fields xs) → sp a c d vs H Q E →
      ∃ t, PSs (cxE P w K mg base N x (defScope st) f cdv A below s H E a oe) (defBody st) t ∧ t { nx := fun _ H' => Q .non H', rt := Q } (L2.start N vs) H) : ClE P w K mg base (k + 1) x ps sp :=
  ⟨f, fd, fnE_mk F S len walk, hm, F.kp, hb⟩
section
variable {X : Cx} {k j : Nat} {ps : List Str} {sp : SpE} {W : WX} {x : Str} {p pos : Pos} {e : Expr} {es : List Expr} {t : TA} {a : Addr} {oe : Obj} {pn : List (Addr × Obj)} {c : Value} {d : Option Addr}
theorem pe_clE (F : ClE X.prog X.w X.K X.mg X.base k x ps sp) (hr : Room j X.A) (hk : k ≤ j) (hz : Zc c d oe) (hf : ∃ xs, oe.data = .fields xs) (tk : Takes (X.suite a ((a, oe) :: pn)) W) (hg : Gl (X.suite a ((a, oe) :: pn)) x) (ha : PA (X.suite a ((a, oe) :: pn)) (e :: es) t)
    (hdb : (x == ("__debug__" : Str)) = false := by decide) (he : starEach (e :: es) X.env = (false, eval e X.env) :: starEach es X.env := by rfl) (hpl : (backTo pos (starEach es X.env)).any (·.1) = false := by rfl) :
    PE (X.suite a ((a, oe) :: pn)) (.Call (.Name x p) (e :: es) [] pos) (tCallS (sp a c d) (WE W) t) := by
  obtain ⟨f, fd, FE, hm, kp, bnd⟩ := F.ex
  refine ⟨fun pins s σ H Q I h => wpAny_Call_Name_kw (ld_glob I hg hm ?_ hdb)⟩
  refine PySem.W.callWith_K (h₀ := X.base) I.ok.mod.kin kp (thn (ha.run pos pins s σ H _ I h) ?_) he hpl
  rintro us s1 ⟨vs, H1, I1, vals, wish⟩
  refine ⟨I1.kIn, ?_⟩
  have ln : us.length = ps.length := vals.length.symm.trans (FE.len _ _ _ _ _ _ _ wish)
  have bd := bnd s1 us I1.kIn (by rw [List.append_nil]; exact ln)
  rw [List.append_nil] at bd
  obtain ⟨g1, g2, g3, g4, g5⟩ := I1.pin (a, oe) (List.mem_append_left _ (List.mem_cons_self : (a, oe) ∈ (a, oe) :: pn))
  have pin : L2H.PinOk X.stack H1 s1 (a, oe) := by
    refine ⟨g1, g2, fun hm => ?_, g5⟩
    cases List.mem_cons.mp (I1.stkSub a hm) with
    | inl z => exact g3 z
    | inr z => exact g4 z
  have room : L2H.RoomH k (X.suite a ((a, oe) :: pn)).A := ⟨(hr.mono hk).dp, (hr.mono hk).un⟩
  refine wpAny_call (codeAny_mono (FE.run _ X.stack s1 H1 ⟨us, []⟩ us vs Q (WE W σ) a oe c d room pin hz hf I1.env0 bd vals wish) ?_)
  intro r s' end_
  cases r with
  | error z => exact passAt tk σ pins _ _ z s' I1 end_
  | ok fl =>
    cases fl with
    | ret u => exact I1.after end_
    | next => cases end_
    | brk => cases end_
    | cont => cases end_
/-- isinstance(e, C) of such an exception -/
theorem call_isP {cls : Value} (hp : (a, oe) ∈ X.pn) (hz : Zc cls d oe) (hf : ∃ xs, oe.data = .fields xs) : CallR X (.builtin "isinstance") (rIsEG X.K a cls d) := by
  rintro pins s σ H xs us Q I vals ⟨D, rfl, rfl, C, c2, cv, b, rfl, hcv, ek, q⟩
  cases vals with
  | cons r1 rest =>
    cases rest with
    | cons r2 rest =>
      cases rest
      cases r1
      cases hcv _ r2
      have stands := (I.pin (a, oe) (List.mem_append_left _ hp)).1
      have J : PySem.W.InstAt s.heap a oe D none := by
        obtain ⟨xs, hx⟩ := hf
        rcases oe with ⟨q1, q2, q3, q4⟩
        rcases hz with ⟨z1, z2⟩
        cases z1
        cases z2
        cases hx
        exact ⟨stands, rfl, rfl, trivial⟩
      refine PySem.W.kia_one (PySem.W.handS_kitx_exc C.hg C.hk C.hs C.hd C.ha C.hn C.ht C.hm) I.kIn J ek (fun z => nomatch z) fun tk => ?_
      exact ⟨.bl b, H, I.kept (t' := tk) fun _ _ z => z, rfl, q⟩
end
theorem cxEK {P : Program} {w : World} {K : PySem.W.Frag} {mg : Str → Option Value} {base : Heap} {N : List Str} {qual : Str} {scope : Scope} {f : Addr} {cd : Value} {A : Around} {below : List Env} {s : Shared} {H : Hp} {E : XK} {a : Addr} {oe : Obj} :
    (cxE P w K mg base N qual scope f cd A below s H E a oe).K = K := rfl
/-- the names that the law gives to the eight -/
def nameOf : Err → Str
  | .tooMany => "too many" | .badStep => "no step" | .badBox => "no box" | .again => "again" | .notHeld => "not held" | .noTurn => "no turn" | .waits => "waits" | .stuck => "stuck"
def spNames (er : Err → Addr) (ok : Err → Bool) : SpE := fun a c d vs H Q _ => ∃ e : Err, vs = [.ref a] ∧ c = .ref (er e) ∧ d = none ∧ ok e = true ∧ Q (.str (nameOf e)) H
theorem useNames {er : Err → Addr} {ok : Err → Bool} {a : Addr} {H : Hp} {Q : VK} {E : XK} {e : Err} (ho : ok e = true) (k : Q (.str (nameOf e)) H) : spNames er ok a (.ref (er e)) none [.ref a] H Q E := ⟨e, rfl, rfl, rfl, ho, k⟩
end G
namespace G
open PySem PySem.Spec PyProof.Rows L2
def rAddT : V → V → Hp → VK → Prop := fun x y H Q => ∃ i j, x = .str i ∧ y = .str j ∧ i.length + j.length ≤ sizeLine ∧ Q (.str (i ++ j)) H
theorem op_addT {X : Cx} : OpR X (binaryOp .Add) rAddT := op_add_str
theorem vAddT {i j : Str} {H : Hp} {Q : VK} (z : i.length + j.length ≤ sizeLine) (q : Q (.str (i ++ j)) H) : rAddT (.str i) (.str j) H Q := ⟨i, j, rfl, rfl, z, q⟩
theorem toStr {Q : VK} {H : Hp} {b c : Str} (q : Q (.str c) H) (e : c = b) : Q (.str b) H := e ▸ q
end G

namespace G
open PySem PySem.Spec PyProof.Rows L2
/-! ### a twin -/
theorem map_ref_inj {ps qs : List Addr} (h : ps.map V.ref = qs.map V.ref) : ps = qs := (List.map_inj_right (fun _ _ e => V.ref.inj e)).mp h
theorem loom_ok {C : Addr} {H : Hp} {A : LA} {S : LS} (L : LoomAt C H A S) (o : S.Ok) : loomErr ((S.rows false).map fun s => some s.enc) ((S.rows true).map fun s => some s.enc) (S.boxes.length : Int) = none :=
  (loomErr_1 (c1 := (S.rows true).map fun s => some s.enc) (needC_ok (o.len false) (o.box false))).trans (needC_ok (o.len true) (o.box true))
theorem useTwin {C : Addr} {H : Hp} {Q : VK} {E : XK} {A : LA} {S : LS} (L : LoomAt C H A S) (o : S.Ok) (k : ∀ (A' : LA) (H' : Hp), Fre H A'.p → Fre H A'.r → (∀ h, Fre H (A'.row h)) → Fre H A'.b → Fre H A'.n → Fre H A'.q → A'.ps = A.ps → Kp [] H H' → LoomAt C H' A' S → Q (.ref A'.p) H') : spTwin C [.ref A.p] H Q E := ⟨A, S, rfl, L, o, k⟩
end G
namespace G
open PySem PySem.Spec PyProof.Rows L2
def spDone5 : Sp := fun vs H Q _ => ∃ (A : SA) (S : LS) (g : Bool) (s : Stp), vs = [.ref A.p, .int (hI g)] ∧ StandAt H A S ∧ S.Ok ∧ S.next g = some s ∧
  ∀ A' H', Fre H A'.p → Fre H A'.b → Fre H A'.n → Fre H A'.q → A'.w = A.w → A'.row = A.row → Kp [] H H' → StandAt H' A' (S.eff g s) → Q (.ref A'.p) H'
theorem useDone5 {H : Hp} {Q : VK} {E : XK} {A : SA} {S : LS} {g : Bool} {s : Stp} (L : StandAt H A S) (o : S.Ok) (hs : S.next g = some s) (k : ∀ A' H', Fre H A'.p → Fre H A'.b → Fre H A'.n → Fre H A'.q → A'.w = A.w → A'.row = A.row → Kp [] H H' → StandAt H' A' (S.eff g s) → Q (.ref A'.p) H') : spDone5 [.ref A.p, .int (hI g)] H Q E := ⟨A, S, g, s, rfl, L, o, hs, k⟩
def spStands (C : Addr) : Sp := fun vs H Q _ => ∃ (B : LA) (A : SA) (S : LS), vs = [.ref B.p, .ref A.p] ∧ LoomAt C H B S ∧ StandAt H A S ∧ S.Ok ∧ S.boxes.length ≤ 100 ∧ ∀ H', Kp [] H H' → Q (.bl true) H'
theorem useStands {C : Addr} {H : Hp} {Q : VK} {E : XK} {B : LA} {A : SA} {S : LS} (h1 : LoomAt C H B S) (h2 : StandAt H A S) (h3 : S.Ok) (h4 : S.boxes.length ≤ 100) (k : ∀ H', Kp [] H H' → Q (.bl true) H') : spStands C [.ref B.p, .ref A.p] H Q E := ⟨B, A, S, rfl, h1, h2, h3, h4, k⟩
def spWent (C : Addr) : Sp := fun vs H Q _ => ∃ (B : LA) (S : LS) (g : Bool) (kind : Int), vs = [.ref B.p, .int (hI g), .int kind] ∧ LoomAt C H B S ∧ S.Ok ∧
  (∀ e H', S.err g = some e → Kp [] H H' → Q (.str (errWordX "no turn" (some e))) H') ∧ (S.err g = none → ∀ s H', S.next g = some s → Kp B.fp H H' → LoomAt C H' B (S.eff g s) → Q (.str "") H')
theorem word_waits (o : Option Err) : (errWordX "no turn" o = "waits") ↔ o = some .waits := by
  constructor
  · intro h
    cases o with
    | none => exact absurd h (show ¬ (("" : Str) = "waits") by decide +kernel)
    | some e =>
      cases e with
      | waits => rfl
      | noTurn => exact absurd h (show ¬ (("no turn" : Str) = "waits") by decide +kernel)
      | again => exact absurd h (show ¬ (("again" : Str) = "waits") by decide +kernel)
      | notHeld => exact absurd h (show ¬ (("not held" : Str) = "waits") by decide +kernel)
      | _ => exact absurd h (show ¬ (("?" : Str) = "waits") by decide +kernel)
  · intro h; rw [h]; rfl
theorem gErr_nw {S : LS} {g : Bool} {s : Stp} : S.gErr g s ≠ some .waits := by
  unfold LS.gErr
  cases s <;> simp only <;> (try split) <;> intro z <;> cases z
theorem waits_word {S : LS} {g : Bool} : S.waits g = decide (errWordX "no turn" (S.err g) = "waits") := by
  rw [Bool.eq_iff_iff, decide_eq_true_iff, word_waits]
  cases hn : S.next g with
  | none =>
    have e1 : S.waits g = false := by unfold LS.waits; rw [hn]
    have e2 : S.err g = some .noTurn := by unfold LS.err; rw [hn]
    rw [e1, e2]
    constructor <;> intro z <;> cases z
  | some s =>
    have e2 : S.err g = if S.waits g = true then some .waits else S.gErr g s := by unfold LS.err; rw [hn]
    rw [e2]
    constructor
    · intro z; rw [if_pos z]
    · intro z
      by_cases hw : S.waits g = true
      · exact hw
      · rw [if_neg hw] at z; exact absurd z gErr_nw
theorem useWent {C : Addr} {H : Hp} {Q : VK} {E : XK} {B : LA} {S : LS} {g : Bool} {kind : Int} (L : LoomAt C H B S) (o : S.Ok) (ke : ∀ e H', S.err g = some e → Kp [] H H' → Q (.str (errWordX "no turn" (some e))) H') (k : S.err g = none → ∀ s H', S.next g = some s → Kp B.fp H H' → LoomAt C H' B (S.eff g s) → Q (.str "") H') : spWent C [.ref B.p, .int (hI g), .int kind] H Q E := ⟨B, S, g, kind, rfl, L, o, ke, k⟩
theorem err_four {S : LS} {g : Bool} {e : Err} (h : S.err g = some e) : e = .noTurn ∨ e = .waits ∨ e = .again ∨ e = .notHeld := by
  cases hn : S.next g with
  | none =>
    have e2 : S.err g = some .noTurn := by unfold LS.err; rw [hn]
    rw [e2] at h; cases h; exact .inl rfl
  | some s =>
    have e2 : S.err g = if S.waits g = true then some .waits else S.gErr g s := by unfold LS.err; rw [hn]
    rw [e2] at h
    split at h
    · cases h; exact .inr (.inl rfl)
    · unfold LS.gErr at h
      cases s <;> simp only at h <;> (try split at h) <;> cases h
      · exact .inr (.inr (.inl rfl))
      · exact .inr (.inr (.inr rfl))
def spRow5 (K : PySem.W.Frag) : Sp := fun vs H Q _ => ∃ (a : Addr) (ns : List Int) (st : Int) (n : Nat) (many : Int), vs = [.ref a, .int st, .int n, .int many] ∧ SqL K H a (ns.map V.int) ∧ (∀ z ∈ ns, Builtin.Int.intBits z ≤ 1048576) ∧ 0 ≤ st ∧ n ≤ 60 ∧ 0 ≤ many ∧
  ∀ p ps rs H', rs.length = n → (∀ s ∈ rs, inBox many s = true) → Fre H p → Kp [] H H' → RowAt H' p ps rs → Q (.ref p) H'
theorem useRow5 {K : PySem.W.Frag} {H : Hp} {Q : VK} {E : XK} {a : Addr} {ns : List Int} {st m many : Int} (n : Nat) (em : m = (n : Int)) (h1 : SqL K H a (ns.map V.int)) (h2 : ∀ z ∈ ns, Builtin.Int.intBits z ≤ 1048576) (h3 : 0 ≤ st) (h4 : n ≤ 60) (h5 : 0 ≤ many)
    (k : ∀ p ps rs H', rs.length = n → (∀ s ∈ rs, inBox many s = true) → Fre H p → Kp [] H H' → RowAt H' p ps rs → Q (.ref p) H') : spRow5 K [.ref a, .int st, .int m, .int many] H Q E := by
  subst em
  exact ⟨a, ns, st, n, many, rfl, h1, h2, h3, h4, h5, k⟩
/-! ### what was left behind -/
def LA.all (A : LA) : List Addr := [A.p, A.r, A.row false, A.row true, A.b, A.n, A.q]
def SA.all (A : SA) : List Addr := [A.p, A.w, A.row false, A.row true, A.b, A.n, A.q]
theorem all7 {P : Addr → Prop} {a b c d e f g : Addr} : (∀ x ∈ [a, b, c, d, e, f, g], P x) ↔ P a ∧ P b ∧ P c ∧ P d ∧ P e ∧ P f ∧ P g := by simp
def Lives (H : Hp) (x : Addr) : Prop := ∃ o, H x = some o
theorem LoomAt.live {C : Addr} {H : Hp} {A : LA} {S : LS} (L : LoomAt C H A S) : ∀ x ∈ A.all, Lives H x :=
  all7.mpr ⟨⟨_, L.ins⟩, ⟨_, L.rws⟩, ⟨_, (L.row false).l⟩, ⟨_, (L.row true).l⟩, ⟨_, L.box⟩, ⟨_, L.num⟩, ⟨_, L.pls⟩⟩
theorem StandAt.live {H : Hp} {A : SA} {S : LS} (L : StandAt H A S) : ∀ x ∈ A.all, Lives H x :=
  all7.mpr ⟨⟨_, L.top⟩, ⟨_, L.rws⟩, ⟨_, (L.row false).l⟩, ⟨_, (L.row true).l⟩, ⟨_, L.box⟩, ⟨_, L.num⟩, ⟨_, L.pls⟩⟩
theorem LoomAt.keepA {C : Addr} {W : List Addr} {H H' : Hp} {A : LA} {S : LS} (L : LoomAt C H A S) (k : Kp W H H') (n : ∀ x ∈ A.all, x ∉ W) : LoomAt C H' A S := by
  obtain ⟨n1, n2, n3, n4, n5, n6, n7⟩ := all7.mp n
  exact L.keep k n1 n2 (fun h => by cases h <;> assumption) n5 n6 n7
theorem StandAt.keepA {W : List Addr} {H H' : Hp} {A : SA} {S : LS} (L : StandAt H A S) (k : Kp W H H') (n : ∀ x ∈ A.all, x ∉ W) : StandAt H' A S := by
  obtain ⟨n1, n2, n3, n4, n5, n6, n7⟩ := all7.mp n
  exact L.keep k n1 n2 (fun h => by cases h <;> assumption) n5 n6 n7
theorem Lives.kp {W : List Addr} {H H' : Hp} {x : Addr} (l : Lives H x) (k : Kp W H H') : Lives H' x := by
  obtain ⟨o, h⟩ := l
  exact k.dom _ _ h
theorem Lives.ne {H : Hp} {x y : Addr} (l : Lives H x) (f : Fre H y) : x ≠ y := by
  obtain ⟨o, h⟩ := l
  exact ne_fr f h |> fun z => by first | exact z | exact z.symm
theorem LA.fp_sub {A : LA} {x : Addr} (h : x ∈ A.fp) : x ∈ A.all := by
  simp only [LA.fp, LA.all, List.mem_cons, List.not_mem_nil, or_false] at h ⊢
  rcases h with h | h | h | h <;> simp [h]
structure Lf5 (C : Addr) (H : Hp) (W : List Addr) (pr : Addr) : Prop where
  ex : ∃ (A : LA) (B : SA) (S : LS), H pr = some (.lst [.ref A.p, .ref B.p]) ∧ LoomAt C H A S ∧ StandAt H B S ∧ S.Ok ∧ S.boxes.length ≤ 100 ∧ pr ∉ W ∧ (∀ x ∈ A.all, x ∉ W) ∧ (∀ x ∈ B.all, x ∉ W)
theorem Lf5.keep {C : Addr} {H H' : Hp} {W W' : List Addr} {pr : Addr} (l : Lf5 C H W pr) (k : Kp W' H H') (s : ∀ a ∈ W', a ∈ W) : Lf5 C H' W pr := by
  obtain ⟨A, B, S, h, L, D, o, b, n0, n1, n2⟩ := l.ex
  exact ⟨A, B, S, k.get h fun z => n0 (s _ z), L.keepA k fun x hx z => n1 x hx (s _ z), D.keepA k fun x hx z => n2 x hx (s _ z), o, b, n0, n1, n2⟩
theorem Lf5.move {C : Addr} {H : Hp} {W W' : List Addr} {pr : Addr} (l : Lf5 C H W pr) (s : ∀ a ∈ W', a ∈ W ∨ Fre H a) : Lf5 C H W' pr := by
  obtain ⟨A, B, S, h, L, D, o, b, n0, n1, n2⟩ := l.ex
  have nn : ∀ x, Lives H x → x ∉ W → x ∉ W' := fun x lx nx z => (s x z).elim nx fun f => lx.ne f rfl
  exact ⟨A, B, S, h, L, D, o, b, nn _ ⟨_, h⟩ n0, fun x hx => nn x (L.live x hx) (n1 x hx), fun x hx => nn x (D.live x hx) (n2 x hx)⟩
structure Inv5 (C : Addr) (H : Hp) (Z pc : Addr) (cs : List Int) (AL : LA) (A : SA) (S : LS) (prs : List Addr) : Prop where
  L : LoomAt C H AL S
  D : StandAt H A S
  o : S.Ok
  b : S.boxes.length ≤ 100
  hc : H pc = some (.lst (cs.map V.int))
  hz : H Z = some (.lst (prs.map V.ref))
  nc : pc ∉ Z :: AL.fp
  nA : ∀ x ∈ A.all, x ∉ Z :: AL.fp
  nZ : ∀ x ∈ AL.all, x ≠ Z
  lf : ∀ pr ∈ prs, Lf5 C H (Z :: AL.fp) pr
theorem Inv5.keep0 {C : Addr} {H H' : Hp} {Z pc : Addr} {cs : List Int} {AL : LA} {A : SA} {S : LS} {prs : List Addr} (i : Inv5 C H Z pc cs AL A S prs) (k : Kp [] H H') : Inv5 C H' Z pc cs AL A S prs :=
  ⟨i.L.keep0 k, i.D.keep0 k, i.o, i.b, k.get0 i.hc, k.get0 i.hz, i.nc, i.nA, i.nZ, fun pr h => (i.lf pr h).keep k (fun _ h => by cases h)⟩
/-- a twin is left -/
theorem Inv5.left {C : Addr} {H H1 H2 H3 : Hp} {Z pc : Addr} {cs : List Int} {AL : LA} {A : SA} {S : LS} {prs : List Addr} {T : LA} {p0 : Addr} (i : Inv5 C H Z pc cs AL A S prs) (k1 : Kp [] H H1) (fT : ∀ x ∈ T.all, Fre H x) (L1 : LoomAt C H1 T S)
    (f0 : Fre H1 p0) (k2 : Kp [] H1 H2) (e0 : H2 p0 = some (.lst [.ref T.p, .ref A.p])) (k3 : Kp [Z] H2 H3) (e3 : H3 Z = some (.lst (prs.map V.ref ++ [.ref p0]))) : Inv5 C H3 Z pc cs AL A S (prs ++ [p0]) := by
  have i2 := (i.keep0 k1).keep0 k2
  have z1 : ∀ x, x ∉ Z :: AL.fp → x ∉ [Z] := fun x h z => h (by simp at z; simp [z])
  have nT : ∀ x ∈ T.all, x ∉ Z :: AL.fp := fun x hx z => by
    rcases List.mem_cons.mp z with z | z
    · exact Lives.ne (H := H) ⟨_, i.hz⟩ (fT x hx) z.symm
    · exact (i.L.live _ (LA.fp_sub z)).ne (fT x hx) rfl
  have n0 : p0 ∉ Z :: AL.fp := fun z => by
    rcases List.mem_cons.mp z with z | z
    · exact Lives.ne (H := H1) (Lives.kp ⟨_, i.hz⟩ k1) f0 z.symm
    · exact ((i.L.live _ (LA.fp_sub z)).kp k1).ne f0 rfl
  refine ⟨i2.L.keepA k3 fun x hx => by simpa using i.nZ x hx, i2.D.keepA k3 fun x hx => z1 x (i.nA x hx), i.o, i.b, k3.get i2.hc (z1 _ i.nc), by rw [List.map_append]; exact e3, i.nc, i.nA, i.nZ, fun pr h => ?_⟩
  rcases List.mem_append.mp h with h | h
  · exact (i2.lf pr h).keep k3 fun a ha => by simp at ha; simp [ha]
  · simp only [List.mem_singleton] at h
    subst h
    exact ⟨T, A, S, k3.get e0 (z1 _ n0), (L1.keep0 k2).keepA k3 fun x hx => z1 _ (nT x hx), i2.D.keepA k3 fun x hx => z1 x (i.nA x hx), i.o, i.b, n0, nT, i.nA⟩
/-- the loom itself is left, a twin is led on -/
theorem Inv5.led {C : Addr} {H H1 H2 H3 : Hp} {Z pc : Addr} {cs : List Int} {AL : LA} {A : SA} {S : LS} {prs : List Addr} {T : LA} {p0 : Addr} (i : Inv5 C H Z pc cs AL A S prs) (f0 : Fre H p0) (k1 : Kp [] H H1) (e0 : H1 p0 = some (.lst [.ref AL.p, .ref A.p])) (k2 : Kp [Z] H1 H2) (e2 : H2 Z = some (.lst (prs.map V.ref ++ [.ref p0])))
    (fT : ∀ x ∈ T.all, Fre H2 x) (k3 : Kp [] H2 H3) (L3 : LoomAt C H3 T S) : Inv5 C H3 Z pc cs T A S (prs ++ [p0]) := by
  have i1 := i.keep0 k1
  have z1 : ∀ x, x ∉ Z :: AL.fp → x ∉ [Z] := fun x h z => h (by simp at z; simp [z])
  have zf : ∀ x, x ∉ [Z] → Lives H2 x → x ∉ Z :: T.fp := fun x h l z => by
    rcases List.mem_cons.mp z with z | z
    · exact h (by simp [z])
    · exact l.ne (fT x (LA.fp_sub z)) rfl
  have nA1 : ∀ x ∈ A.all, x ∉ [Z] := fun x hx => z1 x (i.nA x hx)
  have nL1 : ∀ x ∈ AL.all, x ∉ [Z] := fun x hx => by simpa using i.nZ x hx
  have D2 := i1.D.keepA k2 nA1
  have L2 := i1.L.keepA k2 nL1
  have c2 := k2.get i1.hc (z1 _ i.nc)
  have n0 : p0 ∉ [Z] := by
    have := Lives.ne (H := H) ⟨_, i.hz⟩ f0
    simpa using fun z => this z.symm
  have e02 := k2.get e0 n0
  refine ⟨L3, D2.keep0 k3, i.o, i.b, k3.get0 c2, by rw [List.map_append]; exact k3.get0 e2, zf _ (z1 _ i.nc) ⟨_, c2⟩, fun x hx => zf x (nA1 x hx) (D2.live x hx), fun x hx => ?_, fun pr h => ?_⟩
  · exact fun z => Lives.ne (H := H2) ⟨_, e2⟩ (fT x hx) z.symm
  rcases List.mem_append.mp h with h | h
  · have l2 : Lf5 C H2 (Z :: AL.fp) pr := (i1.lf pr h).keep k2 fun a ha => by simp at ha; simp [ha]
    refine (l2.move fun a ha => ?_).keep k3 (fun _ h => by cases h)
    rcases List.mem_cons.mp ha with z | z
    · exact .inl (by simp [z])
    · exact .inr (fT a (LA.fp_sub z))
  · simp only [List.mem_singleton] at h
    subst h
    exact ⟨AL, A, S, k3.get0 e02, L2.keep0 k3, D2.keep0 k3, i.o, i.b, zf _ n0 ⟨_, e02⟩, fun x hx => zf x (nL1 x hx) (L2.live x hx), fun x hx => zf x (nA1 x hx) (D2.live x hx)⟩
/-- a step -/
theorem Inv5.step {C : Addr} {H H1 H2 : Hp} {Z pc : Addr} {cs : List Int} {AL : LA} {A A' : SA} {S : LS} {prs : List Addr} {g : Bool} {s : Stp} (i : Inv5 C H Z pc cs AL A S prs) (hs : S.next g = some s) (k1 : Kp [] H H1) (f1 : Fre H A'.p) (f2 : Fre H A'.b) (f3 : Fre H A'.n) (f4 : Fre H A'.q) (ew : A'.w = A.w) (er : A'.row = A.row)
    (D1 : StandAt H1 A' (S.eff g s)) (k2 : Kp AL.fp H1 H2) (L2 : LoomAt C H2 AL (S.eff g s)) : Inv5 C H2 Z pc cs AL A' (S.eff g s) prs := by
  have i1 := i.keep0 k1
  have lv : ∀ a ∈ Z :: AL.fp, Lives H a := fun a ha => by
    rcases List.mem_cons.mp ha with z | z
    · subst z; exact ⟨_, i.hz⟩
    · exact i.L.live _ (LA.fp_sub z)
  have nf : ∀ x, Fre H x → x ∉ Z :: AL.fp := fun x f z => (lv x z).ne f rfl
  obtain ⟨n1, n2, n3, n4, n5, n6, n7⟩ := all7.mp i.nA
  have nA' : ∀ x ∈ A'.all, x ∉ Z :: AL.fp := all7.mpr ⟨nf _ f1, by rw [ew]; exact n2, by rw [er]; exact n3, by rw [er]; exact n4, nf _ f2, nf _ f3, nf _ f4⟩
  have w1 : ∀ x, x ∉ Z :: AL.fp → x ∉ AL.fp := fun x h z => h (List.mem_cons_of_mem _ z)
  exact ⟨L2, D1.keepA k2 fun x hx => w1 x (nA' x hx), i.o.eff hs, by rw [eff_boxes]; exact i.b, k2.get i1.hc (w1 _ i.nc), k2.get i1.hz fun z => i.nZ _ (LA.fp_sub z) rfl, i.nc, nA', i.nZ, fun pr h => (i1.lf pr h).keep k2 fun a ha => List.mem_cons_of_mem _ ha⟩
/-! ### what was handed in -/
def handDat (r0 r1 : List Stp) (bs : List Int) : PyData := .list [rowDat r0, rowDat r1, intsDat bs]
theorem hand_shaped (r0 r1 : List Stp) (bs : List Int) : SeqAt.shaped (handDat r0 r1 bs) = true := by
  have h1 : (handDat r0 r1 bs).canLay0 = true := by
    simp [handDat, rowDat, intsDat, PyData.canLay0, PyData.canLayAll0, rows_lay, ints_lay]
  have h2 : (handDat r0 r1 bs).depth ≤ 64 := by
    have a := rows_depth r0
    have b := rows_depth r1
    have c := ints_depth bs
    simp only [handDat, rowDat, intsDat, PyData.depth, PyData.depthAll]
    omega
  unfold SeqAt.shaped
  rw [h1, decide_eq_true h2]; rfl
theorem useNeHand {K : PySem.W.Frag} {H : Hp} {Q : VK} {a b x0 x1 xb y0 y1 yb : Addr} {p0 p1 q0 q1 : List Addr} {r0 r1 : List Stp} {bs : List Int} (ha : H a = some (.lst [.ref x0, .ref x1, .ref xb])) (hb : H b = some (.lst [.ref y0, .ref y1, .ref yb]))
    (a0 : RowAt H x0 p0 r0) (a1 : RowAt H x1 p1 r1) (a2 : H xb = some (.lst (bs.map V.int))) (b0 : RowAt H y0 q0 r0) (b1 : RowAt H y1 q1 r1) (b2 : H yb = some (.lst (bs.map V.int))) (q : Q (.bl false) H) : rNeD K (.ref a) (.ref b) H Q :=
  ⟨handDat r0 r1 bs, handDat r0 r1 bs, .lst (SqL.of ha) (.cons a0.dp (.cons a1.dp (.cons (.lst (SqL.of a2) (dp_ints bs)) .nil))), .lst (SqL.of hb) (.cons b0.dp (.cons b1.dp (.cons (.lst (SqL.of b2) (dp_ints bs)) .nil))), hand_shaped r0 r1 bs, hand_shaped r0 r1 bs, by rw [SeqAt.eqv_refl _ (SeqAt.canLay_of_shaped (hand_shaped r0 r1 bs))]; exact q⟩
theorem vAll {K : PySem.W.Frag} {H : Hp} {Q : VK} {a : Addr} {n : Nat} (h : H a = some (.lst (List.replicate n (V.bl true)))) (q : Q (.bl true) H) : rAll K [.ref a] H Q :=
  ⟨a, List.replicate n true, rfl, by rw [List.map_replicate]; exact SqL.of h, by
    have : (List.replicate n true).all id = true := by simp
    rw [this]; exact q⟩
theorem hI_mod2 (c : Int) : ∃ g : Bool, c % 2 = hI g := hI_mod c
theorem Inv5.start {C : Addr} {Hh HL He H5 H6 H7 : Hp} {Z pc x0 x1 xb : Addr} {cs : List Int} {AL : LA} {A : SA} {S : LS} (L : LoomAt C HL AL S) (fL : ∀ x ∈ AL.all, Fre Hh x) (D : StandAt He A S) (hA : ∀ x ∈ A.all, Lives Hh x ∨ Fre HL x) (k : Kp [] HL He) (kx : Kp [x0, x1, xb] He H5)
    (l0 : Lives Hh x0) (l1 : Lives Hh x1) (lb : Lives Hh xb) (nA : ∀ x ∈ A.all, x ∉ [x0, x1, xb]) (fZ : Fre H5 Z) (kZ : Kp [] H5 H6) (eZ : H6 Z = some (.lst [])) (fp : Fre H6 pc) (kp : Kp [] H6 H7) (ep : H7 pc = some (.lst (cs.map V.int))) (o : S.Ok) (b : S.boxes.length ≤ 100) : Inv5 C H7 Z pc cs AL A S [] := by
  have nL : ∀ x ∈ AL.all, x ∉ [x0, x1, xb] := fun x hx z => by
    simp only [List.mem_cons, List.not_mem_nil, or_false] at z
    rcases z with z | z | z
    · exact l0.ne (fL x hx) z.symm
    · exact l1.ne (fL x hx) z.symm
    · exact lb.ne (fL x hx) z.symm
  have L5 := (L.keep0 k).keepA kx nL
  have D5 := D.keepA kx nA
  have nz : ∀ x, Lives H5 x → x ≠ Z := fun x l => l.ne fZ
  have zp : Lives H6 Z := ⟨_, eZ⟩
  refine ⟨(L5.keep0 kZ).keep0 kp, (D5.keep0 kZ).keep0 kp, o, b, ep, kp.get0 eZ, fun z => ?_, fun x hx z => ?_, fun x hx => nz x (L5.live x hx), fun pr h => by cases h⟩
  · rcases List.mem_cons.mp z with z | z
    · exact zp.ne fp z.symm
    · exact ((L5.live _ (LA.fp_sub z)).kp kZ).ne fp rfl
  · rcases List.mem_cons.mp z with z | z
    · exact nz x (D5.live x hx) z
    · rcases hA x hx with h | h
      · exact h.ne (fL x (LA.fp_sub z)) rfl
      · exact (L.live x (LA.fp_sub z)).ne h rfl
end G

namespace G
open PySem PySem.Spec PyProof.Rows L2
/-! ### a dict whose keys are nested tuples -/
mutual
/-- the value v in the heap H is the key k -/
inductive NK (H : Hp) : NestedKey → V → Prop
  | non : NK H .none .non
  | int (i : Int) : NK H (.num i) (.int i)
  | tup {a : Addr} {vs : List V} {ks : List NestedKey} : H a = some (.tup vs) → NKs H ks vs → NK H (.tup ks) (.ref a)
inductive NKs (H : Hp) : List NestedKey → List V → Prop
  | nil : NKs H [] []
  | cons {k : NestedKey} {v : V} {ks : List NestedKey} {vs : List V} : NK H k v → NKs H ks vs → NKs H (k :: ks) (v :: vs)
end
mutual
theorem NK.is {P : Program} {w : World} {H : Hp} {h : Heap} (ok : HOk P w H h) : ∀ (k : NestedKey) (v : V) (u : Value), NK H k v → RelV v u → NestedIs h k u
  | .none, _, u, x, r => by
    cases x
    obtain rfl : u = Value.none := r
    exact .none
  | .num i, _, u, x, r => by
    cases x
    obtain ⟨t, rfl⟩ : ∃ t, u = Value.int i t := r
    exact .int i t
  | .text y, _, u, x, r => by cases x
  | .tup ks, _, u, x, r => by
    cases x with
    | @tup a vs _ ha hk =>
      obtain rfl : u = Value.ref a := r
      obtain ⟨_, its, rv, o, h1, h2, n, h3⟩ := (show ObjOk P w H h a (.tup vs) from ok a _ ha)
      exact .tup h1 h2 h3 (by simpa using NKs.is ok ks vs its hk rv)
theorem NKs.is {P : Program} {w : World} {H : Hp} {h : Heap} (ok : HOk P w H h) : ∀ (ks : List NestedKey) (vs : List V) (us : List Value), NKs H ks vs → Vals vs us → NestedAll h ks us
  | [], _, us, x, r => by cases x; cases r; exact .nil
  | k :: ks, _, us, x, r => by
    cases x with
    | cons x1 x2 =>
      cases r with
      | cons r1 r2 => exact .cons (NK.is ok k _ _ x1 r1) (NKs.is ok ks _ _ x2 r2)
end
mutual
theorem NK.keep {H H' : Hp} (kp : ∀ b ys, H b = some (.tup ys) → H' b = some (.tup ys)) : ∀ (k : NestedKey) (v : V), NK H k v → NK H' k v
  | .none, _, x => by cases x; exact .non
  | .num i, _, x => by cases x; exact .int i
  | .text y, _, x => by cases x
  | .tup ks, _, x => by
    cases x with
    | tup ha hk => exact .tup (kp _ _ ha) (NKs.keep kp ks _ hk)
theorem NKs.keep {H H' : Hp} (kp : ∀ b ys, H b = some (.tup ys) → H' b = some (.tup ys)) : ∀ (ks : List NestedKey) (vs : List V), NKs H ks vs → NKs H' ks vs
  | [], _, x => by cases x; exact .nil
  | k :: ks, _, x => by
    cases x with
    | cons x1 x2 => exact .cons (NK.keep kp k _ x1) (NKs.keep kp ks _ x2)
end
theorem NKs.ints {H : Hp} : ∀ xs : List Int, NKs H (xs.map NestedKey.num) (xs.map V.int)
  | [] => .nil
  | x :: r => .cons (.int x) (NKs.ints r)
abbrev Ents := List (NestedKey × Addr × Value)
/-- the dict at a: its entries, in order -/
def knO (P : Program) (w : World) (a : Addr) (xs : Ents) : HO := .ext fun h => (a == sysModules) = false ∧ ∃ o es ep, h.get? a = some o ∧ o.ExactDict ∧ o.data = .dict es ep ∧ es.toList = xs.map (entryOfKey (nestedKind P w)) ∧ (xs.map (·.1)).Nodup
/-- its keys are there -/
def EntsOk (H : Hp) (xs : Ents) : Prop := ∀ q ∈ xs, NK H q.1 (.ref q.2.1) ∧ q.1.depth ≤ 8
theorem EntsOk.keep {W : List Addr} {H H' : Hp} {xs : Ents} (e : EntsOk H xs) (k : Kp W H H') : EntsOk H' xs := fun q hq => ⟨NK.keep (fun _ _ h => k.getT h) _ _ (e q hq).1, (e q hq).2⟩
theorem kn_ok {P : Program} {w : World} {H : Hp} {h : Heap} {a : Addr} {xs : Ents} (hd : (a == sysModules) = false) (x : ∃ o es ep, h.get? a = some o ∧ o.ExactDict ∧ o.data = .dict es ep ∧ es.toList = xs.map (entryOfKey (nestedKind P w)) ∧ (xs.map (·.1)).Nodup) : ObjOk P w H h a (knO P w a xs) := by
  obtain ⟨o, es, ep, h1, h2⟩ := x
  exact ⟨⟨hd, o, es, ep, h1, h2⟩, ⟨o, h1⟩, fun g1 g2 ⟨hd, o, es, ep, q1, q2⟩ k => ⟨hd, o, es, ep, k o q1, q2⟩⟩
theorem kn_at {P : Program} {w : World} {H : Hp} {h : Heap} {a : Addr} {xs : Ents} (ok : HOk P w H h) (e : H a = some (knO P w a xs)) (ek : EntsOk H xs) : (a == sysModules) = false ∧ h.DictOfH (nestedKind P w) a xs := by
  obtain ⟨⟨hd, o, es, ep, h1, h2, h3, h4, h5⟩, _, _⟩ := (show ObjOk P w H h a (knO P w a xs) from ok a _ e)
  exact ⟨hd, o, es, ep, h1, h2, h3, h4, fun x hx => ⟨NK.is ok _ _ _ (ek x hx).1 rfl, (ek x hx).2⟩, h5⟩
/-- {} -/
def tNewKn (P : Program) (w : World) : TE := fun _ H Q => ∀ p, H p = none → Q (.ref p) (upd H p (knO P w p []))
theorem pe_newKn {X : Cx} {pos : Pos} (P : Program) (w : World) (eP : X.prog = P) (ew : X.w = w) : PE X (.Dict [] [] pos) (tNewKn P w) := eP ▸ ew ▸ ⟨fun pins s σ H Q I h =>
  wpAny_Dict_empty ⟨.ref s.heap.objs.size, _, I.laid (a := s.heap.objs.size) (o := knO X.prog X.w s.heap.objs.size []) (t' := s.toks) (fun _ _ q => Heap.get?_push_of_some _ q) (Nat.le_refl _)
    (kn_ok (beq_eq_false_iff_ne.mpr (Ne.symm (Nat.ne_of_lt I.big))) ⟨_, #[], 0, Heap.get?_push_size _ rfl, ⟨rfl, rfl, rfl⟩, rfl, rfl, List.nodup_nil⟩), rfl, h _ (I.hok.fresh (Nat.le_refl _))⟩⟩
/-- y not in d -/
def rNotInKn (P : Program) (w : World) : R2 := fun y x H Q => ∃ (a b : Addr) (k : NestedKey) (xs : Ents), x = .ref a ∧ y = .ref b ∧ H a = some (knO P w a xs) ∧ EntsOk H xs ∧ NK H k (.ref b) ∧ k.depth ≤ 8 ∧ Q (.bl (!(atKey xs k).isSome)) H
theorem op_notInKn {X : Cx} (P : Program) (w : World) (eP : X.prog = P) (ew : X.w = w) (hu : X.A.units + 9 < cLine) : OpR X (compareOp .NotIn) (rNotInKn P w) := by
  subst eP ew
  intro pins s σ H x y v u Q I rx ry h
  obtain ⟨a, b, k, xs, rfl, rfl, e, ek, nk, dk, q⟩ := h
  obtain rfl : u = Value.ref a := ry
  obtain rfl : v = Value.ref b := rx
  obtain ⟨hd, dd⟩ := kn_at I.hok e ek
  refine wpAny_notIn_heap (knd := nestedKind X.prog X.w) (show _ + 8 < cLine by simp only [Around.in1_units]; omega) ⟨NK.is I.hok _ _ _ nk rfl, dk⟩ hd dd ?_
  exact ⟨.bl (!(atKey xs k).isSome), _, I.tok _, rfl, q⟩
/-- d[y] = v -/
def rSetKn (P : Program) (w : World) : V → V → V → Hp → (Hp → Prop) → Prop := fun x y v H Q => ∃ (a b : Addr) (k : NestedKey) (xs : Ents) (z : Bool), x = .ref a ∧ y = .ref b ∧ v = .bl z ∧ H a = some (knO P w a xs) ∧ EntsOk H xs ∧ NK H k (.ref b) ∧ k.depth ≤ 8 ∧ xs.length < sizeLine ∧ Q (upd H a (knO P w a (storedH xs k b (.bool z))))
theorem set_kn {X : Cx} (P : Program) (w : World) (eP : X.prog = P) (ew : X.w = w) (hu : X.A.units + 9 < cLine) : PSet X (rSetKn P w) := by
  subst eP ew
  intro pins s σ H o i v ov iv u Q I ro ri rv h
  obtain ⟨a, b, k, xs, z, rfl, rfl, rfl, e, ek, nk, dk, hl, q⟩ := h
  obtain rfl : ov = Value.ref a := ro
  obtain rfl : iv = Value.ref b := ri
  obtain rfl : u = Value.bool z := rv
  obtain ⟨hd, dd⟩ := kn_at I.hok e ek
  refine wpAny_setItem_heap (knd := nestedKind X.prog X.w) (hsz := Nat.le_of_lt hl) (show _ + 8 < cLine by simp only [Around.in1_units]; omega) ⟨NK.is I.hok _ _ _ nk rfl, dk⟩ dd fun h' dd' hs => ?_
  obtain ⟨o, es, ep, hq, h2, h3, h4, _, h5⟩ := dd'
  exact ⟨_, d_write I (by rw [e]; exact True.intro) hs ⟨o, hq⟩ (kn_ok hd ⟨o, es, ep, hq, h2, h3, h4, h5⟩), q⟩
/-! ### one lemma a construct -/
theorem u9 {n m : Nat} (h : n + 64 < m) : n + 9 < m := by omega
theorem vNewKn {P : Program} {w : World} {σ : St} {H : Hp} {Q : VK} (q : ∀ p H', Fre H p → Kp [] H H' → H' p = some (knO P w p []) → Q (.ref p) H') : tNewKn P w σ H Q := fun p hp => q p _ ⟨hp⟩ (Kp.new hp) upd_same
theorem vNotInKn {P : Program} {w : World} {H : Hp} {Q : VK} {a b : Addr} {k : NestedKey} {xs : Ents} (e : H a = some (knO P w a xs)) (ek : EntsOk H xs) (nk : NK H k (.ref b)) (dk : k.depth ≤ 8) (q : Q (.bl (!(atKey xs k).isSome)) H) : rNotInKn P w (.ref b) (.ref a) H Q := ⟨a, b, k, xs, rfl, rfl, e, ek, nk, dk, q⟩
theorem vSetKn {P : Program} {w : World} {H : Hp} {q : Hp → Prop} {a b : Addr} {k : NestedKey} {xs : Ents} {z : Bool} (e : H a = some (knO P w a xs)) (ek : EntsOk H xs) (nk : NK H k (.ref b)) (dk : k.depth ≤ 8) (hl : xs.length < sizeLine) (n : atKey xs k = none)
    (q1 : ∀ H', Kp [a] H H' → H' a = some (knO P w a (xs ++ [(k, b, .bool z)])) → q H') : rSetKn P w (.ref a) (.ref b) (.bl z) H q :=
  ⟨a, b, k, xs, z, rfl, rfl, rfl, e, ek, nk, dk, hl, by
    have es : storedH xs k b (.bool z) = xs ++ [(k, b, .bool z)] := by
      unfold storedH
      rw [n]; rfl
    rw [es]
    exact q1 _ (Kp.wr e) upd_same⟩
theorem EntsOk.push {H : Hp} {xs : Ents} {k : NestedKey} {b : Addr} {v : Value} (e : EntsOk H xs) (nk : NK H k (.ref b)) (dk : k.depth ≤ 8) : EntsOk H (xs ++ [(k, b, v)]) := fun q hq => by
  rcases List.mem_append.mp hq with h | h
  · exact e q h
  · simp only [List.mem_singleton] at h
    subst h
    exact ⟨nk, dk⟩
theorem EntsOk.nil {H : Hp} : EntsOk H [] := fun q hq => by cases hq
theorem atKey_iff {xs : Ents} {k : NestedKey} : (atKey xs k).isSome = true ↔ k ∈ xs.map (·.1) := by
  unfold atKey
  rw [Option.isSome_map, List.find?_isSome]
  simp only [List.mem_map, decide_eq_true_eq]
theorem atKey_none {xs : Ents} {k : NestedKey} : atKey xs k = none ↔ k ∉ xs.map (·.1) := by
  rw [← atKey_iff]
  cases atKey xs k <;> simp
/-! ### a target of more than one name -/
theorem vGTup {K : PySem.W.Frag} {n : Nat} {t : TGs} {a : Addr} {xs : List V} {σ : St} {H : Hp} {Q : St → Hp → Prop} (h : SqT K H a xs) (hl : xs.length = n) (q : t xs σ H Q) : gTup K n t (.ref a) σ H Q := ⟨a, xs, rfl, h, hl, q⟩
theorem vGCons {t : TG} {u : TGs} {v : V} {r : List V} {σ : St} {H : Hp} {Q : St → Hp → Prop} (h : t v σ H fun σ' H' => u r σ' H' Q) : gCons t u (v :: r) σ H Q := ⟨v, r, rfl, h⟩
theorem vGNil {σ : St} {H : Hp} {Q : St → Hp → Prop} (q : Q σ H) : gNil [] σ H Q := ⟨rfl, q⟩
end G

namespace G
open PySem PySem.Spec PyProof.Rows L2
/-! ### ways, and all that are one step longer -/
def hdKey : Option Bool → NestedKey
  | none => .none | some h => .num (hI h)
def keyS (S : LS) : NestedKey := .tup [.tup [.num (S.pl false), .num (S.pl true)], .tup [.num (S.num false), .num (S.num true)], .tup (S.boxes.map NestedKey.num), hdKey S.hd]
theorem hdKey_inj {a b : Option Bool} (h : hdKey a = hdKey b) : a = b := by
  cases a with
  | none => cases b with
    | none => rfl
    | some y => cases h
  | some x => cases b with
    | none => cases h
    | some y => cases x <;> cases y <;> first | rfl | (simp [hdKey, hI] at h)
theorem num_inj {xs ys : List Int} (h : xs.map NestedKey.num = ys.map NestedKey.num) : xs = ys := (List.map_inj_right (fun _ _ e => NestedKey.num.inj e)).mp h
theorem keyS_inj {S T : LS} (er : S.rows = T.rows) (h : keyS S = keyS T) : S = T := by
  unfold keyS at h
  simp only [NestedKey.tup.injEq, List.cons.injEq, NestedKey.num.injEq, and_true] at h
  obtain ⟨⟨p0, p1⟩, ⟨n0, n1⟩, hb, hh⟩ := h
  have eb := num_inj hb
  have eh := hdKey_inj hh
  have ep : S.pl = T.pl := by funext g; cases g <;> omega
  have en : S.num = T.num := by funext g; cases g <;> assumption
  cases S; cases T
  simp only at er eb eh ep en
  subst er eb eh ep en
  rfl
theorem depth_nums : ∀ xs : List Int, NestedKey.depthAll (xs.map NestedKey.num) = 0
  | [] => rfl
  | x :: r => by rw [List.map_cons, NestedKey.depthAll, depth_nums r]; rfl
theorem keyS_depth (S : LS) : (keyS S).depth ≤ 8 := by
  have h : (hdKey S.hd).depth = 0 := by cases S.hd <;> rfl
  simp only [keyS, NestedKey.depth, NestedKey.depthAll, depth_nums, h]
  omega
theorem nk_hd {H : Hp} (o : Option Bool) : NK H (hdKey o) (hV o) := by
  cases o with
  | none => exact .non
  | some h => exact .int _
theorem nk_stand {H : Hp} {S : LS} {b p q r : Addr} (e : H b = some (.tup [.ref p, .ref q, .ref r, hV S.hd])) (ep : H p = some (.tup [.int (S.pl false), .int (S.pl true)])) (eq : H q = some (.tup [.int (S.num false), .int (S.num true)])) (er : H r = some (.tup (S.boxes.map V.int))) : NK H (keyS S) (.ref b) :=
  .tup e (.cons (.tup ep (.cons (.int _) (.cons (.int _) .nil))) (.cons (.tup eq (.cons (.int _) (.cons (.int _) .nil))) (.cons (.tup er (NKs.ints _)) (.cons (nk_hd _) .nil))))
abbrev Way := LS × List Bool
def WayAt (C : Addr) (H : Hp) (W : List Addr) (t : Addr) (w : Way) : Prop := ∃ (A : LA) (l : Addr), H t = some (.tup [.ref A.p, .ref l]) ∧ LoomAt C H A w.1 ∧ H l = some (.lst (hs2V w.2)) ∧ l ∉ W ∧ ∀ x ∈ A.all, x ∉ W
theorem WayAt.keep {C : Addr} {H H' : Hp} {W W' : List Addr} {t : Addr} {w : Way} (h : WayAt C H W t w) (k : Kp W' H H') (s : ∀ a ∈ W', a ∈ W) : WayAt C H' W t w := by
  obtain ⟨A, l, e, L, el, n1, n2⟩ := h
  exact ⟨A, l, k.getT e, L.keepA k fun x hx z => n2 x hx (s _ z), k.get el fun z => n1 (s _ z), n1, n2⟩
theorem WayAt.sub {C : Addr} {H : Hp} {W W' : List Addr} {t : Addr} {w : Way} (h : WayAt C H W t w) (s : ∀ a ∈ W', a ∈ W ∨ Fre H a) : WayAt C H W' t w := by
  obtain ⟨A, l, e, L, el, n1, n2⟩ := h
  exact ⟨A, l, e, L, el, fun z => (s _ z).elim n1 fun f => Lives.ne ⟨_, el⟩ f rfl, fun x hx z => (s _ z).elim (n2 x hx) fun f => (L.live x hx).ne f rfl⟩
structure WaysAt (C : Addr) (H : Hp) (W : List Addr) (ts : List Addr) (ws : List Way) : Prop where
  n : ts.length = ws.length
  e : ∀ (i : Nat) (t : Addr) (w : Way), ts[i]? = some t → ws[i]? = some w → WayAt C H W t w
theorem WaysAt.keep {C : Addr} {H H' : Hp} {W W' : List Addr} {ts : List Addr} {ws : List Way} (h : WaysAt C H W ts ws) (k : Kp W' H H') (s : ∀ a ∈ W', a ∈ W) : WaysAt C H' W ts ws := ⟨h.n, fun i t w h1 h2 => (h.e i t w h1 h2).keep k s⟩
theorem WaysAt.sub {C : Addr} {H : Hp} {W W' : List Addr} {ts : List Addr} {ws : List Way} (h : WaysAt C H W ts ws) (s : ∀ a ∈ W', a ∈ W ∨ Fre H a) : WaysAt C H W' ts ws := ⟨h.n, fun i t w h1 h2 => (h.e i t w h1 h2).sub s⟩
theorem WaysAt.nil {C : Addr} {H : Hp} {W : List Addr} : WaysAt C H W [] [] := ⟨rfl, fun i t w h => by simp at h⟩
theorem WaysAt.push {C : Addr} {H : Hp} {W : List Addr} {ts : List Addr} {ws : List Way} {t : Addr} {w : Way} (h : WaysAt C H W ts ws) (x : WayAt C H W t w) : WaysAt C H W (ts ++ [t]) (ws ++ [w]) := by
  refine ⟨by simp [h.n], fun i t' w' h1 h2 => ?_⟩
  by_cases hi : i < ts.length
  · rw [List.getElem?_append_left hi] at h1
    rw [List.getElem?_append_left (by rw [← h.n]; exact hi)] at h2
    exact h.e i t' w' h1 h2
  · rw [List.getElem?_append_right (by omega)] at h1
    rw [List.getElem?_append_right (by rw [← h.n]; omega), ← h.n] at h2
    have hz : i - ts.length = 0 := by
      have := (List.getElem?_eq_some_iff.mp h1).1
      simp only [List.length_singleton] at this
      omega
    rw [hz] at h1 h2
    simp only [List.getElem?_cons_zero, Option.some.injEq] at h1 h2
    subst h1 h2
    exact x
/-- one more, where its stand is new -/
def addW (acc : List Way) (w : Way) : List Way := if keyS w.1 ∈ acc.map (fun x => keyS x.1) then acc else acc ++ [w]
/-- a way and a hand more -/
def candW (w : Way) (g : Bool) : List Way := if goesB w.1 g = true then match w.1.next g with
  | some s => [(w.1.eff g s, w.2 ++ [g])]
  | none => [] else []
def growF (ws : List Way) : List Way := (ws.flatMap fun w => candW w false ++ candW w true).foldl addW []
def WOk (w : Way) : Prop := w.1.Ok ∧ w.1.boxes.length ≤ 100 ∧ w.2.length ≤ 100 ∧ ∀ g, goesB w.1 g = true → w.1.err g = none
def spGrown (C : Addr) : Sp := fun vs H Q _ => ∃ (a : Addr) (ts : List Addr) (ws : List Way), vs = [.ref a] ∧ H a = some (.lst (ts.map V.ref)) ∧ WaysAt C H [] ts ws ∧ (∀ w ∈ ws, WOk w) ∧ ws.length ≤ 100000 ∧
  ∀ b ts' H', Fre H b → Kp [] H H' → H' b = some (.lst (ts'.map V.ref)) → WaysAt C H' [] ts' (growF ws) → Q (.ref b) H'
theorem growF_snoc (ws : List Way) (w : Way) : growF (ws ++ [w]) = (candW w true).foldl addW ((candW w false).foldl addW (growF ws)) := by
  unfold growF
  rw [List.flatMap_append, List.foldl_append]
  simp [List.foldl_append]
theorem addW_len (acc : List Way) (w : Way) : (addW acc w).length ≤ acc.length + 1 := by
  unfold addW; split <;> simp
theorem candW_fold (acc : List Way) (w : Way) (g : Bool) : ((candW w g).foldl addW acc).length ≤ acc.length + 1 := by
  unfold candW
  split
  · split
    · exact addW_len _ _
    · simp
  · simp
/-- while ways are found -/
structure Grows (P : Program) (pw : World) (C : Addr) (H H' : Hp) (F D : Addr) (ts : List Addr) (acc : List Way) : Prop where
  k : Kp [] H H'
  f : H' F = some (.lst (ts.map V.ref))
  w : WaysAt C H' [F, D] ts acc
  d : ∃ xs, H' D = some (knO P pw D xs) ∧ EntsOk H' xs ∧ xs.map (·.1) = acc.map (fun x => keyS x.1)
theorem Grows.keep0 {P : Program} {pw : World} {C : Addr} {H H' H2 : Hp} {F D : Addr} {ts : List Addr} {acc : List Way} (g : Grows P pw C H H' F D ts acc) (k : Kp [] H' H2) : Grows P pw C H H2 F D ts acc := by
  obtain ⟨xs, e, ek, ex⟩ := g.d
  exact ⟨g.k.trans k, k.get0 g.f, g.w.keep k (fun _ h => by cases h), xs, k.get0 e, ek.keep k, ex⟩
/-- a way is put in -/
theorem Grows.put {P : Program} {pw : World} {C : Addr} {H H1 H2 H3 H4 : Hp} {F D : Addr} {ts : List Addr} {acc : List Way} {xs : Ents} {b t l : Addr} {A : LA} {w : Way} (g : Grows P pw C H H1 F D ts acc) (fF : Fre H F) (fD : Fre H D) (e : H1 D = some (knO P pw D xs)) (ek : EntsOk H1 xs) (ex : xs.map (·.1) = acc.map (fun x => keyS x.1))
    (nk : NK H1 (keyS w.1) (.ref b)) (k2 : Kp [D] H1 H2) (e2 : H2 D = some (knO P pw D (xs ++ [(keyS w.1, b, .bool true)]))) (L : LoomAt C H1 A w.1) (nA : ∀ x ∈ A.all, x ∉ [F, D]) (fl : Fre H2 l) (k3 : Kp [] H2 H3) (el : H3 l = some (.lst (hs2V w.2))) (et : H3 t = some (.tup [.ref A.p, .ref l]))
    (k4 : Kp [F] H3 H4) (e4 : H4 F = some (.lst (ts.map V.ref ++ [.ref t]))) : Grows P pw C H H4 F D (ts ++ [t]) (acc ++ [w]) := by
  have hFD : F ≠ D := fun z => by
    have := g.f
    rw [z, e] at this
    cases this
  have s2 : ∀ a ∈ [D], a ∈ [F, D] := fun a h => by simp at h; simp [h]
  have s4 : ∀ a ∈ [F], a ∈ [F, D] := fun a h => by simp at h; simp [h]
  have lF : Lives H2 F := (Lives.kp ⟨_, g.f⟩ k2)
  have lD : Lives H2 D := ⟨_, e2⟩
  have nl : l ∉ [F, D] := fun z => by
    simp only [List.mem_cons, List.not_mem_nil, or_false] at z
    rcases z with z | z
    · exact lF.ne fl z.symm
    · exact lD.ne fl z.symm
  have kk : Kp [] H H4 := ((g.k.step k2 fun a h => .inr (by simp at h; rw [h]; exact fD)).trans k3).step k4 fun a h => .inr (by simp at h; rw [h]; exact fF)
  have L4 : LoomAt C H4 A w.1 := ((L.keepA k2 fun x hx z => nA x hx (s2 _ z)).keep0 k3).keepA k4 fun x hx z => nA x hx (s4 _ z)
  have el4 := k4.get el fun z => nl (s4 _ z)
  have et4 := k4.getT et
  refine ⟨kk, by rw [List.map_append]; exact e4, ?_, _, k4.get (k3.get0 e2) (by simpa using fun z => hFD z.symm), (((ek.push nk (keyS_depth _)).keep k2).keep k3).keep k4, by rw [List.map_append, List.map_append, ex]; rfl⟩
  exact (((g.w.keep k2 s2).keep k3 fun _ h => by cases h).keep k4 s4).push ⟨A, l, et4, L4, el4, nl, nA⟩
def accJ (w : Way) (G : List Way) : Nat → List Way
  | 0 => G
  | 1 => (candW w false).foldl addW G
  | _ => (candW w true).foldl addW ((candW w false).foldl addW G)
theorem accJ_step {j : Nat} {x : V} (h : [V.int 0, V.int 1][j]? = some x) (w : Way) (G : List Way) : ∃ g : Bool, x = .int (hI g) ∧ accJ w G (j + 1) = (candW w g).foldl addW (accJ w G j) := by
  rcases j with _ | _ | j
  · cases h; exact ⟨false, rfl, rfl⟩
  · cases h; exact ⟨true, rfl, rfl⟩
  · simp at h
theorem len_ways {n : Nat} (h : n < 1000000) : n < sizeLine := Nat.lt_of_lt_of_le h (by decide +kernel)
theorem useGrown {C : Addr} {H : Hp} {Q : VK} {E : XK} {a : Addr} {ts : List Addr} {ws : List Way} (ha : H a = some (.lst (ts.map V.ref))) (hw : WaysAt C H [] ts ws) (ho : ∀ w ∈ ws, WOk w) (hl : ws.length ≤ 100000)
    (k : ∀ b ts' H', Fre H b → Kp [] H H' → H' b = some (.lst (ts'.map V.ref)) → WaysAt C H' [] ts' (growF ws) → Q (.ref b) H') : spGrown C [.ref a] H Q E := ⟨a, ts, ws, rfl, ha, hw, ho, hl, k⟩
def spPlain : Sp := fun vs H Q _ => ∃ (a0 a1 b o : Addr) (p0 p1 : List Addr) (r0 r1 : List Stp) (bs : List Int) (hs : List Bool), vs = [.ref a0, .ref a1, .ref b, .ref o] ∧ RowAt H a0 p0 r0 ∧ RowAt H a1 p1 r1 ∧ H b = some (.lst (bs.map V.int)) ∧ H o = some (.lst (hs2V hs)) ∧ (LS.start (two r0 r1) bs).Ok ∧
  (∀ e, (LS.start (two r0 r1) bs).run hs = .error e → e = .waits) ∧
  (∀ e H', (LS.start (two r0 r1) bs).run hs = .error e → Kp [] H H' → Q .non H') ∧
  (∀ S p l n H', (LS.start (two r0 r1) bs).run hs = .ok S → Fre H p → Fre H l → Fre H n → l ≠ n → Kp [] H H' → H' p = some (.tup [.ref l, .ref n]) → H' l = some (.lst (S.boxes.map V.int)) → H' n = some (.lst [.int (S.num false), .int (S.num true)]) → Q (.ref p) H')
end G

namespace G
open PySem PySem.Spec PyProof.Rows L2
/-! ### all ways of n steps -/
theorem fold_sub : ∀ (l acc : List Way) (w : Way), w ∈ l.foldl addW acc → w ∈ acc ∨ w ∈ l
  | [], acc, w, h => .inl h
  | x :: r, acc, w, h => by
    rw [List.foldl_cons] at h
    rcases fold_sub r (addW acc x) w h with h | h
    · unfold addW at h
      split at h
      · exact .inl h
      · rcases List.mem_append.mp h with h | h
        · exact .inl h
        · exact .inr (by simp at h; simp [h])
    · exact .inr (List.mem_cons_of_mem _ h)
theorem fold_acc : ∀ (l acc : List Way) (w : Way), w ∈ acc → w ∈ l.foldl addW acc
  | [], acc, w, h => h
  | x :: r, acc, w, h => by
    rw [List.foldl_cons]
    refine fold_acc r _ w ?_
    unfold addW
    split
    · exact h
    · exact List.mem_append_left _ h
theorem fold_all : ∀ (l acc : List Way) (w : Way), w ∈ l → ∃ v ∈ l.foldl addW acc, keyS v.1 = keyS w.1
  | [], acc, w, h => by cases h
  | x :: r, acc, w, h => by
    rw [List.foldl_cons]
    rcases List.mem_cons.mp h with h | h
    · subst h
      have : ∃ v ∈ addW acc w, keyS v.1 = keyS w.1 := by
        unfold addW
        split
        · rename_i hm
          obtain ⟨v, hv, e⟩ := List.mem_map.mp hm
          exact ⟨v, hv, e⟩
        · exact ⟨w, List.mem_append_right _ (List.mem_singleton.mpr rfl), rfl⟩
      obtain ⟨v, hv, e⟩ := this
      exact ⟨v, fold_acc r _ v hv, e⟩
    · exact fold_all r _ w h
structure AllWays (S0 : LS) (n : Nat) (ws : List Way) : Prop where
  s : ∀ w ∈ ws, S0.run w.2 = .ok w.1 ∧ w.2.length = n
  c : ∀ hs S, hs.length = n → S0.run hs = .ok S → ∃ w ∈ ws, w.1 = S
theorem goesB_of {S : LS} {g : Bool} (o : S.Ok) (h : S.err g = none) : goesB S g = true := by
  obtain ⟨s, hs⟩ := err_next h
  have hl := (List.getElem?_eq_some_iff.mp (show (S.rows g)[S.pl g]? = some s from hs)).1
  have h1 : S.over g = false := by
    unfold LS.over
    exact decide_eq_false (by omega)
  have h2 : S.waits g = false := by
    cases hw : S.waits g with
    | false => rfl
    | true => rw [err_waits hs hw] at h; cases h
  unfold goesB
  rw [h1, h2]; rfl
theorem AllWays.start (S0 : LS) : AllWays S0 0 [(S0, [])] where
  s := fun w h => by simp at h; subst h; exact ⟨rfl, rfl⟩
  c := fun hs S h hr => by
    cases hs with
    | nil => cases hr; exact ⟨_, List.mem_singleton.mpr rfl, rfl⟩
    | cons a b => simp at h
theorem AllWays.step {S0 : LS} {n : Nat} {ws : List Way} (a : AllWays S0 n ws) (o : S0.Ok) (hg : ∀ w ∈ ws, ∀ g, goesB w.1 g = true → w.1.err g = none) : AllWays S0 (n + 1) (growF ws) where
  s := fun w h => by
    unfold growF at h
    rcases fold_sub _ _ w h with h | h
    · cases h
    obtain ⟨v, hv, hm⟩ := List.mem_flatMap.mp h
    obtain ⟨hr, hl⟩ := a.s v hv
    have key : ∀ g, w ∈ candW v g → S0.run w.2 = .ok w.1 ∧ w.2.length = n + 1 := fun g hm => by
      unfold candW at hm
      split at hm
      · rename_i hgo
        cases hn : v.1.next g with
        | none => rw [hn] at hm; cases hm
        | some s =>
          rw [hn] at hm
          simp only [List.mem_singleton] at hm
          subst hm
          exact ⟨by rw [run_snoc g hr, run_one, stepE_ok (hg v hv g hgo) hn], by simp [hl]⟩
      · cases hm
    rcases List.mem_append.mp hm with hm | hm
    · exact key _ hm
    · exact key _ hm
  c := fun hs S hl hr => by
    obtain ⟨hs', g, rfl⟩ : ∃ hs' g, hs = hs' ++ [g] := by
      have hne : hs ≠ [] := fun z => by rw [z] at hl; simp at hl
      exact ⟨hs.dropLast, hs.getLast hne, (List.dropLast_concat_getLast hne).symm⟩
    have hl' : hs'.length = n := by simpa using hl
    cases hr' : S0.run hs' with
    | error e => rw [run_append, hr'] at hr; cases hr
    | ok S' =>
      obtain ⟨w, hw, ew⟩ := a.c hs' S' hl' hr'
      have hr2 := hr
      rw [run_snoc g hr', run_one] at hr
      have oS' : S'.Ok := run_Ok o hr'
      cases hx : S'.err g with
      | some e => rw [stepE_err hx] at hr; cases hr
      | none =>
        obtain ⟨s, hs⟩ := err_next hx
        rw [stepE_ok hx hs] at hr
        cases hr
        subst ew
        have hm : (w.1.eff g s, w.2 ++ [g]) ∈ candW w g := by
          unfold candW
          rw [if_pos (goesB_of oS' hx), hs]
          exact List.mem_singleton.mpr rfl
        have hm2 : (w.1.eff g s, w.2 ++ [g]) ∈ ws.flatMap fun w => candW w false ++ candW w true := by
          refine List.mem_flatMap.mpr ⟨w, hw, ?_⟩
          cases g
          · exact List.mem_append_left _ hm
          · exact List.mem_append_right _ hm
        obtain ⟨v, hv, ek⟩ := fold_all _ [] _ hm2
        refine ⟨v, hv, keyS_inj ?_ ek⟩
        have r1 : v.1.rows = S0.rows := by
          rcases fold_sub _ _ v hv with h | h
          · cases h
          obtain ⟨u, hu, hmu⟩ := List.mem_flatMap.mp h
          have ru := (run_left (a.s u hu).1).1
          have key : ∀ g, v ∈ candW u g → v.1.rows = S0.rows := fun g hm => by
            unfold candW at hm
            split at hm
            · cases hn : u.1.next g with
              | none => rw [hn] at hm; cases hm
              | some s =>
                rw [hn] at hm
                simp only [List.mem_singleton] at hm
                subst hm
                show (u.1.eff g s).rows = _
                rw [eff_rows, ru]
            · cases hm
          rcases List.mem_append.mp hmu with hm | hm
          · exact key _ hm
          · exact key _ hm
        rw [r1]
        exact ((run_left hr2).1).symm
end G

namespace G
open PySem PySem.Spec PyProof.Rows L2
/-! ### strange orders -/
/-- what an order tells: the boxes and both numbers -/
def tells (S0 : LS) (hs : List Bool) : Option (List Int × (Bool → Int)) := match S0.run hs with
  | .ok S => some (S.boxes, S.num)
  | .error _ => none
def plainA (r0 r1 : List Stp) : List Bool := List.replicate r0.length false ++ List.replicate r1.length true
def plainB (r0 r1 : List Stp) : List Bool := List.replicate r1.length true ++ List.replicate r0.length false
def aloneR (r : List Stp) (bs : List Int) : Except Err LS := LS.alone r bs
def odd (r0 r1 : List Stp) (bs : List Int) (S : LS) : Prop := tells (LS.start (two r0 r1) bs) (plainA r0 r1) ≠ some (S.boxes, S.num) ∧ tells (LS.start (two r0 r1) bs) (plainB r0 r1) ≠ some (S.boxes, S.num)
def spStrange (er : Err → Addr) : Sp := fun vs H Q E => ∃ (a0 a1 b : Addr) (x0 x1 : List V) (c0 c1 : List Thg) (bs : List Int), vs = [.ref a0, .ref a1, .ref b] ∧ H a0 = some (.lst x0) ∧ H a1 = some (.lst x1) ∧ ThRow H x0 c0 ∧ ThRow H x1 c1 ∧ H b = some (.lst (bs.map V.int)) ∧ bs.length ≤ 100 ∧
  (∀ e H', loomErr c0 c1 bs.length = some e → Kp [] H H' → E (.ref (er e)) none H') ∧
  (loomErr c0 c1 bs.length = none → ∀ r0 r1, c0 = r0.map (fun s => some s.enc) → c1 = r1.map (fun s => some s.enc) → (LS.start (two r0 r1) bs).Ok →
    (5 < r0.length ∨ 5 < r1.length → ∀ H', Kp [] H H' → E (.ref (er .tooMany)) none H') ∧
    (r0.length ≤ 5 → r1.length ≤ 5 → 
      (∀ e H', aloneR r0 bs = .error e → Kp [] H H' → E (.ref (er e)) none H') ∧
      (∀ T e H', aloneR r0 bs = .ok T → aloneR r1 bs = .error e → Kp [] H H' → E (.ref (er e)) none H') ∧
      (∀ T U, aloneR r0 bs = .ok T → aloneR r1 bs = .ok U →
        (∀ p hs S H', hs.length = r0.length + r1.length → (LS.start (two r0 r1) bs).run hs = .ok S → odd r0 r1 bs S → Kp [] H H' → H' p = some (.lst (hs2V hs)) → Q (.ref p) H') ∧
        (∀ H', (∀ hs S, hs.length = r0.length + r1.length → (LS.start (two r0 r1) bs).run hs = .ok S → ¬ odd r0 r1 bs S) → Kp [] H H' → Q .non H'))))
theorem op_notInDK {X : Cx} (K : PySem.W.Frag) (e : X.K = K) (hu : X.A.units + 65 < cLine) : OpR X (compareOp .NotIn) (rNotInD K) := e ▸ op_notInD hu
theorem u65 {k : Nat} {A : Around} (r : Room k A) : A.units + 65 < cLine := by have := r.un; omega
theorem vNotInD {K : PySem.W.Frag} {H : Hp} {Q : VK} {x y : V} {d : PyData} {ds : List PyData} (h1 : Dp K H x d) (h2 : Dp K H y (.list ds)) (s1 : SeqAt.shaped d = true) (s2 : SeqAt.shaped (.list ds) = true) (q : Q (.bl (!ds.any fun z => PyData.eqv z d)) H) : rNotInD K x y H Q := ⟨d, ds, h1, h2, s1, s2, q⟩
theorem eqvAll_nums : ∀ xs ys : List Int, PyData.eqvAll (xs.map PyData.int) (ys.map PyData.int) = decide (xs = ys)
  | [], [] => by simp [PyData.eqvAll]
  | [], y :: r => by simp [PyData.eqvAll]
  | x :: r, [] => by simp [PyData.eqvAll]
  | x :: r, y :: s => by
    rw [List.map_cons, List.map_cons, PyData.eqvAll, eqvAll_nums r s]
    by_cases h : x = y <;> simp [PyData.eqv, h]
/-- what an order tells, as data -/
def tellDat : Option (List Int × (Bool → Int)) → PyData
  | none => .none
  | some (bs, nm) => .tuple [intsDat bs, intsDat [nm false, nm true]]
theorem eqv_tell (o : Option (List Int × (Bool → Int))) (q : List Int × (Bool → Int)) : PyData.eqv (tellDat o) (tellDat (some q)) = true ↔ o = some q := by
  obtain ⟨bs, nm⟩ := q
  cases o with
  | none => constructor <;> intro h <;> cases h
  | some p =>
    obtain ⟨cs, mm⟩ := p
    have e1 : PyData.eqv (intsDat cs) (intsDat bs) = decide (cs = bs) := by
      unfold intsDat
      rw [PyData.eqv]
      exact eqvAll_nums cs bs
    have e2 : PyData.eqv (intsDat [mm false, mm true]) (intsDat [nm false, nm true]) = decide ([mm false, mm true] = [nm false, nm true]) := by
      unfold intsDat
      rw [PyData.eqv]
      exact eqvAll_nums _ _
    unfold tellDat
    rw [PyData.eqv, PyData.eqvAll, PyData.eqvAll, PyData.eqvAll, e1, e2, Bool.and_true, Bool.and_eq_true, decide_eq_true_iff, decide_eq_true_iff]
    constructor
    · rintro ⟨h1, h2⟩
      have hm : mm = nm := by
        funext g
        cases g
        · exact (List.cons.inj h2).1
        · exact (List.cons.inj (List.cons.inj h2).2).1
      rw [h1, hm]
    · intro h
      cases h
      exact ⟨rfl, rfl⟩
end G

namespace G
open PySem PySem.Spec PyProof.Rows L2
/-! ### a row alone, by its takes and frees -/
def wrongR : Bool → List Stp → Option Err
  | _, [] => none
  | h, s :: r => match s with
    | .take => if h = true then some .again else wrongR true r
    | .free => if h = true then wrongR false r else some .notHeld
    | _ => wrongR h r
theorem wrongR_cons {h : Bool} {s : Stp} {r : List Stp} : wrongR h (s :: r) = if altOk h s = true then wrongR (heldS h s) r else some (if s.isT = true then .again else .notHeld) := by
  cases s <;> cases h <;> simp [wrongR, altOk, heldS, Stp.isT]
theorem wrong_alt : ∀ {r : List Stp} {h : Bool}, wrongR h r = none ↔ alt h r = true
  | [], h => by simp [wrongR, alt]
  | s :: r, h => by
    rw [wrongR_cons, alt_cons]
    cases ho : altOk h s with
    | true => simpa using wrong_alt (r := r) (h := heldS h s)
    | false => simp
theorem wrong_err : ∀ {r : List Stp} {h : Bool} {e : Err}, wrongR h r = some e → e = .again ∨ e = .notHeld
  | [], h, e, x => by simp [wrongR] at x
  | s :: r, h, e, x => by
    rw [wrongR_cons] at x
    split at x
    · exact wrong_err x
    · cases x
      split
      · exact .inl rfl
      · exact .inr rfl
theorem gErr_alt {S : LS} {g : Bool} {s : Stp} : S.gErr g s = if altOk (decide (S.hd = some g)) s = true then none else some (if s.isT = true then .again else .notHeld) := by
  cases s <;> by_cases h : S.hd = some g <;> simp [LS.gErr, altOk, Stp.isT, h]
theorem run_wrong : ∀ (m : Nat) (S : LS), S.hd ≠ some true → S.pl false + m = (S.rows false).length → match wrongR (decide (S.hd = some false)) ((S.rows false).drop (S.pl false)) with
    | some e => S.run (List.replicate m false) = .error e
    | none => ∃ T, S.run (List.replicate m false) = .ok T
  | 0, S, _, hp => by
    rw [List.drop_eq_nil_of_le (by omega)]
    exact ⟨S, rfl⟩
  | m + 1, S, hd, hp => by
    have hl : S.pl false < (S.rows false).length := by omega
    obtain ⟨s, hn⟩ : ∃ s, S.next false = some s := ⟨_, List.getElem?_eq_getElem hl⟩
    have he := errA hd hn
    rw [gErr_alt] at he
    rw [drop_next hn, wrongR_cons, List.replicate_succ]
    cases ho : altOk (decide (S.hd = some false)) s with
    | true =>
      rw [ho] at he
      rw [run_ok he hn]
      have ih := run_wrong m (S.eff false s) (eff_hd hd (by decide)) (by rw [eff_pl, upB_same, eff_rows]; omega)
      rw [eff_rows, eff_pl, upB_same, eff_hdS] at ih
      have e2 : decide (hdS S.hd false s = some false) = heldS (decide (S.hd = some false)) s := by cases s <;> first | rfl | simp [hdS, heldS]
      rw [e2] at ih
      exact ih
    | false =>
      rw [ho] at he
      exact run_err he
theorem alone_wrong (rs : List Stp) (bs : List Int) : match wrongR false rs with
    | some e => LS.alone rs bs = .error e
    | none => ∃ T, LS.alone rs bs = .ok T := run_wrong rs.length (LS.start (two rs []) bs) (fun z => by cases z) (Nat.zero_add _)
theorem alone_alt {rs : List Stp} {bs : List Int} {T : LS} (h : LS.alone rs bs = .ok T) : alt false rs = true := by
  have := alone_wrong rs bs
  cases w : wrongR false rs with
  | none => exact wrong_alt.mp w
  | some e =>
    rw [w] at this
    exact absurd (h.symm.trans this) (by intro z; cases z)
theorem alone_ok {rs : List Stp} (bs : List Int) (h : alt false rs = true) : ∃ T, LS.alone rs bs = .ok T := by
  have := alone_wrong rs bs
  rw [wrong_alt.mpr h] at this
  exact this
theorem alone_no {rs : List Stp} (bs : List Int) {e : Err} (h : wrongR false rs = some e) : LS.alone rs bs = .error e := by
  have := alone_wrong rs bs
  rw [h] at this
  exact this
/-! ### where both rows go on by turns, an order is refused for waiting alone -/
theorem Alt.errs {S : LS} (a : Alt S) {g : Bool} {e : Err} (h : S.err g = some e) : S.next g = none ∨ e = .waits := by
  cases hn : S.next g with
  | none => exact .inl rfl
  | some s =>
    refine .inr ?_
    have ho := (a.ok hn).1
    rw [err_some hn] at h
    cases s with
    | take =>
      simp only [altOk, Bool.not_eq_true', decide_eq_false_iff_not] at ho
      unfold errH at h
      dsimp only at h
      split at h
      · exact (Option.some.inj h).symm
      · first | cases h | (rw [if_neg ho] at h; cases h)
    | free =>
      unfold errH at h
      dsimp only at h
      rw [if_pos (of_decide_eq_true ho)] at h
      cases h
    | _ => cases h
theorem run_waits : ∀ {hs : List Bool} {S : LS} {e : Err}, Alt S → (∀ g, S.pl g + hs.count g ≤ (S.rows g).length) → S.run hs = .error e → e = .waits
  | [], S, e, _, _, h => by cases h
  | g :: hs, S, e, a, hc, h => by
    cases hx : S.err g with
    | some x =>
      rw [run_err hx] at h
      cases h
      rcases a.errs hx with z | z
      · exfalso
        have := hc g
        rw [List.count_cons_self] at this
        have hl : S.pl g < (S.rows g).length := by omega
        have : S.next g = some (S.rows g)[S.pl g] := List.getElem?_eq_getElem hl
        rw [z] at this
        cases this
      · exact z
    | none =>
      obtain ⟨s, hs'⟩ := err_next hx
      rw [run_ok hx hs'] at h
      refine run_waits (a.eff hx hs') (fun k => ?_) h
      have := hc k
      rw [eff_rows, eff_pl]
      by_cases q : k = g
      · subst q
        rw [upB_same]
        rw [List.count_cons_self] at this
        omega
      · rw [upB_ne q]
        rw [List.count_cons_of_ne (fun z => q z.symm)] at this
        exact this
theorem plainA_count (r0 r1 : List Stp) (g : Bool) : (plainA r0 r1).count g = (two r0 r1 g).length := by
  unfold plainA
  rw [List.count_append, List.count_replicate, List.count_replicate]
  cases g <;> simp [two]
theorem plainB_count (r0 r1 : List Stp) (g : Bool) : (plainB r0 r1).count g = (two r0 r1 g).length := by
  unfold plainB
  rw [List.count_append, List.count_replicate, List.count_replicate]
  cases g <;> simp [two]
theorem plainA_waits {r0 r1 : List Stp} {bs : List Int} {e : Err} (a0 : alt false r0 = true) (a1 : alt false r1 = true) (h : (LS.start (two r0 r1) bs).run (plainA r0 r1) = .error e) : e = .waits :=
  run_waits (Alt.start a0 a1) (fun g => by rw [plainA_count]; exact Nat.le_of_eq (Nat.zero_add _)) h
theorem plainB_waits {r0 r1 : List Stp} {bs : List Int} {e : Err} (a0 : alt false r0 = true) (a1 : alt false r1 = true) (h : (LS.start (two r0 r1) bs).run (plainB r0 r1) = .error e) : e = .waits :=
  run_waits (Alt.start a0 a1) (fun g => by rw [plainB_count]; exact Nat.le_of_eq (Nat.zero_add _)) h
/-! ### how many ways -/
theorem fold_len : ∀ (l acc : List Way), (l.foldl addW acc).length ≤ acc.length + l.length
  | [], acc => Nat.le_refl _
  | x :: r, acc => by
    rw [List.foldl_cons, List.length_cons]
    have h1 := fold_len r (addW acc x)
    have h2 := addW_len acc x
    omega
theorem candW_len (w : Way) (g : Bool) : (candW w g).length ≤ 1 := by
  unfold candW
  split
  · split <;> simp
  · simp
theorem flat_len : ∀ ws : List Way, (ws.flatMap fun w => candW w false ++ candW w true).length ≤ 2 * ws.length
  | [] => Nat.zero_le _
  | w :: r => by
    rw [List.flatMap_cons, List.length_append, List.length_append, List.length_cons]
    have := flat_len r
    have := candW_len w false
    have := candW_len w true
    omega
theorem growF_len (ws : List Way) : (growF ws).length ≤ 2 * ws.length := by
  have h1 := fold_len (ws.flatMap fun w => candW w false ++ candW w true) []
  have h2 := flat_len ws
  unfold growF
  simp only [List.length_nil, Nat.zero_add] at h1
  omega
theorem AllWays.wok {S0 : LS} {n : Nat} {ws : List Way} (a : AllWays S0 n ws) (o : S0.Ok) (al : Alt S0) (hb : S0.boxes.length ≤ 100) (hn : n ≤ 100) : ∀ w ∈ ws, WOk w := fun w hw => by
  obtain ⟨hr, hl⟩ := a.s w hw
  have ok := run_Ok o hr
  exact ⟨ok, by rw [run_boxes hr]; exact hb, by omega, fun g hg => goes_err (al.runA hr) ok hg⟩
/-! ### what a plain order tells, in the heap -/
def TellAt (H : Hp) (v : V) : Option (List Int × (Bool → Int)) → Prop
  | none => v = .non
  | some (bs, nm) => ∃ p l n, v = .ref p ∧ H p = some (.tup [.ref l, .ref n]) ∧ H l = some (.lst (bs.map V.int)) ∧ H n = some (.lst [.int (nm false), .int (nm true)])
theorem TellAt.keep0 {H H' : Hp} {v : V} {o : Option (List Int × (Bool → Int))} (t : TellAt H v o) (k : Kp [] H H') : TellAt H' v o := by
  cases o with
  | none => exact t
  | some q =>
    obtain ⟨bs, nm⟩ := q
    obtain ⟨p, l, n, e, h1, h2, h3⟩ := t
    exact ⟨p, l, n, e, k.get0 h1, k.get0 h2, k.get0 h3⟩
theorem TellAt.dp {K : PySem.W.Frag} {H : Hp} {v : V} {o : Option (List Int × (Bool → Int))} (t : TellAt H v o) : Dp K H v (tellDat o) := by
  cases o with
  | none =>
    obtain rfl : v = .non := t
    exact .non
  | some q =>
    obtain ⟨bs, nm⟩ := q
    obtain ⟨p, l, n, rfl, h1, h2, h3⟩ := t
    exact .tup (SqT.of h1) (.cons (.lst (SqL.of h2) (dp_ints bs)) (.cons (.lst (SqL.of h3) (dp_ints [nm false, nm true])) .nil))
theorem tell_lay (o : Option (List Int × (Bool → Int))) : (tellDat o).canLay0 = true := by
  cases o with
  | none => rfl
  | some q =>
    obtain ⟨bs, nm⟩ := q
    simp [tellDat, intsDat, PyData.canLay0, PyData.canLayAll0, ints_lay]
theorem tell_depth (o : Option (List Int × (Bool → Int))) : (tellDat o).depth ≤ 4 := by
  cases o with
  | none => simp [tellDat, PyData.depth]
  | some q =>
    obtain ⟨bs, nm⟩ := q
    have a := ints_depth bs
    have b := ints_depth [nm false, nm true]
    simp only [tellDat, intsDat, PyData.depth, PyData.depthAll]
    omega
theorem tell_shaped (o : Option (List Int × (Bool → Int))) : SeqAt.shaped (tellDat o) = true := by
  have := tell_depth o
  unfold SeqAt.shaped
  rw [tell_lay, decide_eq_true (by omega)]; rfl
theorem tells_shaped (a b : Option (List Int × (Bool → Int))) : SeqAt.shaped (.list [tellDat a, tellDat b]) = true := by
  have h1 := tell_depth a
  have h2 := tell_depth b
  have h3 : (PyData.list [tellDat a, tellDat b]).canLay0 = true := by simp [PyData.canLay0, PyData.canLayAll0, tell_lay]
  have h4 : (PyData.list [tellDat a, tellDat b]).depth ≤ 64 := by
    simp only [PyData.depth, PyData.depthAll]
    omega
  unfold SeqAt.shaped
  rw [h3, decide_eq_true h4]; rfl
theorem usePlain {H : Hp} {Q : VK} {E : XK} {a0 a1 b o : Addr} {p0 p1 : List Addr} {r0 r1 : List Stp} {bs : List Int} {hs : List Bool} (R0 : RowAt H a0 p0 r0) (R1 : RowAt H a1 p1 r1) (hb : H b = some (.lst (bs.map V.int))) (ho : H o = some (.lst (hs2V hs))) (so : (LS.start (two r0 r1) bs).Ok)
    (hw : ∀ e, (LS.start (two r0 r1) bs).run hs = .error e → e = .waits) (k : ∀ v H', Kp [] H H' → TellAt H' v (tells (LS.start (two r0 r1) bs) hs) → Q v H') : spPlain [.ref a0, .ref a1, .ref b, .ref o] H Q E := by
  refine ⟨a0, a1, b, o, p0, p1, r0, r1, bs, hs, rfl, R0, R1, hb, ho, so, hw, fun e H' he kk => k _ _ kk ?_, fun S p l n H' he _ _ _ _ kk e1 e2 e3 => k _ _ kk ?_⟩
  · unfold tells
    rw [he]
    exact rfl
  · unfold tells
    rw [he]
    exact ⟨p, l, n, rfl, e1, e2, e3⟩
/-- a list of one thing, n times -/
theorem vRep {l : Addr} {v : V} {n : Nat} {H : Hp} {Q : VK} (h : H l = some (.lst [v])) (hn : n ≤ 1000) (q : ∀ p H', Fre H p → Kp [] H H' → H' p = some (.lst (List.replicate n v)) → Q (.ref p) H') : rRep (.ref l) (.int (n : Int)) H Q :=
  ⟨l, (n : Int), [v], rfl, rfl, h, by omega, by omega, by
    rw [List.length_singleton, Nat.one_mul, Int.toNat_natCast]
    exact len_le hn, fun p hp => q p _ ⟨hp⟩ (Kp.new hp) (by rw [upd_same, Int.toNat_natCast, List.flatten_replicate_singleton])⟩
theorem hs2V_rep (n : Nat) (g : Bool) : hs2V (List.replicate n g) = List.replicate n (V.int (hI g)) := by unfold hs2V; rw [List.map_replicate]
theorem odd_any {a b : Option (List Int × (Bool → Int))} {q : List Int × (Bool → Int)} : ([tellDat a, tellDat b].any fun z => PyData.eqv z (tellDat (some q))) = false ↔ a ≠ some q ∧ b ≠ some q := by
  have h1 := eqv_tell a q
  have h2 := eqv_tell b q
  rw [List.any_cons, List.any_cons, List.any_nil, Bool.or_false, Bool.or_eq_false_iff]
  refine ⟨fun h => ⟨fun z => ?_, fun z => ?_⟩, fun h => ⟨?_, ?_⟩⟩
  · rw [h1.mpr z] at h; cases h.1
  · rw [h2.mpr z] at h; cases h.2
  · cases e : PyData.eqv (tellDat a) (tellDat (some q)) with
    | false => rfl
    | true => exact absurd (h1.mp e) h.1
  · cases e : PyData.eqv (tellDat b) (tellDat (some q)) with
    | false => rfl
    | true => exact absurd (h2.mp e) h.2
/-- what stands while strange orders are looked for -/
structure Stg (C : Addr) (H H' : Hp) (a0 a1 b : Addr) (p0 p1 : List Addr) (r0 r1 : List Stp) (bs : List Int) (W : Addr) (ts : List Addr) (ws : List Way) : Prop where
  k : Kp [] H H'
  x0 : RowAt H' a0 p0 r0
  x1 : RowAt H' a1 p1 r1
  hb : H' b = some (.lst (bs.map V.int))
  hw : H' W = some (.lst (ts.map V.ref))
  ww : WaysAt C H' [] ts ws
theorem Stg.keep0 {C : Addr} {H H' H2 : Hp} {a0 a1 b : Addr} {p0 p1 : List Addr} {r0 r1 : List Stp} {bs : List Int} {W : Addr} {ts : List Addr} {ws : List Way} (s : Stg C H H' a0 a1 b p0 p1 r0 r1 bs W ts ws) (k : Kp [] H' H2) : Stg C H H2 a0 a1 b p0 p1 r0 r1 bs W ts ws :=
  ⟨s.k.trans k, s.x0.keep k nin_nil, s.x1.keep k nin_nil, k.get0 s.hb, k.get0 s.hw, s.ww.keep k fun _ h => by cases h⟩
theorem two_pow10 {i n : Nat} (h : n ≤ 2 ^ i) (hi : i ≤ 10) : n ≤ 100000 := by
  have h2 : 2 ^ i ≤ 2 ^ 10 := Nat.pow_le_pow_right (by decide) hi
  have h3 : (2 : Nat) ^ 10 = 1024 := by decide
  omega
end G

namespace G
open PySem PySem.Spec PyProof.Rows L2
/-! ### k12: the law's own words -/
def spStep12 : Sp := fun vs H Q _ => ∃ (c many : Int) (held : Bool), vs = [.int c, .int many, .bl held] ∧ Bt c ∧ 0 ≤ many ∧ ∀ s p H', Made H H' many p s → altOk held s = true → Q (.ref p) H'
theorem useStep12 {H : Hp} {Q : VK} {E : XK} {c many : Int} {held : Bool} (h1 : Bt c) (h2 : 0 ≤ many) (k : ∀ s p H', Made H H' many p s → altOk held s = true → Q (.ref p) H') : spStep12 [.int c, .int many, .bl held] H Q E := ⟨c, many, held, rfl, h1, h2, k⟩
def spRow12 : Sp := fun vs H Q _ => ∃ (a : Addr) (cs : List Int) (many : Int) (kp : Bool), vs = [.ref a, .int many, .bl kp] ∧ H a = some (.lst (cs.map V.int)) ∧ cs.length ≤ 60 ∧ (∀ c ∈ cs, Bt c) ∧ 0 ≤ many ∧
  ∀ p ps rs H', rs.length ≤ cs.length → (∀ s ∈ rs, inBox many s = true) → alt false rs = true → Fre H p → Kp [] H H' → RowAt H' p ps rs → Q (.ref p) H'
theorem useRow12 {H : Hp} {Q : VK} {E : XK} {a : Addr} {cs : List Int} {many : Int} {kp : Bool} (h1 : H a = some (.lst (cs.map V.int))) (h2 : cs.length ≤ 60) (h3 : ∀ c ∈ cs, Bt c) (h4 : 0 ≤ many)
    (k : ∀ p ps rs H', rs.length ≤ cs.length → (∀ s ∈ rs, inBox many s = true) → alt false rs = true → Fre H p → Kp [] H H' → RowAt H' p ps rs → Q (.ref p) H') : spRow12 [.ref a, .int many, .bl kp] H Q E := ⟨a, cs, many, kp, rfl, h1, h2, h3, h4, k⟩
theorem alt_nog {rs : List Stp} {h : Bool} (n : ∀ s ∈ rs, s.isG = false) : alt h rs = true := by
  induction rs generalizing h with
  | nil => rfl
  | cons s r ih =>
    have hs := n s List.mem_cons_self
    rw [alt_cons, ih fun t ht => n t (List.mem_cons_of_mem _ ht), Bool.and_true]
    cases s <;> first | rfl | cases hs
/-- what an order tells that comes to all ends -/
def ends (S0 : LS) (hs : List Bool) : Option (List Int × (Bool → Int)) := match S0.run hs with
  | .ok S => if left S = 0 then some (S.boxes, S.num) else none
  | .error _ => none
theorem ends_tells {r0 r1 : List Stp} {bs : List Int} {hs : List Bool} (hl : hs.length = r0.length + r1.length) : ends (LS.start (two r0 r1) bs) hs = tells (LS.start (two r0 r1) bs) hs := by
  unfold ends tells
  cases h : (LS.start (two r0 r1) bs).run hs with
  | error e => rfl
  | ok S =>
    have h1 := (run_left h).2
    have h2 : left (LS.start (two r0 r1) bs) = r0.length + r1.length := rfl
    exact if_pos (by omega)
theorem ends_of {r0 r1 : List Stp} {bs : List Int} {hs : List Bool} {q : List Int × (Bool → Int)} (h : ends (LS.start (two r0 r1) bs) hs = some q) : ∃ S, (LS.start (two r0 r1) bs).run hs = .ok S ∧ hs.length = r0.length + r1.length ∧ q = (S.boxes, S.num) := by
  unfold ends at h
  cases e : (LS.start (two r0 r1) bs).run hs with
  | error x => rw [e] at h; cases h
  | ok S =>
    rw [e] at h
    dsimp only at h
    split at h
    · rename_i hz
      have h1 := (run_left e).2
      have h2 : left (LS.start (two r0 r1) bs) = r0.length + r1.length := rfl
      exact ⟨S, rfl, by omega, (Option.some.inj h).symm⟩
    · cases h
theorem plainA_len (r0 r1 : List Stp) : (plainA r0 r1).length = r0.length + r1.length := by simp [plainA]
theorem plainB_len (r0 r1 : List Stp) : (plainB r0 r1).length = r0.length + r1.length := by simp [plainB, Nat.add_comm]
theorem ends_A {r0 r1 : List Stp} {bs : List Int} : ends (LS.start (two r0 r1) bs) (plainA r0 r1) = tells (LS.start (two r0 r1) bs) (plainA r0 r1) := ends_tells (plainA_len _ _)
theorem ends_B {r0 r1 : List Stp} {bs : List Int} : ends (LS.start (two r0 r1) bs) (plainB r0 r1) = tells (LS.start (two r0 r1) bs) (plainB r0 r1) := ends_tells (plainB_len _ _)
theorem eqv_tell2 (a b : Option (List Int × (Bool → Int))) : PyData.eqv (tellDat a) (tellDat b) = true ↔ a = b := by
  cases b with
  | some q => exact eqv_tell a q
  | none =>
    cases a with
    | none => exact ⟨fun _ => rfl, fun _ => rfl⟩
    | some p => exact ⟨fun h => (by cases h), fun h => (by cases h)⟩
theorem useNeTell {K : PySem.W.Frag} {H : Hp} {Q : VK} {x y : V} {a b : Option (List Int × (Bool → Int))} (t1 : TellAt H x a) (t2 : TellAt H y b) (q : ∀ c : Bool, (c = true ↔ a ≠ b) → Q (.bl c) H) : rNeD K x y H Q :=
  vNeD t1.dp t2.dp (tell_shaped _) (tell_shaped _) (q _ (by
    have := eqv_tell2 a b
    cases h : PyData.eqv (tellDat a) (tellDat b) with
    | true => exact ⟨fun z => (by cases z), fun z => absurd (this.mp h) z⟩
    | false => exact ⟨fun _ z => (by have := this.mpr z; rw [h] at this; cases this), fun _ => rfl⟩))
def spEnd12 : Sp := fun vs H Q _ => ∃ (b R o a0 a1 : Addr) (p0 p1 : List Addr) (r0 r1 : List Stp) (bs : List Int) (hs : List Bool), vs = [.ref b, .ref R, .ref o] ∧ H b = some (.lst (bs.map V.int)) ∧ H R = some (.lst [.ref a0, .ref a1]) ∧ RowAt H a0 p0 r0 ∧ RowAt H a1 p1 r1 ∧ H o = some (.lst (hs2V hs)) ∧ (LS.start (two r0 r1) bs).Ok ∧ alt false r0 = true ∧ alt false r1 = true ∧
  ∀ v H', Kp [] H H' → TellAt H' v (ends (LS.start (two r0 r1) bs) hs) → Q v H'
theorem useEnd12 {H : Hp} {Q : VK} {E : XK} {b R o a0 a1 : Addr} {p0 p1 : List Addr} {r0 r1 : List Stp} {bs : List Int} {hs : List Bool} (hb : H b = some (.lst (bs.map V.int))) (hR : H R = some (.lst [.ref a0, .ref a1])) (R0 : RowAt H a0 p0 r0) (R1 : RowAt H a1 p1 r1) (ho : H o = some (.lst (hs2V hs))) (so : (LS.start (two r0 r1) bs).Ok) (al0 : alt false r0 = true) (al1 : alt false r1 = true)
    (k : ∀ v H', Kp [] H H' → TellAt H' v (ends (LS.start (two r0 r1) bs) hs) → Q v H') : spEnd12 [.ref b, .ref R, .ref o] H Q E := ⟨b, R, o, a0, a1, p0, p1, r0, r1, bs, hs, rfl, hb, hR, R0, R1, ho, so, al0, al1, k⟩
def spOrder12 : Sp := fun vs H Q _ => ∃ (c b R a0 a1 : Addr) (p0 p1 : List Addr) (r0 r1 : List Stp) (bs cs : List Int), vs = [.ref c, .ref b, .ref R] ∧ H c = some (.lst (cs.map V.int)) ∧ cs.length ≤ 63 ∧ H b = some (.lst (bs.map V.int)) ∧ H R = some (.lst [.ref a0, .ref a1]) ∧ RowAt H a0 p0 r0 ∧ RowAt H a1 p1 r1 ∧ (LS.start (two r0 r1) bs).Ok ∧ alt false r0 = true ∧ alt false r1 = true ∧
  ∀ p hs H', Kp [] H H' → H' p = some (.lst (hs2V hs)) → Q (.ref p) H'
theorem useOrder12 {H : Hp} {Q : VK} {E : XK} {c b R a0 a1 : Addr} {p0 p1 : List Addr} {r0 r1 : List Stp} {bs cs : List Int} (hc : H c = some (.lst (cs.map V.int))) (hcl : cs.length ≤ 63) (hb : H b = some (.lst (bs.map V.int))) (hR : H R = some (.lst [.ref a0, .ref a1])) (R0 : RowAt H a0 p0 r0) (R1 : RowAt H a1 p1 r1) (so : (LS.start (two r0 r1) bs).Ok) (al0 : alt false r0 = true) (al1 : alt false r1 = true)
    (k : ∀ p hs H', Kp [] H H' → H' p = some (.lst (hs2V hs)) → Q (.ref p) H') : spOrder12 [.ref c, .ref b, .ref R] H Q E := ⟨c, b, R, a0, a1, p0, p1, r0, r1, bs, cs, rfl, hc, hcl, hb, hR, R0, R1, so, al0, al1, k⟩
def spAll12 : Sp := fun vs H Q _ => ∃ (c b R D a0 a1 : Addr) (v1 v2 : V) (p0 p1 : List Addr) (r0 r1 : List Stp) (bs cs : List Int), vs = [.ref c, .ref b, .ref R, .ref D] ∧ H c = some (.lst (cs.map V.int)) ∧ cs.length ≤ 63 ∧ H b = some (.lst (bs.map V.int)) ∧ H R = some (.lst [.ref a0, .ref a1]) ∧ RowAt H a0 p0 r0 ∧ RowAt H a1 p1 r1 ∧ (LS.start (two r0 r1) bs).Ok ∧ alt false r0 = true ∧ alt false r1 = true ∧
  H D = some (.lst [v1, v2]) ∧ TellAt H v1 (tells (LS.start (two r0 r1) bs) (plainA r0 r1)) ∧ TellAt H v2 (tells (LS.start (two r0 r1) bs) (plainB r0 r1)) ∧ (∀ hs S, hs.length = r0.length + r1.length → (LS.start (two r0 r1) bs).run hs = .ok S → ¬ odd r0 r1 bs S) ∧ ∀ H', Q (.bl true) H'
/-! ### what refuses the search -/
def stErr (r0 r1 : List Stp) : Option Err := if 5 < r0.length ∨ 5 < r1.length then some .tooMany else match wrongR false r0 with
  | some e => some e
  | none => wrongR false r1
def stName : Option Err → Str
  | some .tooMany => "too many" | some .again => "again" | some .notHeld => "not held" | _ => ""
theorem stErr3 {r0 r1 : List Stp} {e : Err} (h : stErr r0 r1 = some e) : e = .tooMany ∨ e = .again ∨ e = .notHeld := by
  unfold stErr at h
  split at h
  · cases h; exact .inl rfl
  · split at h
    · rename_i e2 h2
      cases h
      exact .inr (wrong_err h2)
    · exact .inr (wrong_err h)
theorem stErr_none {r0 r1 : List Stp} (h0 : r0.length ≤ 5) (h1 : r1.length ≤ 5) (a0 : alt false r0 = true) (a1 : alt false r1 = true) : stErr r0 r1 = none := by
  unfold stErr
  rw [if_neg (by omega), wrong_alt.mpr a0]
  exact wrong_alt.mpr a1
theorem useStrange {er : Err → Addr} {H : Hp} {Q : VK} {E : XK} {a0 a1 b : Addr} {p0 p1 : List Addr} {r0 r1 : List Stp} {bs : List Int} (R0 : RowAt H a0 p0 r0) (R1 : RowAt H a1 p1 r1) (hb : H b = some (.lst (bs.map V.int))) (hbl : bs.length ≤ 100) (so : (LS.start (two r0 r1) bs).Ok)
    (ke : ∀ e H', stErr r0 r1 = some e → Kp [] H H' → E (.ref (er e)) none H')
    (kO : stErr r0 r1 = none → ∀ p hs S H', hs.length = r0.length + r1.length → (LS.start (two r0 r1) bs).run hs = .ok S → odd r0 r1 bs S → Kp [] H H' → H' p = some (.lst (hs2V hs)) → Q (.ref p) H')
    (kN : stErr r0 r1 = none → ∀ H', (∀ hs S, hs.length = r0.length + r1.length → (LS.start (two r0 r1) bs).run hs = .ok S → ¬ odd r0 r1 bs S) → Kp [] H H' → Q .non H') : spStrange er [.ref a0, .ref a1, .ref b] H Q E := by
  refine ⟨a0, a1, b, _, _, _, _, bs, rfl, R0.l, R1.l, R0.th, R1.th, hb, hbl, fun e H' he _ => absurd (he.symm.trans ((loomErr_1 (c1 := r1.map fun s => some s.enc) (show needC (r0.map fun s => some s.enc) bs.length = none from ok_needC so false)).trans (ok_needC so true))) (by intro z; cases z), fun _ q0 q1 e0 e1 _ => ?_⟩
  have f0 := rows_inj e0
  have f1 := rows_inj e1
  subst f0 f1
  refine ⟨fun h H' kk => ke _ _ (by unfold stErr; rw [if_pos h]) kk, fun l0 l1 => ?_⟩
  have hne : ¬ (5 < r0.length ∨ 5 < r1.length) := by omega
  have w0 := alone_wrong r0 bs
  have w1 := alone_wrong r1 bs
  refine ⟨fun e H' he kk => ke e H' ?_ kk, fun T e H' h0 he kk => ke e H' ?_ kk, fun T U h0 h1 => ?_⟩
  · unfold stErr
    rw [if_neg hne]
    cases h : wrongR false r0 with
    | some x =>
      rw [h] at w0
      dsimp only at w0 ⊢
      have := w0.symm.trans he
      cases this; rfl
    | none =>
      exfalso
      rw [h] at w0
      obtain ⟨T, hT⟩ := w0
      have := hT.symm.trans he
      cases this
  · unfold stErr
    rw [if_neg hne, wrong_alt.mpr (alone_alt h0)]
    dsimp only
    cases h : wrongR false r1 with
    | some x =>
      rw [h] at w1
      dsimp only at w1
      have := w1.symm.trans he
      cases this; rfl
    | none =>
      exfalso
      rw [h] at w1
      obtain ⟨T, hT⟩ := w1
      have := hT.symm.trans he
      cases this
  · have hn := stErr_none l0 l1 (alone_alt h0) (alone_alt h1)
    exact ⟨kO hn, kN hn⟩
def spRefused12 : Sp := fun vs H Q _ => ∃ (a0 a1 b : Addr) (p0 p1 : List Addr) (r0 r1 : List Stp) (bs : List Int), vs = [.ref a0, .ref a1, .ref b] ∧ RowAt H a0 p0 r0 ∧ RowAt H a1 p1 r1 ∧ H b = some (.lst (bs.map V.int)) ∧ bs.length ≤ 100 ∧ (LS.start (two r0 r1) bs).Ok ∧ ∀ H', Kp [] H H' → Q (.str (stName (stErr r0 r1))) H'
theorem useRefused12 {H : Hp} {Q : VK} {E : XK} {a0 a1 b : Addr} {p0 p1 : List Addr} {r0 r1 : List Stp} {bs : List Int} (R0 : RowAt H a0 p0 r0) (R1 : RowAt H a1 p1 r1) (hb : H b = some (.lst (bs.map V.int))) (hbl : bs.length ≤ 100) (so : (LS.start (two r0 r1) bs).Ok) (k : ∀ H', Kp [] H H' → Q (.str (stName (stErr r0 r1))) H') : spRefused12 [.ref a0, .ref a1, .ref b] H Q E := ⟨a0, a1, b, p0, p1, r0, r1, bs, rfl, R0, R1, hb, hbl, so, k⟩
def spWrong12 : Sp := fun vs H Q _ => ∃ (a : Addr) (ps : List Addr) (rs : List Stp), vs = [.ref a] ∧ RowAt H a ps rs ∧ Q (.str (stName (wrongR false rs))) H
theorem useWrong12 {H : Hp} {Q : VK} {E : XK} {a : Addr} {ps : List Addr} {rs : List Stp} (R : RowAt H a ps rs) (k : Q (.str (stName (wrongR false rs))) H) : spWrong12 [.ref a] H Q E := ⟨a, ps, rs, rfl, R, k⟩
def spGuards12 : Sp := fun vs H Q _ => ∃ (D b : Addr) (x : Bool → Addr) (ps : Bool → List Addr) (rs : Bool → List Stp) (bs : List Int) (sd : Int), vs = [.ref D, .int sd] ∧ H D = some (.lst [.ref (x false), .ref (x true), .ref b]) ∧ (∀ h, RowAt H (x h) (ps h) (rs h)) ∧ (∀ h, x h ≠ D) ∧ b ≠ D ∧ H b = some (.lst (bs.map V.int)) ∧ bs.length ≤ 100 ∧ (∀ h, ∀ s ∈ rs h, inBox bs.length s = true) ∧ (∀ h, (rs h).length ≤ 60) ∧ ∀ H', Q (.bl true) H'
theorem cutV_loG {xs : List V} {k : Nat} : cutV xs none (some (k : Int)) = xs.take k := by
  unfold cutV
  rw [HT.sIx_nat, HT.sIx_none, List.drop_zero, Nat.sub_zero]
  rcases Nat.le_total k xs.length with h | h
  · rw [Nat.min_eq_left h]
  · rw [Nat.min_eq_right h, List.take_length, List.take_of_length_le h]
theorem cutV_hiG {xs : List V} {k : Nat} : cutV xs (some (k : Int)) none = xs.drop k := by
  unfold cutV
  rw [HT.sIx_nat, HT.sIx_none]
  rcases Nat.le_total k xs.length with h | h
  · rw [Nat.min_eq_left h]
    exact List.take_of_length_le (by rw [List.length_drop]; omega)
  · rw [Nat.min_eq_right h, List.drop_length, List.drop_eq_nil_of_le h]
    exact List.take_nil
theorem StpsAt.take {H : Hp} {ps : List Addr} {rs : List Stp} (r : StpsAt H ps rs) (k : Nat) : StpsAt H (ps.take k) (rs.take k) := by
  refine ⟨by rw [List.length_take, List.length_take, r.n], fun i p s h1 h2 => ?_⟩
  rw [List.getElem?_take] at h1 h2
  split at h1
  · rw [if_pos (by assumption)] at h2
    exact r.e i p s h1 h2
  · cases h1
theorem StpsAt.drop {H : Hp} {ps : List Addr} {rs : List Stp} (r : StpsAt H ps rs) (k : Nat) : StpsAt H (ps.drop k) (rs.drop k) := by
  refine ⟨by rw [List.length_drop, List.length_drop, r.n], fun i p s h1 h2 => ?_⟩
  rw [List.getElem?_drop] at h1 h2
  exact r.e _ p s h1 h2
def gStep (sd : Int) : Stp := if sd % 2 = 0 then .take else .free
theorem gStep_enc (sd : Int) : (gStep sd).enc = [V.str (if sd % 2 = 0 then "take" else "free")] := by
  unfold gStep
  split <;> rfl
theorem gStep_box (sd many : Int) : inBox many (gStep sd) = true := by
  unfold gStep
  split <;> rfl
theorem at3 {x : Bool → Addr} {b : Addr} {g : Bool} : atI [V.ref (x false), V.ref (x true), V.ref b] (hI g) = some (.ref (x g)) := by cases g <;> rfl
theorem ix3 {x : Bool → Addr} {b : Addr} {g : Bool} : ixN [V.ref (x false), V.ref (x true), V.ref b].length (hI g) = some (hI g).toNat := by cases g <;> rfl
theorem set3 {x : Bool → Addr} {b y : Addr} {g : Bool} : [V.ref (x false), V.ref (x true), V.ref b].set (hI g).toNat (.ref y) = [V.ref (upB x g y false), V.ref (upB x g y true), V.ref b] := by cases g <;> rfl
theorem map_take_ref {ps : List Addr} {k : Nat} : (ps.map V.ref).take k = (ps.take k).map V.ref := by rw [List.map_take]
theorem map_drop_ref {ps : List Addr} {k : Nat} : (ps.map V.ref).drop k = (ps.drop k).map V.ref := by rw [List.map_drop]
theorem wName_ne {r : List Stp} {h : Bool} {e : Err} (x : wrongR h r = some e) : stName (some e) ≠ "" := by
  rcases wrong_err x with z | z <;> subst z
  · exact (by decide +kernel : ("again" : Str) ≠ "")
  · exact (by decide +kernel : ("not held" : Str) ≠ "")
theorem stErr_w {r0 r1 : List Stp} (h0 : r0.length ≤ 5) (h1 : r1.length ≤ 5) : stName (stErr r0 r1) = if stName (wrongR false r0) = "" then stName (wrongR false r1) else stName (wrongR false r0) := by
  unfold stErr
  rw [if_neg (by omega)]
  cases w : wrongR false r0 with
  | none => rw [if_pos (show stName none = "" from rfl)]
  | some e => rw [if_neg (wName_ne w)]
theorem stErr_big {r0 r1 : List Stp} (h : 5 < r0.length ∨ 5 < r1.length) : stErr r0 r1 = some .tooMany := if_pos h
/-- what stands once the law has built all -/
structure L12 (H : Hp) (w B hd pc Z x0 x1 y0 y1 yb : Addr) (p0 p1 : List Addr) (r0 r1 : List Stp) (bs cs : List Int) : Prop where
  w : H w = some (.lst [.ref x0, .ref x1])
  x0 : RowAt H x0 p0 r0
  x1 : RowAt H x1 p1 r1
  b : H B = some (.lst (bs.map V.int))
  hd : H hd = some (.lst [.ref y0, .ref y1, .ref yb])
  y0 : RowAt H y0 p0 r0
  y1 : RowAt H y1 p1 r1
  yb : H yb = some (.lst (bs.map V.int))
  pc : H pc = some (.lst (cs.map V.int))
  z : H Z = some (.lst [.int r0.length, .int r1.length])
theorem L12.keep0 {H H' : Hp} {w B hd pc Z x0 x1 y0 y1 yb : Addr} {p0 p1 : List Addr} {r0 r1 : List Stp} {bs cs : List Int} (l : L12 H w B hd pc Z x0 x1 y0 y1 yb p0 p1 r0 r1 bs cs) (k : Kp [] H H') : L12 H' w B hd pc Z x0 x1 y0 y1 yb p0 p1 r0 r1 bs cs :=
  ⟨k.get0 l.w, l.x0.keep k nin_nil, l.x1.keep k nin_nil, k.get0 l.b, k.get0 l.hd, l.y0.keep k nin_nil, l.y1.keep k nin_nil, k.get0 l.yb, k.get0 l.pc, k.get0 l.z⟩
/-- what the search told -/
def Fnd (H : Hp) (v : V) (r0 r1 : List Stp) (bs : List Int) : Prop :=
  (∃ p hs S, v = .ref p ∧ H p = some (.lst (hs2V hs)) ∧ hs.length = r0.length + r1.length ∧ (LS.start (two r0 r1) bs).run hs = .ok S ∧ odd r0 r1 bs S) ∨
  (v = .non ∧ ∀ hs S, hs.length = r0.length + r1.length → (LS.start (two r0 r1) bs).run hs = .ok S → ¬ odd r0 r1 bs S)
theorem Fnd.keep0 {H H' : Hp} {v : V} {r0 r1 : List Stp} {bs : List Int} (f : Fnd H v r0 r1 bs) (k : Kp [] H H') : Fnd H' v r0 r1 bs := by
  rcases f with ⟨p, hs, S, e, h1, h2, h3, h4⟩ | f
  · exact .inl ⟨p, hs, S, e, k.get0 h1, h2, h3, h4⟩
  · exact .inr f
theorem ixn2 {x y : Int} {g : Bool} : ixN [V.int x, V.int y].length (hI g) = some (hI g).toNat := by cases g <;> rfl
theorem at2 {x y : V} {g : Bool} : atI [x, y] (hI g) = some (two x y g) := by cases g <;> rfl
end G

namespace G
open PySem PySem.Spec PyProof.Rows L2
/-! ### k04: things that are handed in -/
inductive T4 where
  | tup (xs : List V) | non | fr | tw
def T4.thg : T4 → Thg
  | .tup xs => some xs | _ => none
def At4 (H : Hp) (v : V) : T4 → Prop
  | .tup xs => ∃ p, v = .ref p ∧ H p = some (.tup xs)
  | .non => v = .non
  | .fr => v = .str "free"
  | .tw => ∃ p, v = .ref p ∧ H p = some (.lst [.str "twice"])
inductive Ok4 : T4 → Prop
  | stp (s : Stp) (h : s ≠ .twice) : Ok4 (.tup s.enc)
  | swap : Ok4 (.tup [.str "swap", .int 0])
  | load0 : Ok4 (.tup [.str "load"])
  | add1 : Ok4 (.tup [.str "add", .str "1"])
  | take0 : Ok4 (.tup [.str "take", .int 0])
  | addT : Ok4 (.tup [.str "add", .bl true])
  | non : Ok4 .non
  | fr : Ok4 .fr
  | tw : Ok4 .tw
/-- no take, no free -/
def NG4 (t : T4) : Prop := ∀ s : Stp, s.isG = true → t ≠ .tup s.enc
theorem At4.keep0 {H H' : Hp} {v : V} {t : T4} (h : At4 H v t) (k : Kp [] H H') : At4 H' v t := by
  cases t with
  | tup xs => obtain ⟨p, e, h⟩ := h; exact ⟨p, e, k.get0 h⟩
  | non => exact h
  | fr => exact h
  | tw => obtain ⟨p, e, h⟩ := h; exact ⟨p, e, k.get0 h⟩
theorem At4.keepD {H H' : Hp} {v : V} {t : T4} {D x y : Addr} (h : At4 H v t) (hD : H D = some (.lst [.ref x, .ref y])) (k : Kp [D] H H') : At4 H' v t := by
  cases t with
  | tup xs => obtain ⟨p, e, h⟩ := h; exact ⟨p, e, k.getT h⟩
  | non => exact h
  | fr => exact h
  | tw =>
    obtain ⟨p, e, h⟩ := h
    exact ⟨p, e, k.get h (by simpa using ne_kind h hD (by intro z; simp at z))⟩
structure R4 (H : Hp) (xs : List V) (ts : List T4) : Prop where
  n : xs.length = ts.length
  e : ∀ (i : Nat) (v : V) (t : T4), xs[i]? = some v → ts[i]? = some t → At4 H v t
  ok : ∀ t ∈ ts, Ok4 t
theorem R4.keep0 {H H' : Hp} {xs : List V} {ts : List T4} (r : R4 H xs ts) (k : Kp [] H H') : R4 H' xs ts := ⟨r.n, fun i v t h1 h2 => (r.e i v t h1 h2).keep0 k, r.ok⟩
theorem R4.keepD {H H' : Hp} {xs : List V} {ts : List T4} {D x y : Addr} (r : R4 H xs ts) (hD : H D = some (.lst [.ref x, .ref y])) (k : Kp [D] H H') : R4 H' xs ts := ⟨r.n, fun i v t h1 h2 => (r.e i v t h1 h2).keepD hD k, r.ok⟩
theorem R4.nil {H : Hp} : R4 H [] [] := ⟨rfl, fun i v t h => by simp at h, fun _ h => by cases h⟩
theorem R4.one {H : Hp} {v : V} {t : T4} (h : At4 H v t) (o : Ok4 t) : R4 H [v] [t] := by
  refine ⟨rfl, fun i v' t' h1 h2 => ?_, fun t' h' => by simp at h'; rw [h']; exact o⟩
  cases i with
  | zero => cases h1; cases h2; exact h
  | succ i => simp at h1
theorem R4.app {H : Hp} {xs ys : List V} {ts us : List T4} (r : R4 H xs ts) (q : R4 H ys us) : R4 H (xs ++ ys) (ts ++ us) := by
  refine ⟨by simp [r.n, q.n], fun i v t h1 h2 => ?_, fun t h => (List.mem_append.mp h).elim (r.ok t) (q.ok t)⟩
  by_cases hi : i < xs.length
  · rw [List.getElem?_append_left hi] at h1
    rw [List.getElem?_append_left (by rw [← r.n]; exact hi)] at h2
    exact r.e i v t h1 h2
  · rw [List.getElem?_append_right (by omega)] at h1
    rw [List.getElem?_append_right (by rw [← r.n]; omega), ← r.n] at h2
    exact q.e _ v t h1 h2
theorem R4.take {H : Hp} {xs : List V} {ts : List T4} (r : R4 H xs ts) (k : Nat) : R4 H (xs.take k) (ts.take k) := by
  refine ⟨by rw [List.length_take, List.length_take, r.n], fun i v t h1 h2 => ?_, fun t h => r.ok t (List.mem_of_mem_take h)⟩
  rw [List.getElem?_take] at h1 h2
  split at h1
  · rw [if_pos (by assumption)] at h2
    exact r.e i v t h1 h2
  · cases h1
theorem R4.drop {H : Hp} {xs : List V} {ts : List T4} (r : R4 H xs ts) (k : Nat) : R4 H (xs.drop k) (ts.drop k) := by
  refine ⟨by rw [List.length_drop, List.length_drop, r.n], fun i v t h1 h2 => ?_, fun t h => r.ok t (List.mem_of_mem_drop h)⟩
  rw [List.getElem?_drop] at h1 h2
  exact r.e _ v t h1 h2
theorem R4.get {H : Hp} {xs : List V} {ts : List T4} (r : R4 H xs ts) {i : Nat} {v : V} (h : xs[i]? = some v) : ∃ t, ts[i]? = some t ∧ At4 H v t ∧ Ok4 t := by
  have hi : i < ts.length := by rw [← r.n]; exact (List.getElem?_eq_some_iff.mp h).1
  have ht : ts[i]? = some ts[i] := List.getElem?_eq_getElem hi
  exact ⟨ts[i], ht, r.e i v _ h ht, r.ok _ (List.getElem_mem hi)⟩
theorem ok4_plain {H : Hp} {xs : List V} (o : Ok4 (.tup xs)) : ∀ x ∈ xs, PlainV H x := by
  intro x hx
  cases o with
  | stp s h => exact enc_plain H s x hx
  | swap => simp at hx; rcases hx with z | z <;> subst z <;> trivial
  | load0 => simp at hx; subst hx; trivial
  | add1 => simp at hx; rcases hx with z | z <;> subst z <;> trivial
  | take0 => simp at hx; rcases hx with z | z <;> subst z <;> trivial
  | addT => simp at hx; rcases hx with z | z <;> subst z <;> trivial
theorem At4.th {H : Hp} {v : V} {t : T4} (h : At4 H v t) (o : Ok4 t) : ThAt H v t.thg := by
  cases t with
  | tup xs => obtain ⟨p, e, h⟩ := h; exact ⟨p, e, h, ok4_plain o⟩
  | non =>
    obtain rfl : v = .non := h
    exact ⟨trivial, fun p z => by cases z⟩
  | fr =>
    obtain rfl : v = .str "free" := h
    exact ⟨trivial, fun p z => by cases z⟩
  | tw =>
    obtain ⟨p, rfl, h⟩ := h
    exact ⟨.inl ⟨_, h⟩, fun q z => by cases z; exact ⟨_, h⟩⟩
theorem R4.th {H : Hp} {xs : List V} {ts : List T4} (r : R4 H xs ts) : ThRow H xs (ts.map T4.thg) := by
  refine ⟨by rw [List.length_map, r.n], fun i v c h1 h2 => ?_⟩
  obtain ⟨t, ht, hv, ho⟩ := r.get h1
  rw [List.getElem?_map, ht] at h2
  cases h2
  exact hv.th ho
/-! ### a thing is as a bare word -/
def datV : V → PyData
  | .int i => .int i | .str s => .str s | .bl b => .bool b | _ => .none
def T4.dat : T4 → PyData
  | .tup xs => .tuple (xs.map datV) | .non => .none | .fr => .str "free" | .tw => .list [.str "twice"]
def tk4 (w : Str) : T4 → Bool
  | .tup [.str x] => decide (x = w) | _ => false
theorem eq21 {a b e : PyData} {r : List PyData} : PyData.eqv (.tuple (a :: b :: r)) (.tuple [e]) = false := by
  rw [PyData.eqv, PyData.eqvAll]
  show (_ && PyData.eqvAll (b :: r) []) = false
  rw [show PyData.eqvAll (b :: r) [] = false by rw [PyData.eqvAll]]
  exact Bool.and_false _
theorem eq11 {x w : Str} : PyData.eqv (.tuple [.str x]) (.tuple [.str w]) = decide (x = w) := by
  rw [PyData.eqv, PyData.eqvAll, PyData.eqv, PyData.eqvAll, Bool.and_true, Bool.beq_eq_decide_eq]
theorem eqv4 {t : T4} {w : Str} (o : Ok4 t) : PyData.eqv t.dat (.tuple [.str w]) = tk4 w t := by
  cases o with
  | stp s h => cases s <;> first | exact eq21 | exact eq11 | exact absurd rfl h
  | swap => exact eq21
  | load0 => exact eq11
  | add1 => exact eq21
  | take0 => exact eq21
  | addT => exact eq21
  | non => rfl
  | fr => rfl
  | tw => rfl
theorem tk4_of {w : Str} {t : T4} (h : tk4 w t = true) : t = .tup [.str w] := by
  unfold tk4 at h
  split at h
  · rw [of_decide_eq_true h]
  · cases h
theorem strOk4 : PyData.strOk "swap" = true ∧ PyData.strOk "1" = true := by decide +kernel
theorem dat4_lay {t : T4} (o : Ok4 t) : t.dat.canLay0 = true := by
  obtain ⟨h1, h2, h3, h4, h5, h6, h7⟩ := words_ok
  obtain ⟨h8, h9⟩ := strOk4
  cases o with
  | stp s h => cases s <;> simp only [T4.dat, Stp.enc, Stp.args, Stp.word, List.map_cons, List.map_nil, datV, PyData.canLay0, PyData.canLayAll0, Bool.and_true, *]
  | _ => simp only [T4.dat, List.map_cons, List.map_nil, datV, PyData.canLay0, PyData.canLayAll0, Bool.and_true, *]
theorem dat4_depth {t : T4} (o : Ok4 t) : t.dat.depth ≤ 4 := by
  cases o with
  | stp s h => cases s <;> simp [T4.dat, Stp.enc, Stp.args, Stp.word, datV, PyData.depth, PyData.depthAll]
  | _ => simp [T4.dat, datV, PyData.depth, PyData.depthAll]
theorem dat4_shaped {t : T4} (o : Ok4 t) : SeqAt.shaped t.dat = true := by
  have := dat4_depth o
  unfold SeqAt.shaped
  rw [dat4_lay o, decide_eq_true (by omega)]; rfl
theorem At4.dp {K : PySem.W.Frag} {H : Hp} {v : V} {t : T4} (h : At4 H v t) (o : Ok4 t) : Dp K H v t.dat := by
  cases o with
  | stp s hs =>
    obtain ⟨p, rfl, h⟩ := h
    cases s <;> exact .tup (SqT.of h) (by first | exact .cons (.str _) (.cons (.int _) .nil) | exact .cons (.str _) .nil)
  | swap => obtain ⟨p, rfl, h⟩ := h; exact .tup (SqT.of h) (.cons (.str _) (.cons (.int _) .nil))
  | load0 => obtain ⟨p, rfl, h⟩ := h; exact .tup (SqT.of h) (.cons (.str _) .nil)
  | add1 => obtain ⟨p, rfl, h⟩ := h; exact .tup (SqT.of h) (.cons (.str _) (.cons (.str _) .nil))
  | take0 => obtain ⟨p, rfl, h⟩ := h; exact .tup (SqT.of h) (.cons (.str _) (.cons (.int _) .nil))
  | addT => obtain ⟨p, rfl, h⟩ := h; exact .tup (SqT.of h) (.cons (.str _) (.cons (.bl _) .nil))
  | non => obtain rfl : v = .non := h; exact .non
  | fr => obtain rfl : v = .str "free" := h; exact .str _
  | tw => obtain ⟨p, rfl, h⟩ := h; exact .lst (SqL.of h) (.cons (.str _) .nil)
theorem bare_shaped {w : Str} (hw : PyData.strOk w = true) : SeqAt.shaped (.tuple [.str w]) = true := by
  have h1 : (PyData.tuple [.str w]).canLay0 = true := by simp only [PyData.canLay0, PyData.canLayAll0, Bool.and_true, hw]
  have h2 : (PyData.tuple [.str w]).depth ≤ 64 := by simp [PyData.depth, PyData.depthAll]
  unfold SeqAt.shaped
  rw [h1, decide_eq_true h2]; rfl
theorem useEq4 {K : PySem.W.Frag} {H : Hp} {Q : VK} {v : V} {t : T4} {p : Addr} {w : Str} (h : At4 H v t) (o : Ok4 t) (hp : H p = some (.tup [.str w])) (hw : PyData.strOk w = true) (q : Q (.bl (tk4 w t)) H) : rEqD K v (.ref p) H Q :=
  vEqD (h.dp o) (.tup (SqT.of hp) (.cons (.str _) .nil)) (dat4_shaped o) (bare_shaped hw) (by rw [eqv4 o]; exact q)
/-! ### promises -/
def nm4 : Option Err → Str
  | some e => nameOf e | none => ""
theorem th3 {c : Thg} {many : Int} {e : Err} (h : thErr many c = some e) : e = .badStep ∨ e = .badBox := by
  unfold thErr at h
  split at h
  · cases h; exact .inl rfl
  · split at h
    · cases h; exact .inl rfl
    · split at h
      · split at h
        · cases h; exact .inr rfl
        · cases h
      · cases h
theorem find3 {many : Int} {e : Err} : ∀ {cs : List Thg}, cs.findSome? (thErr many) = some e → e = .badStep ∨ e = .badBox
  | [], h => by cases h
  | c :: r, h => by
    rw [List.findSome?_cons] at h
    cases q : thErr many c with
    | some x =>
      rw [q] at h
      cases h
      exact th3 q
    | none =>
      rw [q] at h
      exact find3 h
theorem need3 {cs : List Thg} {many : Int} {e : Err} (h : needC cs many = some e) : e = .tooMany ∨ e = .badStep ∨ e = .badBox := by
  unfold needC at h
  split at h
  · cases h; exact .inl rfl
  · exact .inr (find3 h)
/-- what refuses a call, by which is asked -/
def askErr (wh : Int) (c0 c1 : List Thg) (m : Int) : Option Err := match needC c0 m with
  | some e => some e
  | none => if wh = 0 then none else match needC c1 m with
    | some e => some e
    | none => if wh = 3 ∧ (5 < c0.length ∨ 5 < c1.length) then some .tooMany else none
theorem ask3 {wh : Int} {c0 c1 : List Thg} {m : Int} {e : Err} (h : askErr wh c0 c1 m = some e) : e = .tooMany ∨ e = .badStep ∨ e = .badBox := by
  unfold askErr at h
  split at h
  · rename_i x hx
    cases h
    exact need3 hx
  · split at h
    · cases h
    · split at h
      · rename_i x hx
        cases h
        exact need3 hx
      · split at h
        · cases h; exact .inl rfl
        · cases h
theorem ask_loom {wh : Int} {c0 c1 : List Thg} {m : Int} {e : Err} (h0 : wh ≠ 0) (h : loomErr c0 c1 m = some e) : askErr wh c0 c1 m = some e := by
  unfold loomErr at h
  unfold askErr
  cases q : needC c0 m with
  | some x => rw [q] at h; exact h
  | none =>
    rw [q] at h
    dsimp only at h ⊢
    rw [if_neg h0, h]
theorem ask_none {wh : Int} {c0 c1 : List Thg} {m : Int} (h0 : wh ≠ 0) (h3 : wh ≠ 3) (h : loomErr c0 c1 m = none) : askErr wh c0 c1 m = none := by
  obtain ⟨q0, q1⟩ := loomErr_none h
  unfold askErr
  rw [q0]
  dsimp only
  rw [if_neg h0, q1]
  dsimp only
  rw [if_neg (fun z => h3 z.1)]
theorem ask_0 {c0 c1 : List Thg} {m : Int} : askErr 0 c0 c1 m = needC c0 m := by
  unfold askErr
  cases needC c0 m <;> rfl
theorem ask_3 {c0 c1 : List Thg} {m : Int} (h : loomErr c0 c1 m = none) : askErr 3 c0 c1 m = if 5 < c0.length ∨ 5 < c1.length then some .tooMany else none := by
  obtain ⟨q0, q1⟩ := loomErr_none h
  unfold askErr
  rw [q0]
  dsimp only
  rw [if_neg (by decide), q1]
  dsimp only
  by_cases z : 5 < c0.length ∨ 5 < c1.length
  · rw [if_pos ⟨rfl, z⟩, if_pos z]
  · rw [if_neg (fun y => z y.2), if_neg z]
/-- no take and no free among the things -/
def NGc (c : List Thg) : Prop := ∀ s : Stp, s.isG = true → some s.enc ∉ c
theorem NGc.rows {rs : List Stp} (h : NGc (rs.map fun s => some s.enc)) : ∀ s ∈ rs, s.isG = false := fun s hs => by
  cases q : s.isG with
  | false => rfl
  | true => exact absurd (List.mem_map.mpr ⟨s, hs, rfl⟩) (h s q)
theorem R4.ng {ts : List T4} (h : ∀ t ∈ ts, NG4 t) : NGc (ts.map T4.thg) := fun s hs hm => by
  obtain ⟨t, ht, e⟩ := List.mem_map.mp hm
  cases t with
  | tup xs =>
    have : xs = s.enc := Option.some.inj e
    subst this
    exact h _ ht s hs rfl
  | _ => cases e
theorem held_nog {rs : List Stp} {h : Bool} (n : ∀ s ∈ rs, s.isG = false) : heldBy h rs = h := by
  induction rs generalizing h with
  | nil => rfl
  | cons s r ih =>
    have hs := n s List.mem_cons_self
    rw [heldBy_cons, heldS_N hs, ih fun t ht => n t (List.mem_cons_of_mem _ ht)]
def spAsked (er : Err → Addr) : Sp := fun vs H Q E => ∃ (wh : Int) (a0 a1 b o : Addr) (x0 x1 : List V) (c0 c1 : List Thg) (bs : List Int) (hs : List Bool), vs = [.int wh, .ref a0, .ref a1, .ref b, .ref o] ∧ 0 ≤ wh ∧ wh ≤ 4 ∧ H a0 = some (.lst x0) ∧ H a1 = some (.lst x1) ∧ ThRow H x0 c0 ∧ ThRow H x1 c1 ∧ H b = some (.lst (bs.map V.int)) ∧ bs.length ≤ 100 ∧ H o = some (.lst (hs2V hs)) ∧
  (∀ e H', askErr wh c0 c1 bs.length = some e → Kp [] H H' → E (.ref (er e)) none H') ∧ (askErr wh c0 c1 bs.length = none → NGc c0 ∧ NGc c1 ∧ hs = [] ∧ ∀ v H', Kp [] H H' → Q v H')
def spTold4 : Sp := fun vs H Q _ => ∃ (wh kd : Int) (a0 a1 b o : Addr) (x0 x1 : List V) (c0 c1 : List Thg) (bs : List Int) (hs : List Bool), vs = [.int wh, .ref a0, .ref a1, .ref b, .int kd, .ref o] ∧ 0 ≤ wh ∧ wh ≤ 4 ∧ H a0 = some (.lst x0) ∧ H a1 = some (.lst x1) ∧ ThRow H x0 c0 ∧ ThRow H x1 c1 ∧ H b = some (.lst (bs.map V.int)) ∧ bs.length ≤ 100 ∧ H o = some (.lst (hs2V hs)) ∧
  (askErr wh c0 c1 bs.length = none → NGc c0 ∧ NGc c1 ∧ hs = []) ∧ ∀ H', Kp [] H H' → Q (.str (nm4 (askErr wh c0 c1 bs.length))) H'
def spDue4 : Sp := fun vs H Q _ => ∃ (a : Addr) (many : Int) (xs : List V) (ts : List T4), vs = [.ref a, .int many] ∧ H a = some (.lst xs) ∧ R4 H xs ts ∧ ∀ H', Kp [] H H' → Q (.str (nm4 (needC (ts.map T4.thg) many))) H'
theorem useDue4 {H : Hp} {Q : VK} {E : XK} {a : Addr} {many : Int} {xs : List V} {ts : List T4} (h : H a = some (.lst xs)) (r : R4 H xs ts) (k : ∀ H', Kp [] H H' → Q (.str (nm4 (needC (ts.map T4.thg) many))) H') : spDue4 [.ref a, .int many] H Q E := ⟨a, many, xs, ts, rfl, h, r, k⟩
def spPut4 : Sp := fun vs H Q _ => ∃ (a : Addr) (j : Nat) (v : V) (xs : List V), vs = [.ref a, .int j, v] ∧ H a = some (.lst xs) ∧ xs.length ≤ 100 ∧ ∀ p H', Fre H p → Kp [] H H' → H' p = some (.lst (xs.take j ++ [v] ++ xs.drop (j + 1))) → Q (.ref p) H'
theorem usePut4 {H : Hp} {Q : VK} {E : XK} {a : Addr} {i : Int} {v : V} {xs : List V} (j : Nat) (ej : i = (j : Int)) (h : H a = some (.lst xs)) (hl : xs.length ≤ 100) (k : ∀ p H', Fre H p → Kp [] H H' → H' p = some (.lst (xs.take j ++ [v] ++ xs.drop (j + 1))) → Q (.ref p) H') : spPut4 [.ref a, .int i, v] H Q E := by
  subst ej
  exact ⟨a, j, v, xs, rfl, h, hl, k⟩
def spRow4 : Sp := fun vs H Q _ => ∃ (c : Int) (m : Nat), vs = [.int c, .int m] ∧ m ≤ 9 ∧ ∀ p xs ts H', Fre H p → Kp [] H H' → H' p = some (.lst xs) → R4 H' xs ts → xs.length ≤ 61 → (∀ t ∈ ts, NG4 t) → Q (.ref p) H'
theorem useRow4 {H : Hp} {Q : VK} {E : XK} {c : Int} {m : Nat} (hm : m ≤ 9) (k : ∀ p xs ts H', Fre H p → Kp [] H H' → H' p = some (.lst xs) → R4 H' xs ts → xs.length ≤ 61 → (∀ t ∈ ts, NG4 t) → Q (.ref p) H') : spRow4 [.int c, .int m] H Q E := ⟨c, m, rfl, hm, k⟩
def spWrongBy4 : Sp := fun vs H Q _ => ∃ (c many : Int), vs = [.int c, .int many] ∧ ∀ v t H', Kp [] H H' → At4 H' v t → Ok4 t → NG4 t → Q v H'
theorem useWrongBy4 {H : Hp} {Q : VK} {E : XK} {c many : Int} (k : ∀ v t H', Kp [] H H' → At4 H' v t → Ok4 t → NG4 t → Q v H') : spWrongBy4 [.int c, .int many] H Q E := ⟨c, many, rfl, k⟩
def spGuards4 : Sp := fun vs H Q _ => ∃ (a : Addr) (c : Int) (xs : List V) (ts : List T4), vs = [.ref a, .int c] ∧ H a = some (.lst xs) ∧ R4 H xs ts ∧ xs.length ≤ 61 ∧ ∀ p ys us H', Fre H p → Kp [] H H' → H' p = some (.lst ys) → R4 H' ys us → ys.length ≤ 63 → Q (.ref p) H'
theorem useGuards4 {H : Hp} {Q : VK} {E : XK} {a : Addr} {c : Int} {xs : List V} {ts : List T4} (h : H a = some (.lst xs)) (r : R4 H xs ts) (hl : xs.length ≤ 61) (k : ∀ p ys us H', Fre H p → Kp [] H H' → H' p = some (.lst ys) → R4 H' ys us → ys.length ≤ 63 → Q (.ref p) H') : spGuards4 [.ref a, .int c] H Q E := ⟨a, c, xs, ts, rfl, h, r, hl, k⟩
theorem ng_of {xs : List V} (h : ∀ w, xs ≠ [.str w]) : NG4 (.tup xs) := fun s hs e => by
  have : xs = s.enc := T4.tup.inj e
  subst this
  cases s <;> first | exact h _ rfl | cases hs
theorem ng_load0 : NG4 (.tup [.str "load"]) := fun s hs e => by
  have : [V.str "load"] = s.enc := T4.tup.inj e
  cases s <;> first | exact Bool.noConfusion hs | (exfalso; have h1 := V.str.inj (List.cons.inj this).1; dsimp only [Stp.word] at h1; exact absurd h1 (by decide +kernel))
theorem ng_oth {t : T4} (h : ∀ xs, t ≠ .tup xs) : NG4 t := fun s _ e => h _ e
theorem StpsAt.r4 {H : Hp} {ps : List Addr} {rs : List Stp} (r : StpsAt H ps rs) (h : ∀ s ∈ rs, s ≠ .twice) : R4 H (ps.map V.ref) (rs.map fun s => T4.tup s.enc) := by
  refine ⟨by rw [List.length_map, List.length_map, r.n], fun i v t h1 h2 => ?_, fun t ht => ?_⟩
  · obtain ⟨p, rfl, hp⟩ := get_map_ref h1
    rw [List.getElem?_map] at h2
    cases e : rs[i]? with
    | none => rw [e] at h2; cases h2
    | some s =>
      rw [e] at h2
      cases h2
      exact ⟨p, rfl, r.e i p s hp e⟩
  · obtain ⟨s, hs, rfl⟩ := List.mem_map.mp ht
    exact .stp s (h s hs)
theorem ng_enc {s : Stp} (h : s.isG = false) : NG4 (.tup s.enc) := fun u hu e => by
  have := enc_injG (T4.tup.inj e)
  subst this
  rw [h] at hu; cases hu
theorem ng_encs {rs : List Stp} (h : ∀ s ∈ rs, s.isG = false) : ∀ t ∈ rs.map (fun s => T4.tup s.enc), NG4 t := fun t ht => by
  obtain ⟨s, hs, rfl⟩ := List.mem_map.mp ht
  exact ng_enc (h s hs)
theorem mem_put {P : T4 → Prop} {ts : List T4} {t : T4} {j : Nat} (h : ∀ u ∈ ts, P u) (ht : P t) : ∀ u ∈ ts.take j ++ [t] ++ ts.drop (j + 1), P u := fun u hu => by
  rcases List.mem_append.mp hu with hu | hu
  · rcases List.mem_append.mp hu with hu | hu
    · exact h u (List.mem_of_mem_take hu)
    · simp only [List.mem_singleton] at hu
      rw [hu]; exact ht
  · exact h u (List.mem_of_mem_drop hu)
theorem R4.put {H : Hp} {xs : List V} {ts : List T4} {v : V} {t : T4} (r : R4 H xs ts) (j : Nat) (h : At4 H v t) (o : Ok4 t) : R4 H (xs.take j ++ [v] ++ xs.drop (j + 1)) (ts.take j ++ [t] ++ ts.drop (j + 1)) := ((r.take j).app (.one h o)).app (r.drop (j + 1))
theorem put_len {xs : List V} {v : V} {j : Nat} (h : j < xs.length) : (xs.take j ++ [v] ++ xs.drop (j + 1)).length = xs.length := by
  rw [List.length_append, List.length_append, List.length_take, List.length_drop, List.length_singleton]; omega
theorem nameOf_ne (e : Err) : nameOf e ≠ "" := by cases e <;> decide +kernel
/-- what stands once both rows are built -/
structure L4 (K : PySem.W.Frag) (H : Hp) (a D : Addr) (x : Bool → Addr) (xs : Bool → List V) (ts : Bool → List T4) (ns : List Int) : Prop where
  s : SqL K H a (ns.map V.int)
  d : H D = some (.lst [.ref (x false), .ref (x true)])
  x : ∀ h, H (x h) = some (.lst (xs h))
  r : ∀ h, R4 H (xs h) (ts h)
theorem L4.keep0 {K : PySem.W.Frag} {H H' : Hp} {a D : Addr} {x : Bool → Addr} {xs : Bool → List V} {ts : Bool → List T4} {ns : List Int} (l : L4 K H a D x xs ts ns) (k : Kp [] H H') : L4 K H' a D x xs ts ns :=
  ⟨k.seq0 l.s, k.get0 l.d, fun h => k.get0 (l.x h), fun h => (l.r h).keep0 k⟩
def cs4 (ts : Bool → List T4) (h : Bool) : List Thg := (ts h).map T4.thg
theorem cs4_len {H : Hp} {xs : Bool → List V} {ts : Bool → List T4} (r : ∀ h, R4 H (xs h) (ts h)) (h : Bool) : (cs4 ts h).length = (xs h).length := by unfold cs4; rw [List.length_map, (r h).n]
theorem at2x {x : Bool → Addr} {g : Bool} : atI [V.ref (x false), V.ref (x true)] (hI g) = some (.ref (x g)) := by cases g <;> rfl
theorem ix2x {x : Bool → Addr} {g : Bool} : ixN [V.ref (x false), V.ref (x true)].length (hI g) = some (hI g).toNat := by cases g <;> rfl
theorem set2x {x : Bool → Addr} {y : Addr} {g : Bool} : [V.ref (x false), V.ref (x true)].set (hI g).toNat (.ref y) = [V.ref (upB x g y false), V.ref (upB x g y true)] := by cases g <;> rfl
/-- what the law holds due behind its second look -/
def due2 (wh : Int) (c0 c1 : List Thg) (m : Int) : Option Err := match needC c0 m with
  | some e => some e
  | none => if wh = 0 then none else needC c1 m
theorem ask_due2 {wh : Int} {c0 c1 : List Thg} {m : Int} : askErr wh c0 c1 m = match due2 wh c0 c1 m with
    | some e => some e
    | none => if wh = 3 ∧ (5 < c0.length ∨ 5 < c1.length) then some .tooMany else none := by
  unfold askErr due2
  cases h0 : needC c0 m with
  | some e => rfl
  | none =>
    dsimp only
    by_cases hz : wh = 0
    · rw [if_pos hz, if_pos hz]
      dsimp only
      rw [if_neg (fun z => by rw [hz] at z; exact absurd z.1 (by decide))]
    · rw [if_neg hz, if_neg hz]
theorem ask_loom4 {c0 c1 : List Thg} {m : Int} (h : askErr 4 c0 c1 m = none) : loomErr c0 c1 m = none := by
  cases e : loomErr c0 c1 m with
  | none => rfl
  | some x => rw [ask_loom (by decide) e] at h; cases h
end G

namespace G
open PySem PySem.Spec PyProof.Rows L2
def top (i : Nat) : Stmt := PySem.Challenge.pw_guardrows_k04_rows_refused.main.body.getD i (.Pass ⟨0, 0, 0, 0⟩)

structure Txt (K : PySem.W.Frag) (mg : Str → Option Value) (aBOXED aGUARDS eWeaveError eTooMany eBadStep eBadBox eAgain eNotHeld eNoTurn eWaits eStuck C : Addr) : Prop where
  n_ValueError : mg "ValueError" = none
  n_isinstance : mg "isinstance" = none
  n_range : mg "range" = none
  n_int : mg "int" = none
  n_str : mg "str" = none
  n_len : mg "len" = none
  n_list : mg "list" = none
  n_bool : mg "bool" = none
  n_tuple : mg "tuple" = none
  g_BOXED : mg "BOXED" = some (.ref aBOXED)
  s_BOXED : ∀ H, SqT K H aBOXED [.str "load", .str "plus", .str "store"]
  g_GUARDS : mg "GUARDS" = some (.ref aGUARDS)
  s_GUARDS : ∀ H, SqT K H aGUARDS [.str "take", .str "free"]
  g_MOST_STEPS : ∃ t, mg "MOST_STEPS" = some (.int 60 t)
  g_MOST_SEARCHED : ∃ t, mg "MOST_SEARCHED" = some (.int 5 t)
  g_WeaveError : mg "WeaveError" = some (.ref eWeaveError)
  k_WeaveError : PySem.W.keepIn K (.ref eWeaveError) = true
  x_WeaveError : PySem.W.excIn K eWeaveError [.type "ValueError", .type "Exception", .type "BaseException", .type "object"] "ValueError.__new__" = true
  b_WeaveError : PySem.W.subIn K (.ref eWeaveError) (.type "BaseException") = some true
  t_WeaveError : PySem.W.typeIn K (.ref eWeaveError) = some (.type "type")
  d_WeaveError : PySem.W.hasDictIn K eWeaveError = true
  g_TooMany : mg "TooMany" = some (.ref eTooMany)
  k_TooMany : PySem.W.keepIn K (.ref eTooMany) = true
  x_TooMany : PySem.W.excIn K eTooMany [.type "ValueError", .type "Exception", .type "BaseException", .type "object"] "ValueError.__new__" = true
  b_TooMany : PySem.W.subIn K (.ref eTooMany) (.type "BaseException") = some true
  t_TooMany : PySem.W.typeIn K (.ref eTooMany) = some (.type "type")
  d_TooMany : PySem.W.hasDictIn K eTooMany = true
  g_BadStep : mg "BadStep" = some (.ref eBadStep)
  k_BadStep : PySem.W.keepIn K (.ref eBadStep) = true
  x_BadStep : PySem.W.excIn K eBadStep [.type "ValueError", .type "Exception", .type "BaseException", .type "object"] "ValueError.__new__" = true
  b_BadStep : PySem.W.subIn K (.ref eBadStep) (.type "BaseException") = some true
  t_BadStep : PySem.W.typeIn K (.ref eBadStep) = some (.type "type")
  d_BadStep : PySem.W.hasDictIn K eBadStep = true
  g_BadBox : mg "BadBox" = some (.ref eBadBox)
  k_BadBox : PySem.W.keepIn K (.ref eBadBox) = true
  x_BadBox : PySem.W.excIn K eBadBox [.type "ValueError", .type "Exception", .type "BaseException", .type "object"] "ValueError.__new__" = true
  b_BadBox : PySem.W.subIn K (.ref eBadBox) (.type "BaseException") = some true
  t_BadBox : PySem.W.typeIn K (.ref eBadBox) = some (.type "type")
  d_BadBox : PySem.W.hasDictIn K eBadBox = true
  g_Again : mg "Again" = some (.ref eAgain)
  k_Again : PySem.W.keepIn K (.ref eAgain) = true
  x_Again : PySem.W.excIn K eAgain [.type "ValueError", .type "Exception", .type "BaseException", .type "object"] "ValueError.__new__" = true
  b_Again : PySem.W.subIn K (.ref eAgain) (.type "BaseException") = some true
  t_Again : PySem.W.typeIn K (.ref eAgain) = some (.type "type")
  d_Again : PySem.W.hasDictIn K eAgain = true
  g_NotHeld : mg "NotHeld" = some (.ref eNotHeld)
  k_NotHeld : PySem.W.keepIn K (.ref eNotHeld) = true
  x_NotHeld : PySem.W.excIn K eNotHeld [.type "ValueError", .type "Exception", .type "BaseException", .type "object"] "ValueError.__new__" = true
  b_NotHeld : PySem.W.subIn K (.ref eNotHeld) (.type "BaseException") = some true
  t_NotHeld : PySem.W.typeIn K (.ref eNotHeld) = some (.type "type")
  d_NotHeld : PySem.W.hasDictIn K eNotHeld = true
  g_NoTurn : mg "NoTurn" = some (.ref eNoTurn)
  k_NoTurn : PySem.W.keepIn K (.ref eNoTurn) = true
  x_NoTurn : PySem.W.excIn K eNoTurn [.type "ValueError", .type "Exception", .type "BaseException", .type "object"] "ValueError.__new__" = true
  b_NoTurn : PySem.W.subIn K (.ref eNoTurn) (.type "BaseException") = some true
  t_NoTurn : PySem.W.typeIn K (.ref eNoTurn) = some (.type "type")
  d_NoTurn : PySem.W.hasDictIn K eNoTurn = true
  g_Waits : mg "Waits" = some (.ref eWaits)
  k_Waits : PySem.W.keepIn K (.ref eWaits) = true
  x_Waits : PySem.W.excIn K eWaits [.type "ValueError", .type "Exception", .type "BaseException", .type "object"] "ValueError.__new__" = true
  b_Waits : PySem.W.subIn K (.ref eWaits) (.type "BaseException") = some true
  t_Waits : PySem.W.typeIn K (.ref eWaits) = some (.type "type")
  d_Waits : PySem.W.hasDictIn K eWaits = true
  g_Stuck : mg "Stuck" = some (.ref eStuck)
  k_Stuck : PySem.W.keepIn K (.ref eStuck) = true
  x_Stuck : PySem.W.excIn K eStuck [.type "ValueError", .type "Exception", .type "BaseException", .type "object"] "ValueError.__new__" = true
  b_Stuck : PySem.W.subIn K (.ref eStuck) (.type "BaseException") = some true
  t_Stuck : PySem.W.typeIn K (.ref eStuck) = some (.type "type")
  d_Stuck : PySem.W.hasDictIn K eStuck = true
  m_TooMany_Waits : PySem.W.exmOne K (.ref eTooMany) (.ref eWaits) = some false
  m_TooMany_TooMany : PySem.W.exmOne K (.ref eTooMany) (.ref eTooMany) = some true
  m_TooMany_BadStep : PySem.W.exmOne K (.ref eTooMany) (.ref eBadStep) = some false
  m_TooMany_BadBox : PySem.W.exmOne K (.ref eTooMany) (.ref eBadBox) = some false
  m_TooMany_WeaveError : PySem.W.exmOne K (.ref eTooMany) (.ref eWeaveError) = some true
  m_BadStep_Waits : PySem.W.exmOne K (.ref eBadStep) (.ref eWaits) = some false
  m_BadStep_TooMany : PySem.W.exmOne K (.ref eBadStep) (.ref eTooMany) = some false
  m_BadStep_BadStep : PySem.W.exmOne K (.ref eBadStep) (.ref eBadStep) = some true
  m_BadStep_BadBox : PySem.W.exmOne K (.ref eBadStep) (.ref eBadBox) = some false
  m_BadStep_WeaveError : PySem.W.exmOne K (.ref eBadStep) (.ref eWeaveError) = some true
  m_BadBox_Waits : PySem.W.exmOne K (.ref eBadBox) (.ref eWaits) = some false
  m_BadBox_TooMany : PySem.W.exmOne K (.ref eBadBox) (.ref eTooMany) = some false
  m_BadBox_BadStep : PySem.W.exmOne K (.ref eBadBox) (.ref eBadStep) = some false
  m_BadBox_BadBox : PySem.W.exmOne K (.ref eBadBox) (.ref eBadBox) = some true
  m_BadBox_WeaveError : PySem.W.exmOne K (.ref eBadBox) (.ref eWeaveError) = some true
  m_Again_Waits : PySem.W.exmOne K (.ref eAgain) (.ref eWaits) = some false
  m_Again_TooMany : PySem.W.exmOne K (.ref eAgain) (.ref eTooMany) = some false
  m_Again_BadStep : PySem.W.exmOne K (.ref eAgain) (.ref eBadStep) = some false
  m_Again_BadBox : PySem.W.exmOne K (.ref eAgain) (.ref eBadBox) = some false
  m_Again_WeaveError : PySem.W.exmOne K (.ref eAgain) (.ref eWeaveError) = some true
  m_NotHeld_Waits : PySem.W.exmOne K (.ref eNotHeld) (.ref eWaits) = some false
  m_NotHeld_TooMany : PySem.W.exmOne K (.ref eNotHeld) (.ref eTooMany) = some false
  m_NotHeld_BadStep : PySem.W.exmOne K (.ref eNotHeld) (.ref eBadStep) = some false
  m_NotHeld_BadBox : PySem.W.exmOne K (.ref eNotHeld) (.ref eBadBox) = some false
  m_NotHeld_WeaveError : PySem.W.exmOne K (.ref eNotHeld) (.ref eWeaveError) = some true
  m_NoTurn_Waits : PySem.W.exmOne K (.ref eNoTurn) (.ref eWaits) = some false
  m_NoTurn_TooMany : PySem.W.exmOne K (.ref eNoTurn) (.ref eTooMany) = some false
  m_NoTurn_BadStep : PySem.W.exmOne K (.ref eNoTurn) (.ref eBadStep) = some false
  m_NoTurn_BadBox : PySem.W.exmOne K (.ref eNoTurn) (.ref eBadBox) = some false
  m_NoTurn_WeaveError : PySem.W.exmOne K (.ref eNoTurn) (.ref eWeaveError) = some true
  m_Waits_Waits : PySem.W.exmOne K (.ref eWaits) (.ref eWaits) = some true
  m_Waits_TooMany : PySem.W.exmOne K (.ref eWaits) (.ref eTooMany) = some false
  m_Waits_BadStep : PySem.W.exmOne K (.ref eWaits) (.ref eBadStep) = some false
  m_Waits_BadBox : PySem.W.exmOne K (.ref eWaits) (.ref eBadBox) = some false
  m_Waits_WeaveError : PySem.W.exmOne K (.ref eWaits) (.ref eWeaveError) = some true
  m_Stuck_Waits : PySem.W.exmOne K (.ref eStuck) (.ref eWaits) = some false
  m_Stuck_TooMany : PySem.W.exmOne K (.ref eStuck) (.ref eTooMany) = some false
  m_Stuck_BadStep : PySem.W.exmOne K (.ref eStuck) (.ref eBadStep) = some false
  m_Stuck_BadBox : PySem.W.exmOne K (.ref eStuck) (.ref eBadBox) = some false
  m_Stuck_WeaveError : PySem.W.exmOne K (.ref eStuck) (.ref eWeaveError) = some true
  xc_TooMany : ExcC K eTooMany
  v_TooMany_TooMany : PySem.W.kitOne K (.ref eTooMany) (.ref eTooMany) = some true
  v_TooMany_BadStep : PySem.W.kitOne K (.ref eTooMany) (.ref eBadStep) = some false
  v_TooMany_BadBox : PySem.W.kitOne K (.ref eTooMany) (.ref eBadBox) = some false
  v_TooMany_Again : PySem.W.kitOne K (.ref eTooMany) (.ref eAgain) = some false
  v_TooMany_NotHeld : PySem.W.kitOne K (.ref eTooMany) (.ref eNotHeld) = some false
  v_TooMany_NoTurn : PySem.W.kitOne K (.ref eTooMany) (.ref eNoTurn) = some false
  v_TooMany_Waits : PySem.W.kitOne K (.ref eTooMany) (.ref eWaits) = some false
  v_TooMany_Stuck : PySem.W.kitOne K (.ref eTooMany) (.ref eStuck) = some false
  v_TooMany_ValueError : PySem.W.kitOne K (.ref eTooMany) (.type "ValueError") = some true
  xc_BadStep : ExcC K eBadStep
  v_BadStep_TooMany : PySem.W.kitOne K (.ref eBadStep) (.ref eTooMany) = some false
  v_BadStep_BadStep : PySem.W.kitOne K (.ref eBadStep) (.ref eBadStep) = some true
  v_BadStep_BadBox : PySem.W.kitOne K (.ref eBadStep) (.ref eBadBox) = some false
  v_BadStep_Again : PySem.W.kitOne K (.ref eBadStep) (.ref eAgain) = some false
  v_BadStep_NotHeld : PySem.W.kitOne K (.ref eBadStep) (.ref eNotHeld) = some false
  v_BadStep_NoTurn : PySem.W.kitOne K (.ref eBadStep) (.ref eNoTurn) = some false
  v_BadStep_Waits : PySem.W.kitOne K (.ref eBadStep) (.ref eWaits) = some false
  v_BadStep_Stuck : PySem.W.kitOne K (.ref eBadStep) (.ref eStuck) = some false
  v_BadStep_ValueError : PySem.W.kitOne K (.ref eBadStep) (.type "ValueError") = some true
  xc_BadBox : ExcC K eBadBox
  v_BadBox_TooMany : PySem.W.kitOne K (.ref eBadBox) (.ref eTooMany) = some false
  v_BadBox_BadStep : PySem.W.kitOne K (.ref eBadBox) (.ref eBadStep) = some false
  v_BadBox_BadBox : PySem.W.kitOne K (.ref eBadBox) (.ref eBadBox) = some true
  v_BadBox_Again : PySem.W.kitOne K (.ref eBadBox) (.ref eAgain) = some false
  v_BadBox_NotHeld : PySem.W.kitOne K (.ref eBadBox) (.ref eNotHeld) = some false
  v_BadBox_NoTurn : PySem.W.kitOne K (.ref eBadBox) (.ref eNoTurn) = some false
  v_BadBox_Waits : PySem.W.kitOne K (.ref eBadBox) (.ref eWaits) = some false
  v_BadBox_Stuck : PySem.W.kitOne K (.ref eBadBox) (.ref eStuck) = some false
  v_BadBox_ValueError : PySem.W.kitOne K (.ref eBadBox) (.type "ValueError") = some true
  v_Again_Again : PySem.W.kitOne K (.ref eAgain) (.ref eAgain) = some true
  v_NotHeld_NotHeld : PySem.W.kitOne K (.ref eNotHeld) (.ref eNotHeld) = some true
  v_NoTurn_NoTurn : PySem.W.kitOne K (.ref eNoTurn) (.ref eNoTurn) = some true
  v_Waits_Waits : PySem.W.kitOne K (.ref eWaits) (.ref eWaits) = some true
  v_Stuck_Stuck : PySem.W.kitOne K (.ref eStuck) (.ref eStuck) = some true
  g_Loom : mg "Loom" = some (.ref C)
  cls : Cls K C
  na_rows : NoAttr K C "rows"
  na_boxes : NoAttr K C "boxes"
  na_numbers : NoAttr K C "numbers"
  na_places : NoAttr K C "places"
  na_holder : NoAttr K C "holder"
/-! ### the steps of a reading: local words -/
local macro_rules | `(tactic| walk_at "nin") => `(tactic| first | exact nin_nil | (refine' nin_cons ?n1 ?n2; (case n1 => walk_at "ne"); (case n2 => walk_at "nin")) | fail "no")
local macro_rules | `(tactic| walk_at "ne") => `(tactic| first
  | assumption
  | exact Ne.symm (by assumption)
  | (refine' ne_fr ?f1 ?f2; (case f1 => assumption); (case f2 => walk_at "hp"); done)
  | (refine' Ne.symm (ne_fr ?f1 ?f2); (case f1 => assumption); (case f2 => walk_at "hp"); done)
  | fail "no")
local macro_rules | `(tactic| walk_at "hp") => `(tactic| first
  | assumption
  | (refine' Kp.get0 ?k1 ?k2; (case k1 => with_reducible assumption); (case k2 => walk_at "hp"); done)
  | (refine' Kp.getW ?k1 ?k2 ?k3; (case k1 => with_reducible assumption); (case k2 => walk_at "hp"); (case k3 => first | exact Or.inl rfl | exact Or.inr (by walk_at "nin")); done)
  | fail "no")
local macro_rules | `(tactic| walk_at "hs") => `(tactic| first
  | assumption
  | (refine' Kp.seq0 ?k1 ?k2; (case k1 => with_reducible assumption); (case k2 => walk_at "hs"); done)
  | (refine' Kp.seqS ?k1 ?k2 ?k3; (case k1 => with_reducible assumption); (case k2 => walk_at "hs"); (case k3 => walk_at "nin"); done)
  | fail "no")
local macro_rules | `(tactic| walk_at "hl") => `(tactic| first
  | assumption
  | (refine' SqL.of ?hl; (case hl => walk_at "hp"); done)
  | walk_at "hs"
  | fail "no")
local macro_rules | `(tactic| walk_at "ht") => `(tactic| first
  | assumption
  | (refine' SqT.of ?hl; (case hl => walk_at "hp"); done)
  | fail "no")
local macro_rules | `(tactic| walk_at "hlt") => `(tactic| first
  | (refine' Or.inl (SqL.of ?hh); (case hh => walk_at "hp"); done)
  | (refine' Or.inr ?hh; (case hh => walk_at "ht"); done)
  | (refine' Or.inl ?hh; (case hh => walk_at "hs"); done)
  | fail "no")
local macro_rules | `(tactic| walk_at "fresh") => `(tactic| first | with_reducible assumption | (refine' Fre.fwd ?ka ?kb; (case ka => with_reducible assumption); (case kb => walk_at "fresh"); done) | fail "no")
local macro_rules | `(tactic| walk_at "mem") => `(tactic| first | exact List.mem_cons_self | exact List.mem_cons_of_mem _ (by walk_at "mem") | fail "no")
local macro_rules | `(tactic| walk_at "sub") => `(tactic| first | exact sub_nil | (refine' sub_cons ?s1 ?s2; (case s1 => first | exact Or.inl (by walk_at "mem") | exact Or.inr (by walk_at "fresh")); (case s2 => walk_at "sub"); done) | fail "no")
local macro_rules | `(tactic| walk_at "kp") => `(tactic| first
  | assumption
  | exact Kp.refl
  | (refine' Kp.step0 ?kb ?ka; (case ka => with_reducible assumption); (case kb => walk_at "kp"); done)
  | (refine' Kp.stepW ?kb ?ka ?ks; (case ka => with_reducible assumption); (case ks => walk_at "sub"); (case kb => walk_at "kp"); done)
  | fail "no")
local macro_rules | `(tactic| walk_at "len") => `(tactic| first
  | assumption
  | (refine' len_le ?h; (case h => (simp only [List.length_cons, List.length_nil, List.length_append, List.length_map]; omega)); done)
  | (refine' len_lt ?h; (case h => (simp only [List.length_cons, List.length_nil, List.length_append, List.length_map]; omega)); done)
  | exact len_le (by omega) | exact len_lt (by omega)
  | fail "no")
/- plain values -/
local macro_rules | `(tactic| walk_at "pl1") => `(tactic| first | assumption | exact True.intro | exact Or.inr ⟨_, by walk_at "hp"⟩ | exact Or.inl ⟨_, by walk_at "hp"⟩ | fail "no")
local macro_rules | `(tactic| walk_at "pl") => `(tactic| first | assumption | exact pl_nil | (refine' pl_cons ?p1 ?p2; (case p1 => walk_at "pl1"); (case p2 => walk_at "pl"); done) | fail "no")
/- a side condition on ints -/
local macro_rules | `(tactic| walk_at "num") => `(tactic| first
  | exact ⟨by decide, by decide⟩
  | (show (0 : Int) < _; decide)
  | exact ⟨by decide, by decide, by decide⟩
  | exact .of_left (intBits_le_64 (by decide) (by decide))
  | exact .of_right (intBits_le_64 (by omega) (by omega))
  | exact mulBig (by assumption)
  | assumption
  | decide
  | omega
  | fail "no")
local macro_rules | `(tactic| walk_at "ati") => `(tactic| first | with_reducible assumption | rfl | exact ati2I _ _ _ | exact ati2S _ _ _ | exact at_of rfl (by assumption) | fail "no")
local macro_rules | `(tactic| walk_at "ixn") => `(tactic| first | with_reducible assumption | rfl | fail "no")
local macro_rules | `(tactic| walk_at "tyx") => `(tactic| first
  | exact TyX.base (TyOf.int _) | exact TyX.base (TyOf.bl _) | exact TyX.base TyOf.non | exact TyX.base (TyOf.str _)
  | (refine' TyX.base (TyOf.lst ?hh); (case hh => walk_at "hp"); done)
  | (refine' TyX.base (TyOf.tup ?hh); (case hh => walk_at "hp"); done)
  | fail "no")
local macro_rules | `(tactic| walk_at "v1") => `(tactic| first
  | with_reducible refine' vVar ?_
  | with_reducible refine' vC ?_
  | with_reducible refine' vOp ?_
  | with_reducible refine' vI0 ?_
  | with_reducible refine' vU ?_
  | with_reducible refine' vSeq ?_
  | with_reducible refine' vAsg ?_
  | with_reducible refine' vName ?_
  | with_reducible refine' vCons ?_
  | with_reducible refine' vNil ?_
  | with_reducible refine' vCB ?_
  | with_reducible refine' vCall ?_
  | with_reducible refine' vIfS ?_
  | with_reducible refine' vTest ?_
  | with_reducible refine' vB ?_
  | with_reducible refine' vrBl ?_
  | with_reducible refine' vRet ?_
  | with_reducible refine' vRaise ?_
  | with_reducible refine' vForL ?_
  | with_reducible refine' vLcR ?_
  | with_reducible refine' vLcL ?_
  | with_reducible refine' vYes ?_
  | with_reducible refine' vrTst1 ?_
  | with_reducible refine' vMk ?_
  | with_reducible refine' vForT ?_
  | with_reducible refine' vForR ?_
  | with_reducible refine' vrNx ?_
  | with_reducible refine' vRetN ?_
  | with_reducible refine' vDrop ?_
  | with_reducible refine' vNext ?_
  | with_reducible refine' vBreak ?_
  | with_reducible refine' vCont ?_
  | with_reducible refine' vAnd ?_
  | with_reducible refine' vOr ?_
  | with_reducible refine' vNot ?_
  | with_reducible refine' vAndV ?_
  | with_reducible refine' vOrV ?_
  | with_reducible refine' vNotV ?_
  | with_reducible refine' vIfE ?_
  | with_reducible refine' vChain ?_
  | with_reducible refine' vUn ?_
  | with_reducible refine' vLst ?_
  | with_reducible refine' vTup ?_
  | with_reducible refine' vFld ?_
  | with_reducible refine' vSF ?_
  | with_reducible refine' vSub ?_
  | with_reducible refine' vSl ?_
  | with_reducible refine' vNoPart ?_
  | with_reducible refine' vPart ?_
  | with_reducible refine' vrPart ?_
  | with_reducible refine' vMeth ?_
  | with_reducible refine' iteT ?_
  | with_reducible refine' iteF ?_
  | with_reducible refine' iteNT ?_
  | with_reducible refine' iteNF ?_
  | ((with_reducible refine' vI ?c ?_); (case c => walk_at "num"))
  | with_reducible refine' vEqI ?_
  | with_reducible refine' vNeI ?_
  | with_reducible refine' vEqS ?_
  | with_reducible refine' vNeS ?_
  | with_reducible refine' vEqB ?_
  | with_reducible refine' vNeB ?_
  | ((with_reducible refine' vEq ?c ?_); (case c => rfl))
  | ((with_reducible refine' vNe ?c ?_); (case c => rfl))
  | with_reducible refine' vIsN ?_
  | with_reducible refine' vIsB ?_
  | with_reducible refine' vNotN ?_
  | with_reducible refine' vIntB ?_
  | with_reducible refine' vIntI ?_
  | ((with_reducible refine' vStrI ?h ?_); (case h => first | assumption | exact num3_log _))
  | ((with_reducible refine' vNewL ?z ?_); (case z => exact len_ok (Nat.le_of_ble_eq_true rfl)); intro p H' fr kp at_)
  | ((with_reducible refine' vNewT ?z ?_); (case z => exact len_ok (Nat.le_of_ble_eq_true rfl)); intro p H' fr kp at_)
  | ((with_reducible refine' vLen ?h ?_); (case h => walk_at "hlt"))
  | ((with_reducible refine' vIxL ?h ?e ?_); (case h => walk_at "hl"); (case e => walk_at "ati"))
  | ((with_reducible refine' vIxT ?h ?e ?_); (case h => walk_at "ht"); (case e => walk_at "ati"))
  | ((with_reducible refine' vIsi ?h ?e ?_); (case h => walk_at "tyx"); (case e => first | exact kit_ty (r := true) (by decide +kernel) | exact kit_ty (r := false) (by decide +kernel)))
  | ((with_reducible refine' vListOf ?h ?_); (case h => walk_at "hlt"); intro p H' fr kp at_)
  | ((with_reducible refine' vTupOf ?h ?_); (case h => walk_at "hl"); intro p H' fr kp at_)
  | ((with_reducible refine' vCat ?h1 ?h2 ?z ?_); (case h1 => walk_at "hp"); (case h2 => walk_at "hp"); (case z => walk_at "len"); intro p H' fr kp at_)
  | ((with_reducible refine' vSlL ?h ?_); (case h => walk_at "hl"); intro p H' fr kp at_)
  | with_reducible refine' vBM ?_
  | ((with_reducible refine' tyAnd ?ty ?_); (case ty => first | exact tyL (by walk_at "hp") | exact tySq (by walk_at "hl")))
  | ((with_reducible refine' vAppend ?h ?z ?_); (case h => walk_at "hp"); (case z => walk_at "len"); intro H' kp at_)
  | ((with_reducible refine' useIsiStr ?h ?_); (case h => assumption))
  | ((with_reducible refine' useIsiInt ?h ?_); (case h => assumption))
  | ((with_reducible refine' useIsiBl ?h ?_); (case h => assumption))
  | ((with_reducible refine' vSetL ?h ?e ?_); (case h => walk_at "hp"); (case e => walk_at "ixn"); intro H' kp at_)
  | fail "no")
local macro_rules | `(tactic| walk_at "vc") => `(tactic| repeat' (first | walk_at "v1" | walk_at "dec"))
/- a word among written words -/
local macro_rules | `(tactic| walk_at "v1") => `(tactic| first
  | ((with_reducible refine' vInP ?h ?f1 ?f2 ?_); (case h => first | exact .inr (Txt.s_GUARDS (by assumption) _) | exact .inr (Txt.s_BOXED (by assumption) _) | walk_at "hlt"); (case f1 => rfl); (case f2 => rfl))
  | ((with_reducible refine' vInN ?h ?f1 ?f2 ?_); (case h => first | exact .inr (Txt.s_GUARDS (by assumption) _) | exact .inr (Txt.s_BOXED (by assumption) _) | walk_at "hlt"); (case f1 => rfl); (case f2 => rfl))
  | fail "no")
/- steps -/
local macro_rules | `(tactic| walk_at "v1") => `(tactic| first
  | ((with_reducible refine' useInG ?h ?_); (case h => first | exact Txt.s_GUARDS (by assumption) _ | walk_at "ht"))
  | ((with_reducible refine' useInB ?h ?_); (case h => first | exact Txt.s_BOXED (by assumption) _ | walk_at "ht"))
  | with_reducible refine' useNeS ?_
  | with_reducible refine' useNeT ?_
  | with_reducible refine' useEqF ?_
  | ((with_reducible refine' useNinG ?h ?_); (case h => first | exact Txt.s_GUARDS (by assumption) _ | walk_at "ht"))
  | ((with_reducible refine' useNinB ?h ?_); (case h => first | exact Txt.s_BOXED (by assumption) _ | walk_at "ht"))
  | with_reducible refine' useEqS ?_
  | with_reducible refine' useEqT ?_
  | with_reducible refine' useEqL ?_
  | with_reducible refine' useHoldO ?_
  | with_reducible refine' useHold ?_
  | with_reducible refine' useHoldN ?_
  | with_reducible refine' useEqA ?_
  | fail "no")
local macro_rules | `(tactic| walk_at "ati") => `(tactic| first | exact enc0 _ | exact enc1 (by assumption) | fail "no")
/- calls of small defs -/
local macro_rules | `(tactic| walk_at "bt") => `(tactic| first | assumption | exact bt_cell (by assumption) _ | exact Bt.div (by walk_at "bt") (by decide) | fail "no")
local macro_rules | `(tactic| walk_at "v1") => `(tactic| first
  | ((with_reducible refine' useApart ?h1 ?h2 ?_); (case h1 => walk_at "hp"); (case h2 => walk_at "hp"))
  | ((with_reducible refine' useCell ?h1 ?h2 ?_); (case h1 => walk_at "hl"); (case h2 => walk_at "num"))
  | ((with_reducible refine' useNum ?h1 ?_); (case h1 => walk_at "bt"))
  | ((with_reducible refine' useStep ?_); intro p H' fr kp at_)
  | with_reducible refine' useTrue ?_
  | ((with_reducible refine' useIsStepT ?h1 ?h2 ?_); (case h1 => walk_at "hp"); (case h2 => walk_at "pl"))
  | ((with_reducible refine' useIsStepL ?h1 ?_); (case h1 => walk_at "hp"))
  | ((with_reducible refine' useIsStepN ?h1 ?h2 ?_); (case h1 => exact True.intro); (case h2 => (intro p z; cases z)))
  | ((with_reducible refine' useAlike ?h1 ?h2 ?h3 ?h4 ?_); (case h1 => walk_at "hp"); (case h2 => walk_at "hp"); (case h3 => first | assumption | omega | exact Nat.le_of_ble_eq_true rfl); (case h4 => first | assumption | omega | exact Nat.le_of_ble_eq_true rfl))
  | with_reducible refine' useWholeI ?_
  | with_reducible refine' useWholeB ?_
  | with_reducible refine' useWholeN ?_
  | ((with_reducible refine' useWhole ?h1 ?_); (case h1 => walk_at "pl1"))
  | fail "no")
/- a loom -/
local macro_rules | `(tactic| walk_at "la") => `(tactic| first
  | assumption
  | (refine' LoomAt.keep0 ?l1 ?l2; (case l2 => with_reducible assumption); (case l1 => walk_at "la"); done)
  | (refine' LoomAt.keepW ?l1 ?l2 ?n1 ?n2 ?n3 ?n4 ?n5 ?n6; (case l2 => with_reducible assumption); (case l1 => walk_at "la"); (case n1 => walk_at "nin"); (case n2 => walk_at "nin"); (case n3 => (intro h; walk_at "nin")); (case n4 => walk_at "nin"); (case n5 => walk_at "nin"); (case n6 => walk_at "nin"); done)
  | fail "no")
local macro_rules | `(tactic| walk_at "fld") => `(tactic| first | exact lf_rows | exact lf_boxes | exact lf_numbers | exact lf_places | exact lf_holder | fail "no")
local macro_rules | `(tactic| walk_at "nofld") => `(tactic| first | exact lf_over | exact lf_waits | exact lf_go | exact lf_guard | exact lf_touch | exact lf_twin | fail "no")
local macro_rules | `(tactic| walk_at "cls") => `(tactic| first | assumption | exact Txt.cls (by assumption) | fail "no")
local macro_rules | `(tactic| walk_at "na") => `(tactic| first | exact Txt.na_rows (by assumption) | exact Txt.na_boxes (by assumption) | exact Txt.na_numbers (by assumption) | exact Txt.na_places (by assumption) | exact Txt.na_holder (by assumption) | fail "no")
local macro_rules | `(tactic| walk_at "v1") => `(tactic| first
  | ((with_reducible refine' vrFld ?h ?c ?na ?l ?_); (case h => first | walk_at "hp" | exact LoomAt.ins (by walk_at "la")); (case c => walk_at "cls"); (case na => walk_at "na"); (case l => walk_at "fld"))
  | ((with_reducible refine' vrSF ?h ?c ?na ?l ?_); (case h => first | walk_at "hp" | exact LoomAt.ins (by walk_at "la")); (case c => walk_at "cls"); (case na => walk_at "na"); (case l => first | exact lf_len | exact Nat.le_of_ble_eq_true rfl); intro H' kp at_)
  | ((with_reducible refine' vrMeth ?h ?l ?_); (case h => first | walk_at "hp" | exact LoomAt.ins (by walk_at "la")); (case l => walk_at "nofld"))
  | ((with_reducible refine' useOver ?h ?_); (case h => walk_at "la"))
  | ((with_reducible refine' useOver0 ?h ?_); (case h => walk_at "la"))
  | ((with_reducible refine' useOver1 ?h ?_); (case h => walk_at "la"))
  | ((with_reducible refine' useWaits ?h ?o ?_); (case h => walk_at "la"); (case o => assumption))
  | fail "no")
/- a test that the facts decide -/
local macro_rules | `(tactic| walk_at "yes") => `(tactic| first | assumption | with_reducible exact rfl | with_reducible exact non_ne_int | with_reducible exact non_ne_ref | with_reducible exact non_ne_str | omega | (simp only [List.length_cons, List.length_nil, List.length_map, List.length_append]; omega) | fail "no")
local macro_rules | `(tactic| walk_at "yesb") => `(tactic| first | assumption | decide +kernel | fail "no")
local macro_rules | `(tactic| walk_at "wp") => `(tactic| simp only [wipe1, List.set_cons_zero, List.set_cons_succ])
local macro_rules | `(tactic| walk_at "dec") => `(tactic| first
  | ((with_reducible refine' iteWT ?h ?_); (case h => walk_at "yesb"))
  | ((with_reducible refine' iteWF ?h ?_); (case h => walk_at "yesb"))
  | ((with_reducible refine' iteST ?h ?_); (case h => decide +kernel))
  | ((with_reducible refine' iteSF ?h ?_); (case h => decide +kernel))
  | ((with_reducible refine' iteDT ?h ?_); (case h => walk_at "yes"))
  | ((with_reducible refine' iteDF ?h ?_); (case h => walk_at "yes"))
  | ((with_reducible refine' iteNDT ?h ?_); (case h => walk_at "yes"))
  | ((with_reducible refine' iteNDF ?h ?_); (case h => walk_at "yes"))
  | fail "no")
/- a branch that is not decided: both ways -/
local macro_rules | `(tactic| walk_at "br") => `(tactic| first
  | with_reducible refine' vIteN (fun hb => ?_) (fun hb => ?_)
  | with_reducible refine' vIteD (fun hb => ?_) (fun hb => ?_)
  | with_reducible refine' vIteNB (fun hb => ?_) (fun hb => ?_)
  | with_reducible refine' vIte (fun hb => ?_) (fun hb => ?_)
  | fail "no")
local macro_rules | `(tactic| walk_at "vb") => `(tactic| repeat' (first | walk_at "v1" | walk_at "dec" | walk_at "br"))
local macro_rules | `(tactic| walk_at "gob") => `(tactic| (simp only [start_cc, start_cn, start_nn, cxK]; walk_at "vb"))
local macro_rules | `(tactic| walk_at "go") => `(tactic| (simp only [start_cc, start_cn, start_nn, cxK]; walk_at "vc"))
/- try .. except -/
local macro_rules | `(tactic| walk_at "v1") => `(tactic| first
  | with_reducible refine' vTryAs ?_
  | with_reducible refine' vTryMany ?_
  | with_reducible refine' vMin2 ?_
  | with_reducible refine' vMax2 ?_
  | fail "no")
/- a stand -/
local macro_rules | `(tactic| walk_at "built") => `(tactic| (refine' StandAt.built ?t1 ?t2 ?t3 ?t4 ?t5 ?t6 ?t7 ?d1 ?d2 ?d3 ?d4 ?d5 ?d6 ?d7 ?d8 ?d9 ?e1 ?e2 ?e3 ?e4 ?e5 ?e6 ?e7 ?e8 ?e9; (case t1 => walk_at "hp"); (case t2 => walk_at "hp"); (case t3 => assumption); (case t4 => assumption); (case t5 => walk_at "hp"); (case t6 => walk_at "hp"); (case t7 => walk_at "hp"); (case d1 => walk_at "ne"); (case d2 => walk_at "ne"); (case d3 => walk_at "ne"); (case d4 => walk_at "ne"); (case d5 => walk_at "ne"); (case d6 => walk_at "ne"); (case d7 => walk_at "ne"); (case d8 => walk_at "ne"); (case d9 => walk_at "ne"); (case e1 => walk_at "ne"); (case e2 => walk_at "ne"); (case e3 => walk_at "ne"); (case e4 => walk_at "ne"); (case e5 => walk_at "ne"); (case e6 => walk_at "ne"); (case e7 => walk_at "ne"); (case e8 => walk_at "ne"); (case e9 => walk_at "ne")))
local macro_rules | `(tactic| walk_at "sa") => `(tactic| first
  | assumption
  | (refine' StandAt.keep0 ?l1 ?l2; (case l2 => with_reducible assumption); (case l1 => walk_at "sa"); done)
  | fail "no")

section
def okNames : Err → Bool
  | .tooMany => true | .badStep => true | .badBox => true | _ => false
abbrev s_l_due : Stmt := top 34
theorem sc_l_due : FnScope ["_law_row", "_law_many", "_law_step"] ["_law_row", "_law_many"] (defScope s_l_due) := ⟨rfl, rfl, rfl, by decide +kernel, rfl, by decide +kernel, by decide +kernel⟩
abbrev s_is_whole : Stmt := top 14
theorem sc_is_whole : FnScope ["thing"] ["thing"] (defScope s_is_whole) := ⟨rfl, rfl, rfl, by decide +kernel, rfl, by decide +kernel, by decide +kernel⟩
abbrev s_is_step : Stmt := top 15
theorem sc_is_step : FnScope ["thing", "word"] ["thing"] (defScope s_is_step) := ⟨rfl, rfl, rfl, by decide +kernel, rfl, by decide +kernel, by decide +kernel⟩
abbrev s_need_row : Stmt := top 16
theorem sc_need_row : FnScope ["row", "many", "step"] ["row", "many"] (defScope s_need_row) := ⟨rfl, rfl, rfl, by decide +kernel, rfl, by decide +kernel, by decide +kernel⟩
abbrev s_Loom_init : Stmt := inClass (top 18) 0
theorem sc_Loom_init : FnScope ["self", "ones", "others", "boxes"] ["self", "ones", "others", "boxes"] (defScope s_Loom_init) := ⟨rfl, rfl, rfl, by decide +kernel, rfl, by decide +kernel, by decide +kernel⟩
abbrev s_l_cell_at : Stmt := top 30
theorem sc_l_cell_at : FnScope ["_law_script", "_law_k"] ["_law_script", "_law_k"] (defScope s_l_cell_at) := ⟨rfl, rfl, rfl, by decide +kernel, rfl, by decide +kernel, by decide +kernel⟩
abbrev s_l_put : Stmt := top 31
theorem sc_l_put : FnScope ["_law_row", "_law_at", "_law_thing"] ["_law_row", "_law_at", "_law_thing"] (defScope s_l_put) := ⟨rfl, rfl, rfl, by decide +kernel, rfl, by decide +kernel, by decide +kernel⟩
abbrev s_l_row_by : Stmt := top 32
theorem sc_l_row_by : FnScope ["_law_cell", "_law_many", "_law_size", "_law_row", "_law_k"] ["_law_cell", "_law_many"] (defScope s_l_row_by) := ⟨rfl, rfl, rfl, by decide +kernel, rfl, by decide +kernel, by decide +kernel⟩
abbrev s_Loom_over : Stmt := inClass (top 18) 1
theorem sc_Loom_over : FnScope ["self", "hand"] ["self", "hand"] (defScope s_Loom_over) := ⟨rfl, rfl, rfl, by decide +kernel, rfl, by decide +kernel, by decide +kernel⟩
abbrev s_Loom_waits : Stmt := inClass (top 18) 2
theorem sc_Loom_waits : FnScope ["self", "hand"] ["self", "hand"] (defScope s_Loom_waits) := ⟨rfl, rfl, rfl, by decide +kernel, rfl, by decide +kernel, by decide +kernel⟩
abbrev s_Loom_guard : Stmt := inClass (top 18) 4
theorem sc_Loom_guard : FnScope ["self", "hand", "word"] ["self", "hand", "word"] (defScope s_Loom_guard) := ⟨rfl, rfl, rfl, by decide +kernel, rfl, by decide +kernel, by decide +kernel⟩
abbrev s_Loom_touch : Stmt := inClass (top 18) 5
theorem sc_Loom_touch : FnScope ["self", "hand", "word", "box"] ["self", "hand", "word", "box"] (defScope s_Loom_touch) := ⟨rfl, rfl, rfl, by decide +kernel, rfl, by decide +kernel, by decide +kernel⟩
abbrev s_Loom_go : Stmt := inClass (top 18) 3
theorem sc_Loom_go : FnScope ["self", "hand", "step"] ["self", "hand"] (defScope s_Loom_go) := ⟨rfl, rfl, rfl, by decide +kernel, rfl, by decide +kernel, by decide +kernel⟩
abbrev s_alone : Stmt := top 20
theorem sc_alone : FnScope ["row", "boxes", "loom"] ["row", "boxes"] (defScope s_alone) := ⟨rfl, rfl, rfl, by decide +kernel, rfl, by decide +kernel, by decide +kernel⟩
abbrev s_walked : Stmt := top 21
theorem sc_walked : FnScope ["ones", "others", "boxes", "order", "loom", "hand"] ["ones", "others", "boxes", "order"] (defScope s_walked) := ⟨rfl, rfl, rfl, by decide +kernel, rfl, by decide +kernel, by decide +kernel⟩
abbrev s_goes : Stmt := top 22
theorem sc_goes : FnScope ["loom", "hand"] ["loom", "hand"] (defScope s_goes) := ⟨rfl, rfl, rfl, by decide +kernel, rfl, by decide +kernel, by decide +kernel⟩
abbrev s_woven : Stmt := top 23
theorem sc_woven : FnScope ["ones", "others", "boxes", "turns", "loom", "order", "hand"] ["ones", "others", "boxes", "turns"] (defScope s_woven) := ⟨rfl, rfl, rfl, by decide +kernel, rfl, by decide +kernel, by decide +kernel⟩
abbrev s_plain : Stmt := top 26
theorem sc_plain : FnScope ["ones", "others", "boxes", "order"] ["ones", "others", "boxes", "order"] (defScope s_plain) := ⟨rfl, rfl, rfl, by decide +kernel, rfl, by decide +kernel, by decide +kernel⟩
abbrev s_Loom_twin : Stmt := inClass (top 18) 6
theorem sc_Loom_twin : FnScope ["self", "found"] ["self"] (defScope s_Loom_twin) := ⟨rfl, rfl, rfl, by decide +kernel, rfl, by decide +kernel, by decide +kernel⟩
abbrev s_grown : Stmt := top 27
theorem sc_grown : FnScope ["ways", "found", "known", "loom", "way", "hand", "after", "stand"] ["ways"] (defScope s_grown) := ⟨rfl, rfl, rfl, by decide +kernel, rfl, by decide +kernel, by decide +kernel⟩
abbrev s_strange : Stmt := top 28
theorem sc_strange : FnScope ["ones", "others", "boxes", "ways", "first", "second", "due", "step", "loom", "way"] ["ones", "others", "boxes"] (defScope s_strange) := ⟨rfl, rfl, rfl, by decide +kernel, rfl, by decide +kernel, by decide +kernel⟩
abbrev s_l_asked : Stmt := top 35
theorem sc_l_asked : FnScope ["_law_which", "_law_ones", "_law_others", "_law_boxes", "_law_order"] ["_law_which", "_law_ones", "_law_others", "_law_boxes", "_law_order"] (defScope s_l_asked) := ⟨rfl, rfl, rfl, by decide +kernel, rfl, by decide +kernel, by decide +kernel⟩
abbrev s_l_names : Stmt := top 36
theorem sc_l_names : FnScope ["_law_error", "_law_names_here"] ["_law_error"] (defScope s_l_names) := ⟨rfl, rfl, rfl, by decide +kernel, rfl, by decide +kernel, by decide +kernel⟩
abbrev s_l_told : Stmt := top 37
theorem sc_l_told : FnScope ["_law_which", "_law_ones", "_law_others", "_law_boxes", "_law_kind", "_law_order", "_law_error"] ["_law_which", "_law_ones", "_law_others", "_law_boxes", "_law_kind", "_law_order"] (defScope s_l_told) := ⟨rfl, rfl, rfl, by decide +kernel, rfl, by decide +kernel, by decide +kernel⟩
abbrev s_l_with_guards : Stmt := top 38
theorem sc_l_with_guards : FnScope ["_law_row", "_law_cell", "_law_guards", "_law_at"] ["_law_row", "_law_cell"] (defScope s_l_with_guards) := ⟨rfl, rfl, rfl, by decide +kernel, rfl, by decide +kernel, by decide +kernel⟩
abbrev s_l_wrong_by : Stmt := top 33
theorem sc_l_wrong_by : FnScope ["_law_cell", "_law_many", "_law_things"] ["_law_cell", "_law_many"] (defScope s_l_wrong_by) := ⟨rfl, rfl, rfl, by decide +kernel, rfl, by decide +kernel, by decide +kernel⟩
abbrev s_law : Stmt := top 39
theorem sc_law : FnScope ["_law_script", "_law_many", "_law_which", "_law_kind", "_law_rows", "_law_k", "_law_cell", "_law_hand", "_law_at", "_law_order", "_law_tried", "_law_due_here", "_law_boxes", "_law_loom"] ["_law_script"] (defScope s_law) := ⟨rfl, rfl, rfl, by decide +kernel, rfl, by decide +kernel, by decide +kernel⟩
variable {P : Program} {w : World} {K : PySem.W.Frag} {mg : Str → Option Value} {base : Heap} {aBOXED aGUARDS eWeaveError eTooMany eBadStep eBadBox eAgain eNotHeld eNoTurn eWaits eStuck C : Addr}
theorem cl_is_whole {f : Addr} {fd : FuncData} (T : Txt K mg aBOXED aGUARDS eWeaveError eTooMany eBadStep eBadBox eAgain eNotHeld eNoTurn eWaits eStuck C) (F : Fun K "is_whole" "is_whole" s_is_whole f fd) (hm : mg "is_whole" = some (.ref f)) (hb : Binds K fd ["thing"] [])  : Cl P w K mg base 1 "is_whole" ["thing"] spWhole := by
  refine Cl.of F hm hb sc_is_whole (fun vs H Q E h => ?_) (fun cdv A outer s H vs Q E hr h => ?_)
  · obtain ⟨v, rfl, _⟩ := h
    rfl
  · obtain ⟨v, rfl, pv, k⟩ := h
    refine ⟨_, (pss_one (ps_ret (pe_and (pe_callB call_isi (by rfl) T.n_isinstance b_isinstance (pa_cons (L2.pv 0) (pa_cons (pe_bltn (v := .ty "int") (by rfl) T.n_int b_int rfl) pa_nil))) (pe_one (pe_not (pe_callB call_isi (by rfl) T.n_isinstance b_isinstance (pa_cons (L2.pv 0) (pa_cons (pe_bltn (v := .ty "bool") (by rfl) T.n_bool b_bool rfl) pa_nil)))))))), ?_⟩
    cases v with
    | int x => walk_at "go"; exact k
    | bl x => walk_at "go"; exact k
    | byt _ => exact pv.elim
    | flt _ => exact pv.elim
    | ty _ => exact pv.elim
    | non => walk_at "go"; exact k
    | str x => walk_at "go"; exact k
    | ref p => walk_at "go"; exact iteF k
theorem cl_is_step {f : Addr} {fd : FuncData} (T : Txt K mg aBOXED aGUARDS eWeaveError eTooMany eBadStep eBadBox eAgain eNotHeld eNoTurn eWaits eStuck C) (F : Fun K "is_step" "is_step" s_is_step f fd) (hm : mg "is_step" = some (.ref f)) (hb : Binds K fd ["thing"] []) (c_is_whole : Cl P w K mg base 1 "is_whole" ["thing"] spWhole) : Cl P w K mg base 2 "is_step" ["thing"] spIsStep := by
  refine Cl.of F hm hb sc_is_step (fun vs H Q E h => ?_) (fun cdv A outer s H vs Q E hr h => ?_)
  · obtain ⟨v, rfl, _⟩ := h
    rfl
  · obtain ⟨v, rfl, pv, h⟩ := h
    refine ⟨_, (pss_cons (ps_if (PW.pt (pw_or (pt_not (pt_val (pe_callB call_isi (by rfl) T.n_isinstance b_isinstance (pa_cons (L2.pv 0) (pa_cons (pe_bltn (v := .ty "tuple") (by rfl) T.n_tuple b_tuple rfl) pa_nil))))) (pw_or1 (pt_cmpR op_eq (pe_callB call_lenG (by rfl) T.n_len b_len (pa_cons (L2.pv 0) pa_nil)) pe_int (nomark _))))) (pss_one (ps_ret pe_bl)) pss_nil)
    (pss_cons (ps_set (i := 1) sc_is_step.nd rfl (by first | exact Or.inl rfl | exact Or.inr rfl) (pe_ix ix_tup (L2.pv 0) pe_int (fun _ _ => rfl)))
    (pss_cons (ps_if (pt_not (pt_val (pe_callB call_isi (by rfl) T.n_isinstance b_isinstance (pa_cons (L2.pv 1) (pa_cons (pe_bltn (v := .ty "str") (by rfl) T.n_str b_str rfl) pa_nil))))) (pss_one (ps_ret pe_bl)) pss_nil)
    (pss_cons (ps_if (PW.pt (pw_or (pt_cmpR op_in_seq (L2.pv 1) (pe_gref rfl T.g_BOXED) (by rfl)) (pw_or1 (pt_cmpR op_eq (L2.pv 1) pe_str (nomark _))))) (pss_one (ps_ret (pe_and (pe_cmpR op_eq (pe_callB call_lenG (by rfl) T.n_len b_len (pa_cons (L2.pv 0) pa_nil)) pe_int (nomark _)) (pe_one (pe_cl c_is_whole hr (by decide) (takes_of rfl rfl rfl rfl) rfl (pa_cons (pe_ix ix_tup (L2.pv 0) pe_int (fun _ _ => rfl)) pa_nil)))))) pss_nil)
    (pss_one (ps_ret (pe_and (pe_cmpR op_eq (pe_callB call_lenG (by rfl) T.n_len b_len (pa_cons (L2.pv 0) pa_nil)) pe_int (nomark _)) (pe_one (pe_or (pe_cmpR op_eq (L2.pv 1) pe_str (nomark _)) (pe_one (pe_cmpR op_in_seq (L2.pv 1) (pe_gref rfl T.g_GUARDS) (by rfl)))))))))))), ?_⟩
    rcases h with ⟨p, xs, rfl, hp, hx, k⟩ | ⟨hn, k⟩
    · cases xs with
      | nil =>
        walk_at "go"
        exact k
      | cons x0 r =>
        have p0 : PlainV H x0 := hx _ List.mem_cons_self
        have e0 : atI (x0 :: r) 0 = some x0 := at_of (j := 0) rfl rfl
        have nz : ¬ ((((x0 :: r).length : Nat) : Int) = 0) := by simp; omega
        cases x0 with
        | str w =>
          rcases r with _ | ⟨x1, _ | ⟨x2, r2⟩⟩
          · unfold stepOk boxedW guardsW at k
            dsimp only at k
            walk_at "gob"
            all_goals (simp only [*, Bool.or_true, Bool.true_or, decide_true, decide_false, if_true, Bool.or_false, Bool.false_or, Bool.false_eq_true, if_false] at k; exact k)
          · have e1 : atI (V.str w :: [x1]) 1 = some x1 := at_of (j := 1) rfl rfl
            have p1 : PlainV H x1 := hx _ (by simp)
            unfold stepOk boxedW guardsW at k
            dsimp only at k
            walk_at "gob"
            all_goals (try refine useWhole p1 ?_)
            all_goals (simp only [*, Bool.or_true, Bool.true_or, decide_true, decide_false, if_true, Bool.or_false, Bool.false_or, Bool.false_eq_true, if_false] at k; exact k)
          · unfold stepOk boxedW guardsW at k
            dsimp only at k
            walk_at "gob"
            all_goals (simp only [*, Bool.or_true, Bool.true_or, decide_true, decide_false, if_true, Bool.or_false, Bool.false_or, Bool.false_eq_true, if_false, ite_self] at k; exact k)
        | byt _ => exact p0.elim
        | flt _ => exact p0.elim
        | ty _ => exact p0.elim
        | non => (walk_at "go"); exact k
        | int x => (walk_at "go"); exact k
        | bl x => (walk_at "go"); exact k
        | ref x => (walk_at "go"); exact iteT (by walk_at "vc"; exact k)
    · cases v with
      | ref p =>
        obtain ⟨ys, hp⟩ := hn p rfl
        walk_at "go"; exact k
      | byt _ => exact pv.elim
      | flt _ => exact pv.elim
      | ty _ => exact pv.elim
      | non => walk_at "go"; exact k
      | str x => walk_at "go"; exact k
      | int x => walk_at "go"; exact k
      | bl x => walk_at "go"; exact k
theorem cl_need_row {f : Addr} {fd : FuncData} (T : Txt K mg aBOXED aGUARDS eWeaveError eTooMany eBadStep eBadBox eAgain eNotHeld eNoTurn eWaits eStuck C) (F : Fun K "need_row" "need_row" s_need_row f fd) (hm : mg "need_row" = some (.ref f)) (hb : Binds K fd ["row", "many"] []) (c_is_step : Cl P w K mg base 2 "is_step" ["thing"] spIsStep) : Cl P w K mg base 3 "need_row" ["row", "many"] (spNeed (ers eTooMany eBadStep eBadBox eAgain eNotHeld eNoTurn eWaits eStuck)) := by
  refine Cl.of F hm hb sc_need_row (fun vs H Q E h => ?_) (fun cdv A outer s H vs Q E hr h => ?_)
  · obtain ⟨a, many, xs, cs, rfl, _⟩ := h
    rfl
  · obtain ⟨a, many, xs, cs, rfl, hl, ht, k, ke⟩ := h
    refine ⟨_, (pss_cons (ps_if (pt_cmpR op_gt (pe_callB call_lenG (by rfl) T.n_len b_len (pa_cons (L2.pv 0) pa_nil)) (pe_gint rfl T.g_MOST_STEPS) (nomark _)) (pss_one (ps_raiseG rfl (takes_of rfl rfl rfl rfl) T.x_TooMany T.g_TooMany T.k_TooMany T.b_TooMany T.t_TooMany rfl)) pss_nil)
    (pss_one (ps_for (passes_of rfl) rfl (pi_list (L2.pv 0)) (pg_name (i := 2) sc_need_row.nd rfl (by first | exact Or.inl rfl | exact Or.inr rfl)) (pss_cons (ps_if (pt_not (pt_val (pe_cl c_is_step hr (by decide) (takes_of rfl rfl rfl rfl) rfl (pa_cons (L2.pv 2) pa_nil)))) (pss_one (ps_raiseG rfl (takes_of rfl rfl rfl rfl) T.x_BadStep T.g_BadStep T.k_BadStep T.b_BadStep T.t_BadStep rfl)) pss_nil)
    (pss_one (ps_if (PW.pt (pw_and (pt_cmpR op_in_seq (pe_ix ix_tup (L2.pv 2) pe_int (fun _ _ => rfl)) (pe_gref rfl T.g_BOXED) (by rfl)) (pw_and1 (pt_not (pt_chain op_le op_lt pe_int (pe_ix ix_tup (L2.pv 2) pe_int (fun _ _ => rfl)) (L2.pv 1)))))) (pss_one (ps_raiseG rfl (takes_of rfl rfl rfl rfl) T.x_BadBox T.g_BadBox T.k_BadBox T.b_BadBox T.t_BadBox rfl)) pss_nil)))))), ?_⟩
    walk_at "gob"
    · rename_i hb60
      exact ke .tooMany (by unfold needC; rw [if_pos (by have := ht.n; omega)])
    · rename_i hb60
      have h60 : ¬ cs.length > 60 := by have := ht.n; omega
      have en : needC cs many = cs.findSome? (thErr many) := by unfold needC; rw [if_neg h60]
      rw [en] at k
      simp only [en] at ke
      refine vrForL (xs := xs) (SqL.of hl) (fun i σ' H' => (∃ v : Option V, σ' = [some (.ref a), some (.int many), v]) ∧ H' = H ∧ (cs.take i).findSome? (thErr many) = none) ⟨⟨none, rfl⟩, rfl, by simp⟩ ?_ ?_ ?_
      · rintro i σ' H' _ ⟨_, rfl, _⟩
        exact SqL.of hl
      · rintro i x σ' H' hx ⟨⟨v, rfl⟩, rfl, hf⟩
        have hi : i < cs.length := by rw [← ht.n]; exact (List.getElem?_eq_some_iff.mp hx).1
        obtain ⟨c, hc⟩ : ∃ c, cs[i]? = some c := ⟨cs[i], List.getElem?_eq_getElem hi⟩
        have tc := ht.e i x c hx hc
        by_cases ho : okC c = true
        · cases c with
          | none => cases ho
          | some ys =>
            obtain ⟨s, rfl⟩ := stepOk_enc ho
            obtain ⟨p, rfl, hp, hpl⟩ := tc
            walk_at "vc"
            rw [enc_ok s]
            walk_at "vc"
            refine vIte (fun hB => ?_) (fun hB => ?_)
            · walk_at "vb"
              · rename_i h1 h2
                refine ke .badBox (find_take_some hf hc ?_)
                rw [thErr_enc, if_neg (by unfold inBox; rw [hB, decide_eq_true h1, decide_eq_false h2]; decide)]
              · rename_i h1 h2
                refine ⟨⟨_, rfl⟩, rfl, find_take_none hf hc ?_⟩
                rw [thErr_enc, if_pos (by unfold inBox; rw [hB, decide_eq_true h1, decide_eq_true h2]; rfl)]
              · rename_i h1
                refine ke .badBox (find_take_some hf hc ?_)
                rw [thErr_enc, if_neg (by unfold inBox; rw [hB, decide_eq_false h1]; simp)]
            · walk_at "vc"
              refine ⟨⟨_, rfl⟩, rfl, find_take_none hf hc ?_⟩
              rw [thErr_enc, if_pos (by unfold inBox; rw [hB]; rfl)]
        · have ho' : okC c = false := by simpa using ho
          cases c with
          | none =>
            walk_at "vc"
            obtain ⟨h1, h2⟩ := tc
            refine ⟨_, rfl, h1, .inr ⟨h2, ?_⟩⟩
            walk_at "vc"
            exact ke .badStep (find_take_some hf hc rfl)
          | some ys =>
            obtain ⟨p, rfl, hp, hpl⟩ := tc
            have ho2 : stepOk ys = false := ho'
            walk_at "vc"
            rw [ho2]
            walk_at "vc"
            exact ke .badStep (find_take_some hf hc (thErr_bad ho'))
      · rintro σ' H' ⟨⟨v, rfl⟩, rfl, hf⟩
        refine k ?_
        rw [ht.n, List.take_length] at hf
        exact hf
theorem cl_Loom_over {f : Addr} {fd : FuncData} (T : Txt K mg aBOXED aGUARDS eWeaveError eTooMany eBadStep eBadBox eAgain eNotHeld eNoTurn eWaits eStuck C) (F : Fun K "over" "Loom.over" s_Loom_over f fd) (cc : Cls K C) (hm : Meth K C "over" f) (hb : Binds K fd ["self", "hand"] [])  : Mt P w K mg base 1 C "over" ["self", "hand"] (spOver C) := by
  refine Mt.of F cc hm hb sc_Loom_over (fun vs H Q E h => ?_) (fun cdv A outer s H vs Q E hr h => ?_)
  · obtain ⟨A, S, h, rfl, _⟩ := h
    rfl
  · obtain ⟨A, S, g, rfl, L, k⟩ := h
    refine ⟨_, (pss_one (ps_ret (pe_cmpR op_eq (pe_ix ix_list (pe_fld (L2.pv 0) rfl) (L2.pv 1) (fun _ _ => rfl)) (pe_callB call_lenG (by rfl) T.n_len b_len (pa_cons (pe_ix ix_list (pe_fld (L2.pv 0) rfl) (L2.pv 1) (fun _ _ => rfl)) pa_nil)) (nomark _)))), ?_⟩
    have e1 : atI [V.int (S.pl false), V.int (S.pl true)] (hI g) = some (.int (S.pl g)) := at_h (f := S.pl) fun x => V.int x
    have e2 : atI [V.ref (A.row false), V.ref (A.row true)] (hI g) = some (.ref (A.row g)) := at_h (f := A.row) V.ref
    have h1 := L.pls
    have h2 := L.rws
    have h3 := (L.row g).l
    walk_at "go"
    have e : decide (((S.pl g : Nat) : Int) = (((A.ps g).map V.ref).length : Int)) = S.over g := by
      unfold LS.over
      rw [List.length_map, (L.row g).n]
      exact decide_eq_decide.mpr ⟨fun h => by omega, fun h => by omega⟩
    rw [e]
    exact k
theorem cl_Loom_waits {f : Addr} {fd : FuncData} (T : Txt K mg aBOXED aGUARDS eWeaveError eTooMany eBadStep eBadBox eAgain eNotHeld eNoTurn eWaits eStuck C) (F : Fun K "waits" "Loom.waits" s_Loom_waits f fd) (cc : Cls K C) (hm : Meth K C "waits" f) (hb : Binds K fd ["self", "hand"] []) (c_Loom_over : Mt P w K mg base 1 C "over" ["self", "hand"] (spOver C)) : Mt P w K mg base 2 C "waits" ["self", "hand"] (spWaits C) := by
  refine Mt.of F cc hm hb sc_Loom_waits (fun vs H Q E h => ?_) (fun cdv A outer s H vs Q E hr h => ?_)
  · obtain ⟨A, S, h, rfl, _⟩ := h
    rfl
  · obtain ⟨A, S, g, rfl, L, o, k⟩ := h
    refine ⟨_, (pss_cons (ps_if (pt_val (pe_mt c_Loom_over hr (by decide) (takes_of rfl rfl rfl rfl) (L2.pv 0) (pa_cons (L2.pv 1) pa_nil))) (pss_one (ps_ret pe_bl)) pss_nil)
    (pss_one (ps_ret (pe_and (pe_cmpR op_eq (pe_ix ix_tup (pe_ix ix_list (pe_ix ix_list (pe_fld (L2.pv 0) rfl) (L2.pv 1) (fun _ _ => rfl)) (pe_ix ix_list (pe_fld (L2.pv 0) rfl) (L2.pv 1) (fun _ _ => rfl)) (fun _ _ => rfl)) pe_int (fun _ _ => rfl)) pe_str (nomark _)) (pe_one (pe_cmpR op_eq (pe_fld (L2.pv 0) rfl) (pe_op op_sub pe_int (L2.pv 1)) (nomark _))))))), ?_⟩
    have e1 : atI [V.int (S.pl false), V.int (S.pl true)] (hI g) = some (.int (S.pl g)) := at_h (f := S.pl) fun x => V.int x
    have e2 : atI [V.ref (A.row false), V.ref (A.row true)] (hI g) = some (.ref (A.row g)) := at_h (f := A.row) V.ref
    have h1 := L.pls
    have h2 := L.rws
    have h3 := (L.row g).l
    walk_at "go"
    refine vIte (fun hv => ?_) (fun hv => ?_)
    · rw [waits_none ((next_none o).mpr hv)] at k
      walk_at "vc"
      exact k
    · obtain ⟨s, hs⟩ := next_some o hv
      obtain ⟨pt, hpt, e3, h4⟩ := (L.row g).get hs
      rw [waits_some hs] at k
      walk_at "vc"
      refine vIte (fun ht => ?_) (fun ht => ?_)
      · rw [ht] at k
        walk_at "vc"
        exact k
      · rw [ht] at k
        exact k
theorem cl_Loom_guard {f : Addr} {fd : FuncData} (T : Txt K mg aBOXED aGUARDS eWeaveError eTooMany eBadStep eBadBox eAgain eNotHeld eNoTurn eWaits eStuck C) (F : Fun K "guard" "Loom.guard" s_Loom_guard f fd) (cc : Cls K C) (hm : Meth K C "guard" f) (hb : Binds K fd ["self", "hand", "word"] [])  : Mt P w K mg base 1 C "guard" ["self", "hand", "word"] (spGuard (ers eTooMany eBadStep eBadBox eAgain eNotHeld eNoTurn eWaits eStuck) C) := by
  refine Mt.of F cc hm hb sc_Loom_guard (fun vs H Q E h => ?_) (fun cdv A outer s H vs Q E hr h => ?_)
  · obtain ⟨A, S, h, s, rfl, _⟩ := h
    rfl
  · obtain ⟨A, S, g, s, rfl, hG, L, ke, k⟩ := h
    refine ⟨_, (pss_cons (ps_if (pt_cmpR op_eq (L2.pv 2) pe_str (nomark _)) (pss_cons (ps_if (pt_cmpR op_eq (pe_fld (L2.pv 0) rfl) (L2.pv 1) (nomark _)) (pss_one (ps_raiseG rfl (takes_of rfl rfl rfl rfl) T.x_Again T.g_Again T.k_Again T.b_Again T.t_Again rfl)) pss_nil)
    (pss_cons (ps_fld (L2.pv 0) (L2.pv 1) rfl)
    (pss_one ps_retN))) pss_nil)
    (pss_cons (ps_if (pt_cmpR op_ne (pe_fld (L2.pv 0) rfl) (L2.pv 1) (nomark _)) (pss_one (ps_raiseG rfl (takes_of rfl rfl rfl rfl) T.x_NotHeld T.g_NotHeld T.k_NotHeld T.b_NotHeld T.t_NotHeld rfl)) pss_nil)
    (pss_one (ps_fld (L2.pv 0) pe_non rfl)))), ?_⟩
    cases s with
    | take =>
      walk_at "go"
      refine iteT ?_
      walk_at "vb"
      · rename_i hh
        exact ke .again (if_pos hh)
      · rename_i hh H1 kp1 a1
        exact k (if_neg hh) _ (kp_fp1 kp1) (L.setHd kp1 (some g) a1)
    | free =>
      walk_at "go"
      refine iteF ?_
      walk_at "vb"
      · rename_i hh
        exact ke .notHeld (if_neg hh)
      · rename_i hh H1 kp1 a1
        exact k (if_pos hh) _ (kp_fp1 kp1) (L.setHd kp1 none a1)
    | _ => cases hG
theorem cl_Loom_touch {f : Addr} {fd : FuncData} (T : Txt K mg aBOXED aGUARDS eWeaveError eTooMany eBadStep eBadBox eAgain eNotHeld eNoTurn eWaits eStuck C) (F : Fun K "touch" "Loom.touch" s_Loom_touch f fd) (cc : Cls K C) (hm : Meth K C "touch" f) (hb : Binds K fd ["self", "hand", "word", "box"] [])  : Mt P w K mg base 1 C "touch" ["self", "hand", "word", "box"] (spTouch C) := by
  refine Mt.of F cc hm hb sc_Loom_touch (fun vs H Q E h => ?_) (fun cdv A outer s H vs Q E hr h => ?_)
  · obtain ⟨A, S, h, s, rfl, _⟩ := h
    rfl
  · obtain ⟨A, S, g, s, rfl, hB, L, b0, b1, k⟩ := h
    refine ⟨_, (pss_one (ps_if (pt_cmpR op_eq (L2.pv 2) pe_str (nomark _)) (pss_one (ps_asg (pe_ix ix_list (pe_fld (L2.pv 0) rfl) (L2.pv 1) (fun _ _ => rfl)) (pg_sub (pe_fld (L2.pv 0) rfl) (L2.pv 3) set_list))) (pss_one (ps_if (pt_cmpR op_eq (L2.pv 2) pe_str (nomark _)) (pss_one (ps_asg (pe_ix ix_list (pe_fld (L2.pv 0) rfl) (L2.pv 3) (fun _ _ => rfl)) (pg_sub (pe_fld (L2.pv 0) rfl) (L2.pv 1) set_list))) (pss_one (ps_asg (pe_op op_add (pe_ix ix_list (pe_fld (L2.pv 0) rfl) (L2.pv 1) (fun _ _ => rfl)) (pe_ix ix_list (pe_fld (L2.pv 0) rfl) (L2.pv 3) (fun _ _ => rfl))) (pg_sub (pe_fld (L2.pv 0) rfl) (L2.pv 1) set_list))))))), ?_⟩
    have e1 : atI [V.int (S.num false), V.int (S.num true)] (hI g) = some (.int (S.num g)) := at_h (f := S.num) fun x => V.int x
    have e2 := at_box (S := S) b0 b1
    have e3 : ixN [V.int (S.num false), V.int (S.num true)].length (hI g) = some (hI g).toNat := ix_h
    have e4 : ixN (S.boxes.map V.int).length s.arg = some s.arg.toNat := by rw [List.length_map]; exact ix_nat b0 b1
    have h1 := L.num
    have h2 := L.box
    cases s with
    | store x =>
      walk_at "go"
      refine iteT ?_
      walk_at "vc"
      rename_i H1 kp1 a1
      rw [← List.map_set] at a1
      exact k _ (kp_fpb kp1) (L.setBox kp1 _ a1)
    | load x =>
      walk_at "go"
      refine iteF ?_
      walk_at "vc"
      refine iteT ?_
      walk_at "vc"
      rename_i H1 kp1 a1
      rw [set_h (fun x => V.int x)] at a1
      exact k _ (kp_fpn kp1) (L.setNum kp1 _ a1)
    | plus x =>
      walk_at "go"
      refine iteF ?_
      walk_at "vc"
      refine iteF ?_
      walk_at "vc"
      rename_i H1 kp1 a1
      rw [set_h (fun x => V.int x)] at a1
      exact k _ (kp_fpn kp1) (L.setNum kp1 _ a1)
    | _ => cases hB
theorem cl_Loom_go {f : Addr} {fd : FuncData} (T : Txt K mg aBOXED aGUARDS eWeaveError eTooMany eBadStep eBadBox eAgain eNotHeld eNoTurn eWaits eStuck C) (F : Fun K "go" "Loom.go" s_Loom_go f fd) (cc : Cls K C) (hm : Meth K C "go" f) (hb : Binds K fd ["self", "hand"] []) (c_Loom_over : Mt P w K mg base 1 C "over" ["self", "hand"] (spOver C)) (c_Loom_waits : Mt P w K mg base 2 C "waits" ["self", "hand"] (spWaits C)) (c_Loom_guard : Mt P w K mg base 1 C "guard" ["self", "hand", "word"] (spGuard (ers eTooMany eBadStep eBadBox eAgain eNotHeld eNoTurn eWaits eStuck) C)) (c_Loom_touch : Mt P w K mg base 1 C "touch" ["self", "hand", "word", "box"] (spTouch C)) : Mt P w K mg base 3 C "go" ["self", "hand"] (spGo (ers eTooMany eBadStep eBadBox eAgain eNotHeld eNoTurn eWaits eStuck) C) := by
  refine Mt.of F cc hm hb sc_Loom_go (fun vs H Q E h => ?_) (fun cdv A outer s H vs Q E hr h => ?_)
  · obtain ⟨A, S, h, rfl, _⟩ := h
    rfl
  · obtain ⟨A, S, g, rfl, L, o, ke, k⟩ := h
    refine ⟨_, (pss_cons (ps_if (pt_val (pe_mt c_Loom_over hr (by decide) (takes_of rfl rfl rfl rfl) (L2.pv 0) (pa_cons (L2.pv 1) pa_nil))) (pss_one (ps_raiseG rfl (takes_of rfl rfl rfl rfl) T.x_NoTurn T.g_NoTurn T.k_NoTurn T.b_NoTurn T.t_NoTurn rfl)) pss_nil)
    (pss_cons (ps_if (pt_val (pe_mt c_Loom_waits hr (by decide) (takes_of rfl rfl rfl rfl) (L2.pv 0) (pa_cons (L2.pv 1) pa_nil))) (pss_one (ps_raiseG rfl (takes_of rfl rfl rfl rfl) T.x_Waits T.g_Waits T.k_Waits T.b_Waits T.t_Waits rfl)) pss_nil)
    (pss_cons (ps_set (i := 2) sc_Loom_go.nd rfl (by first | exact Or.inl rfl | exact Or.inr rfl) (pe_ix ix_list (pe_ix ix_list (pe_fld (L2.pv 0) rfl) (L2.pv 1) (fun _ _ => rfl)) (pe_ix ix_list (pe_fld (L2.pv 0) rfl) (L2.pv 1) (fun _ _ => rfl)) (fun _ _ => rfl)))
    (pss_cons (ps_if (pt_cmpR op_in_seq (pe_ix ix_tup (L2.pv 2) pe_int (fun _ _ => rfl)) (pe_gref rfl T.g_GUARDS) (by rfl)) (pss_one (ps_expr (pe_mt c_Loom_guard hr (by decide) (takes_of rfl rfl rfl rfl) (L2.pv 0) (pa_cons (L2.pv 1) (pa_cons (pe_ix ix_tup (L2.pv 2) pe_int (fun _ _ => rfl)) pa_nil))))) (pss_one (ps_if (pt_cmpR op_in_seq (pe_ix ix_tup (L2.pv 2) pe_int (fun _ _ => rfl)) (pe_gref rfl T.g_BOXED) (by rfl)) (pss_one (ps_expr (pe_mt c_Loom_touch hr (by decide) (takes_of rfl rfl rfl rfl) (L2.pv 0) (pa_cons (L2.pv 1) (pa_cons (pe_ix ix_tup (L2.pv 2) pe_int (fun _ _ => rfl)) (pa_cons (pe_ix ix_tup (L2.pv 2) pe_int (fun _ _ => rfl)) pa_nil)))))) (pss_one (ps_if (pt_cmpR op_eq (pe_ix ix_tup (L2.pv 2) pe_int (fun _ _ => rfl)) pe_str (nomark _)) (pss_one (ps_asg (pe_op op_add (pe_ix ix_list (pe_fld (L2.pv 0) rfl) (L2.pv 1) (fun _ _ => rfl)) (pe_ix ix_tup (L2.pv 2) pe_int (fun _ _ => rfl))) (pg_sub (pe_fld (L2.pv 0) rfl) (L2.pv 1) set_list))) (pss_one (ps_asg (pe_op op_mulX pe_int (pe_ix ix_list (pe_fld (L2.pv 0) rfl) (L2.pv 1) (fun _ _ => rfl))) (pg_sub (pe_fld (L2.pv 0) rfl) (L2.pv 1) set_list))))))))
    (pss_one (ps_asg (pe_op op_add (pe_ix ix_list (pe_fld (L2.pv 0) rfl) (L2.pv 1) (fun _ _ => rfl)) pe_int) (pg_sub (pe_fld (L2.pv 0) rfl) (L2.pv 1) set_list))))))), ?_⟩
    have p1 : atI [V.int (S.pl false), V.int (S.pl true)] (hI g) = some (.int (S.pl g)) := at_h (f := S.pl) fun x => V.int x
    have p2 : atI [V.ref (A.row false), V.ref (A.row true)] (hI g) = some (.ref (A.row g)) := at_h (f := A.row) V.ref
    have p3 : atI [V.int (S.num false), V.int (S.num true)] (hI g) = some (.int (S.num g)) := at_h (f := S.num) fun x => V.int x
    have p4 : ixN [V.int (S.num false), V.int (S.num true)].length (hI g) = some (hI g).toNat := ix_h
    have p5 : ixN [V.int (S.pl false), V.int (S.pl true)].length (hI g) = some (hI g).toNat := ix_h
    have h1 := L.pls
    have h2 := L.rws
    have h3 := (L.row g).l
    have h4 := L.num
    have h0 := L.ins
    obtain ⟨m1, m2, m3, m4, m5⟩ := L.np
    have n1 := L.nq
    walk_at "go"
    refine vIte (fun hv => ?_) (fun hv => ?_)
    · walk_at "vc"
      exact ke .noTurn (err_none ((next_none o).mpr hv))
    obtain ⟨s, hs⟩ := next_some o hv
    walk_at "vc"
    refine vIte (fun hw => ?_) (fun hw => ?_)
    · walk_at "vc"
      exact ke .waits (err_waits hs hw)
    rw [err_g hs hw] at k
    simp only [err_g hs hw] at ke
    obtain ⟨pt, hpt, e3, ht⟩ := (L.row g).get hs
    have fin : ∀ H1, Kp A.fp H H1 → LoomAt C H1 A (S.act g s) → S.gErr g s = none → tSeq tNext tNext ⟨fun _ _ => True, Q, fun _ _ => True, fun _ _ => True⟩ [] H → ∀ H2, Kp [A.q] H1 H2 → H2 A.q = some (.lst ([V.int (S.pl false), V.int (S.pl true)].set (hI g).toNat (.int ((S.pl g : Int) + 1)))) → Q .non H2 := fun H1 k1 L1 hg _ H2 k2 e => by
      have e' : H2 A.q = some (.lst [V.int (upB S.pl g (S.pl g + 1) false : Nat), V.int (upB S.pl g (S.pl g + 1) true : Nat)]) := by
        rw [e]
        cases g <;> rfl
      have L2 : LoomAt C H2 A ((S.act g s).tick g) := by
        unfold LS.tick
        rw [act_pl]
        exact L1.setPl k2 _ e'
      exact k hg s H2 hs (k1.trans (kp_fpq k2)) L2
    walk_at "vc"
    refine vIte (fun hG => ?_) (fun hG => ?_)
    · walk_at "vc"
      refine ⟨A, S, g, s, rfl, hG, L, ke, fun hg H1 k1 L1 => ?_⟩
      have q1 : H1 A.q = some (.lst [V.int (S.pl false), V.int (S.pl true)]) := by rw [← act_pl S g s]; exact L1.pls
      walk_at "vc"
      rename_i H2 k2 a2
      exact fin H1 k1 L1 hg trivial H2 k2 a2
    walk_at "vc"
    have hg := gErr_no (S := S) (g := g) hG
    refine vIte (fun hB => ?_) (fun hB => ?_)
    · have hb := o.box g s (List.mem_of_getElem? hs)
      unfold inBox at hb
      rw [hB] at hb
      simp only [Bool.not_true, Bool.false_or, Bool.and_eq_true, decide_eq_true_eq] at hb
      walk_at "vc"
      refine ⟨A, S, g, s, rfl, hB, L, hb.1, hb.2, fun H1 k1 L1 => ?_⟩
      have q1 : H1 A.q = some (.lst [V.int (S.pl false), V.int (S.pl true)]) := by rw [← act_pl S g s]; exact L1.pls
      walk_at "vc"
      rename_i H2 k2 a2
      exact fin H1 k1 L1 hg trivial H2 k2 a2
    cases s with
    | add x =>
      walk_at "vc"
      refine iteT ?_
      walk_at "vc"
      rename_i H1 k1 a1 H2 k2 a2
      rw [set_h (fun x => V.int x)] at a1
      exact fin H1 (kp_fpn k1) (L.setNum k1 _ a1) hg trivial H2 k2 a2
    | twice =>
      walk_at "vc"
      refine iteF ?_
      walk_at "vc"
      rename_i H1 k1 a1 H2 k2 a2
      rw [set_h (fun x => V.int x)] at a1
      exact fin H1 (kp_fpn k1) (L.setNum k1 _ a1) hg trivial H2 k2 a2
    | take => cases hG
    | free => cases hG
    | load x => cases hB
    | plus x => cases hB
    | store x => cases hB
theorem cl_Loom_init {f : Addr} {fd : FuncData} (T : Txt K mg aBOXED aGUARDS eWeaveError eTooMany eBadStep eBadBox eAgain eNotHeld eNoTurn eWaits eStuck C) (F : Fun K "__init__" "Loom.__init__" s_Loom_init f fd) (mk : Mk K C f) (hm : mg "Loom" = some (.ref C)) (hb : Binds K fd ["self", "ones", "others", "boxes"] []) (c_need_row : Cl P w K mg base 3 "need_row" ["row", "many"] (spNeed (ers eTooMany eBadStep eBadBox eAgain eNotHeld eNoTurn eWaits eStuck))) : Mr P w K mg base 4 "Loom" C ["self", "ones", "others", "boxes"] (spInit (ers eTooMany eBadStep eBadBox eAgain eNotHeld eNoTurn eWaits eStuck) C) := by
  refine Mr.of F mk hm hb sc_Loom_init (fun vs H Q E h => ?_) (fun cdv A outer s H vs Q E hr h => ?_)
  · obtain ⟨p, dx, a0, a1, b, x0, x1, c0, c1, bs, rfl, _⟩ := h
    rfl
  · obtain ⟨p, dx, a0, a1, b, x0, x1, c0, c1, bs, rfl, hp, h0, h1, t0, t1, hb, ke, k⟩ := h
    refine ⟨_, (pss_cons (ps_expr (pe_cl c_need_row hr (by decide) (takes_of rfl rfl rfl rfl) rfl (pa_cons (L2.pv 1) (pa_cons (pe_callB call_lenG (by rfl) T.n_len b_len (pa_cons (L2.pv 3) pa_nil)) pa_nil))))
    (pss_cons (ps_expr (pe_cl c_need_row hr (by decide) (takes_of rfl rfl rfl rfl) rfl (pa_cons (L2.pv 2) (pa_cons (pe_callB call_lenG (by rfl) T.n_len b_len (pa_cons (L2.pv 3) pa_nil)) pa_nil))))
    (pss_cons (ps_fld (L2.pv 0) (pe_lst (pa_cons (pe_callTy call_listG (by rfl) T.n_list b_list (pa_cons (L2.pv 1) pa_nil)) (pa_cons (pe_callTy call_listG (by rfl) T.n_list b_list (pa_cons (L2.pv 2) pa_nil)) pa_nil))) rfl)
    (pss_cons (ps_fld (L2.pv 0) (pe_callTy call_listG (by rfl) T.n_list b_list (pa_cons (L2.pv 3) pa_nil)) rfl)
    (pss_cons (ps_fld (L2.pv 0) (pe_lst (pa_cons pe_int (pa_cons pe_int pa_nil))) rfl)
    (pss_cons (ps_fld (L2.pv 0) (pe_lst (pa_cons pe_int (pa_cons pe_int pa_nil))) rfl)
    (pss_one (ps_fld (L2.pv 0) pe_non rfl)))))))), ?_⟩
    have np0 : a0 ≠ p := ne_kind h0 hp (by intro z; cases z)
    have np1 : a1 ≠ p := ne_kind h1 hp (by intro z; cases z)
    have npb : b ≠ p := ne_kind hb hp (by intro z; cases z)
    walk_at "go"
    refine useNeed h0 t0 (fun n0 => ?_) (fun e he => ke e (loomErr_0 (by rw [List.length_map] at he; exact he)))
    walk_at "vc"
    refine useNeed h1 t1 (fun n1 => ?_) (fun e he => ke e ?_)
    · walk_at "vc"
      rename_i q1 G1 f1 k1 e1 q2 G2 f2 k2 e2 q3 G3 f3 k3 e3 G4 k4 e4 q5 G5 f5 k5 e5 G6 k6 e6 q7 G7 f7 k7 e7 G8 k8 e8 q9 G9 f9 k9 e9 G10 k10 e10 G11 k11 e11
      rw [List.length_map] at n0 n1
      obtain ⟨l0, rs0, ec0, i0⟩ := needC_none n0
      obtain ⟨l1, rs1, ec1, i1⟩ := needC_none n1
      rw [ec0] at t0; rw [ec1] at t1
      obtain ⟨ps0, ex0, el0, en0⟩ := refs_of t0
      obtain ⟨ps1, ex1, el1, en1⟩ := refs_of t1
      have w1 : G11 q1 = some (.lst x0) := by walk_at "hp"
      have w2 : G11 q2 = some (.lst x1) := by walk_at "hp"
      have w3 : G11 q3 = some (.lst [.ref q1, .ref q2]) := by walk_at "hp"
      have w5 : G11 q5 = some (.lst (bs.map V.int)) := by walk_at "hp"
      have w7 : G11 q7 = some (.lst [.int 0, .int 0]) := by walk_at "hp"
      have w9 : G11 q9 = some (.lst [.int 0, .int 0]) := by walk_at "hp"
      have m57 : q5 ≠ q7 := by walk_at "ne"
      have m59 : q5 ≠ q9 := by walk_at "ne"
      have m79 : q7 ≠ q9 := by walk_at "ne"
      have m35 : q3 ≠ q5 := by walk_at "ne"
      have m37 : q3 ≠ q7 := by walk_at "ne"
      have m39 : q3 ≠ q9 := by walk_at "ne"
      have m15 : q1 ≠ q5 := by walk_at "ne"
      have m25 : q2 ≠ q5 := by walk_at "ne"
      have m17 : q1 ≠ q7 := by walk_at "ne"
      have m27 : q2 ≠ q7 := by walk_at "ne"
      have m19 : q1 ≠ q9 := by walk_at "ne"
      have m29 : q2 ≠ q9 := by walk_at "ne"
      have ff1 : Fre H q1 := by walk_at "fresh"
      have ff2 : Fre H q2 := by walk_at "fresh"
      have ff3 : Fre H q3 := by walk_at "fresh"
      have ff5 : Fre H q5 := by walk_at "fresh"
      have ff7 : Fre H q7 := by walk_at "fresh"
      have ff9 : Fre H q9 := by walk_at "fresh"
      have kk : Kp [p] H G11 := by walk_at "kp"
      refine k (by rw [loomErr_1 n0]; exact n1) ⟨p, dx, q3, fun h => bif h then q2 else q1, fun h => bif h then ps1 else ps0, q5, q7, q9⟩ ⟨fun h => bif h then rs1 else rs0, bs, fun _ => 0, fun _ => 0, none⟩ G11
        rfl ff3 (fun h => by cases h <;> first | exact ff1 | exact ff2) ff5 ff7 ff9 rfl rfl rfl rfl ⟨fun h => ?_, fun h s hs => ?_, fun h => Nat.zero_le _⟩ ec0 ec1 ex0.symm ex1.symm kk
        ⟨e11, w3, fun h => ?_, w5, w7, w9, m57, m59, m79, m35, m37, m39, fun h => by cases h <;> first | exact m15 | exact m25, fun h => by cases h <;> first | exact m17 | exact m27, fun h => by cases h <;> first | exact m19 | exact m29⟩
      · cases h
        · show rs0.length ≤ 60; rw [ec0, List.length_map] at l0; exact l0
        · show rs1.length ≤ 60; rw [ec1, List.length_map] at l1; exact l1
      · cases h
        · exact i0 s hs
        · exact i1 s hs
      · cases h
        · exact ⟨by rw [ex0] at w1; exact w1, el0, fun i q s a b => kk.getT (en0 i q s a b)⟩
        · exact ⟨by rw [ex1] at w2; exact w2, el1, fun i q s a b => kk.getT (en1 i q s a b)⟩
    · rw [List.length_map] at n0 he
      rw [loomErr_1 n0]; exact he
theorem cl_Loom_twin {f : Addr} {fd : FuncData} (T : Txt K mg aBOXED aGUARDS eWeaveError eTooMany eBadStep eBadBox eAgain eNotHeld eNoTurn eWaits eStuck C) (F : Fun K "twin" "Loom.twin" s_Loom_twin f fd) (cc : Cls K C) (hm : Meth K C "twin" f) (hb : Binds K fd ["self"] []) (c_Loom : Mr P w K mg base 4 "Loom" C ["self", "ones", "others", "boxes"] (spInit (ers eTooMany eBadStep eBadBox eAgain eNotHeld eNoTurn eWaits eStuck) C)) : Mt P w K mg base 6 C "twin" ["self"] (spTwin C) := by
  refine Mt.of F cc hm hb sc_Loom_twin (fun vs H Q E h => ?_) (fun cdv A outer s H vs Q E hr h => ?_)
  · obtain ⟨A, S, rfl, _⟩ := h
    rfl
  · obtain ⟨A, S, rfl, L, o, k⟩ := h
    refine ⟨_, (pss_cons (ps_set (i := 1) sc_Loom_twin.nd rfl (by first | exact Or.inl rfl | exact Or.inr rfl) (pe_mr c_Loom hr (by decide) (takes_of rfl rfl rfl rfl) rfl (pa_cons (pe_ix ix_list (pe_fld (L2.pv 0) rfl) pe_int (fun _ _ => rfl)) (pa_cons (pe_ix ix_list (pe_fld (L2.pv 0) rfl) pe_int (fun _ _ => rfl)) (pa_cons (pe_fld (L2.pv 0) rfl) pa_nil)))))
    (pss_cons (ps_fld (L2.pv 1) (pe_callTy call_listG (by rfl) T.n_list b_list (pa_cons (pe_fld (L2.pv 0) rfl) pa_nil)) rfl)
    (pss_cons (ps_fld (L2.pv 1) (pe_callTy call_listG (by rfl) T.n_list b_list (pa_cons (pe_fld (L2.pv 0) rfl) pa_nil)) rfl)
    (pss_cons (ps_fld (L2.pv 1) (pe_fld (L2.pv 0) rfl) rfl)
    (pss_one (ps_ret (L2.pv 1))))))), ?_⟩
    have h1 := L.pls
    have h2 := L.rws
    have h3 := L.num
    have h4 := L.box
    have h0 := L.ins
    have a0 : atI [V.ref (A.row false), V.ref (A.row true)] 0 = some (.ref (A.row false)) := rfl
    have a1 : atI [V.ref (A.row false), V.ref (A.row true)] 1 = some (.ref (A.row true)) := rfl
    walk_at "go"
    refine useLoom (L.row false).l (L.row true).l (L.row false).th (L.row true).th h4 (fun e H2 he k2 => absurd (he.symm.trans (loom_ok L o)) (by intro z; cases z)) ?_
    intro B r0 r1 H2 hn ec0 ec1 ep0 ep1 _ fa fr fw k2 LB
    have e0 := rows_inj ec0
    have e1 := rows_inj ec1
    subst e0 e1
    rw [← two_eq S.rows] at LB
    have q0 := map_ref_inj ep0
    have q1 := map_ref_inj ep1
    have LL2 := L.keep0 k2
    have i0 := LL2.ins
    have i1 := LL2.pls
    have i3 := LL2.num
    have np : A.p ≠ B.p := ne_fr fa.p h0
    have nq : A.q ≠ B.p := ne_fr fa.p h1
    have nb := LB.ins
    have k2' := k2
    obtain ⟨kH⟩ : Nonempty (PLift (Kp [] H H2)) := ⟨⟨k2⟩⟩
    clear k2 k2'
    walk_at "vc"
    rename_i y1 G1 fy1 ky1 ay1 G2 ky2 ay2 y3 G3 fy3 ky3 ay3 G4 ky4 ay4 G5 ky5 ay5
    have n13 : y1 ≠ y3 := by walk_at "ne"
    have p1 : y1 ≠ B.p := by walk_at "ne"
    have p3 : y3 ≠ B.p := by walk_at "ne"
    have fr1 : Fre H2 y1 := fy1
    have fr3 : Fre H2 y3 := (fy3.back ky2).back ky1
    have nn : ∀ {x : Addr} {u : HO}, H2 x = some u → x ≠ y1 ∧ x ≠ y3 := fun {x u} hx => ⟨ne_fr fr1 hx, ne_fr fr3 hx⟩
    have g1 : G5 y1 = some (.lst [.int (S.num false), .int (S.num true)]) := by walk_at "hp"
    have g3 : G5 y3 = some (.lst [.int (S.pl false), .int (S.pl true)]) := by walk_at "hp"
    have K25 : Kp [B.p] H2 G5 := ((((Kp.of0 ky1).trans ky2).step0 ky3).trans ky4).trans ky5
    obtain ⟨m1, m2, m3, m4, m5⟩ := LB.np
    have fin : Kp [] H G5 := kH.down.step K25 (sub_cons (.inr fa.p) sub_nil)
    refine k ⟨B.p, B.dx, B.r, B.row, B.ps, B.b, y1, y3⟩ G5 fa.p fr fw fa.b (fr1.back kH.down) (fr3.back kH.down) ?_ fin ⟨ay5, K25.get LB.rws (by simpa using m1.symm), fun h => (LB.row h).keep K25 (by simpa using (m2 h).symm), K25.get LB.box (by simpa using m3.symm), g1, g3, (nn LB.box).1, (nn LB.box).2, n13, LB.rb, (nn LB.rws).1, (nn LB.rws).2, LB.wb, fun h => (nn (LB.row h).l).1, fun h => (nn (LB.row h).l).2⟩
    funext h
    cases h
    · exact q0
    · exact q1
theorem cl_goes {f : Addr} {fd : FuncData} (T : Txt K mg aBOXED aGUARDS eWeaveError eTooMany eBadStep eBadBox eAgain eNotHeld eNoTurn eWaits eStuck C) (F : Fun K "goes" "goes" s_goes f fd) (hm : mg "goes" = some (.ref f)) (hb : Binds K fd ["loom", "hand"] []) (c_Loom_over : Mt P w K mg base 1 C "over" ["self", "hand"] (spOver C)) (c_Loom_waits : Mt P w K mg base 2 C "waits" ["self", "hand"] (spWaits C)) : Cl P w K mg base 3 "goes" ["loom", "hand"] (spGoes C) := by
  refine Cl.of F hm hb sc_goes (fun vs H Q E h => ?_) (fun cdv A outer s H vs Q E hr h => ?_)
  · obtain ⟨A, S, g, rfl, _⟩ := h
    rfl
  · obtain ⟨A, S, g, rfl, L, o, k⟩ := h
    refine ⟨_, (pss_one (ps_ret (pe_and (pe_not (pe_mt c_Loom_over hr (by decide) (takes_of rfl rfl rfl rfl) (L2.pv 0) (pa_cons (L2.pv 1) pa_nil))) (pe_one (pe_not (pe_mt c_Loom_waits hr (by decide) (takes_of rfl rfl rfl rfl) (L2.pv 0) (pa_cons (L2.pv 1) pa_nil))))))), ?_⟩
    unfold goesB at k
    walk_at "go"
    refine vIteNB (fun hv => ?_) (fun hv => ?_)
    · rw [hv] at k
      walk_at "vc"
      exact k
    · rw [hv] at k
      exact k
theorem cl_alone {f : Addr} {fd : FuncData} (T : Txt K mg aBOXED aGUARDS eWeaveError eTooMany eBadStep eBadBox eAgain eNotHeld eNoTurn eWaits eStuck C) (F : Fun K "alone" "alone" s_alone f fd) (hm : mg "alone" = some (.ref f)) (hb : Binds K fd ["row", "boxes"] []) (c_Loom : Mr P w K mg base 4 "Loom" C ["self", "ones", "others", "boxes"] (spInit (ers eTooMany eBadStep eBadBox eAgain eNotHeld eNoTurn eWaits eStuck) C)) (c_Loom_over : Mt P w K mg base 1 C "over" ["self", "hand"] (spOver C)) (c_Loom_go : Mt P w K mg base 3 C "go" ["self", "hand"] (spGo (ers eTooMany eBadStep eBadBox eAgain eNotHeld eNoTurn eWaits eStuck) C)) : Cl P w K mg base 6 "alone" ["row", "boxes"] (spAlone (ers eTooMany eBadStep eBadBox eAgain eNotHeld eNoTurn eWaits eStuck)) := by
  refine Cl.of F hm hb sc_alone (fun vs H Q E h => ?_) (fun cdv A outer s H vs Q E hr h => ?_)
  · obtain ⟨a, b, xs, cs, bs, rfl, _⟩ := h
    rfl
  · obtain ⟨a, b, xs, cs, bs, rfl, ha, ht, hb, ke, k⟩ := h
    refine ⟨_, (pss_cons (ps_set (i := 2) sc_alone.nd rfl (by first | exact Or.inl rfl | exact Or.inr rfl) (pe_mr c_Loom hr (by decide) (takes_of rfl rfl rfl rfl) rfl (pa_cons (L2.pv 0) (pa_cons (pe_lst pa_nil) (pa_cons (L2.pv 1) pa_nil)))))
    (pss_cons (ps_while (passes_of rfl) (pt_not (pt_val (pe_mt c_Loom_over hr (by decide) (takes_of rfl rfl rfl rfl) (L2.pv 2) (pa_cons pe_int pa_nil)))) (pss_one (ps_expr (pe_mt c_Loom_go hr (by decide) (takes_of rfl rfl rfl rfl) (L2.pv 2) (pa_cons pe_int pa_nil)))))
    (pss_one (ps_ret (pe_tup (pa_cons (pe_fld (L2.pv 2) rfl) (pa_cons (pe_ix ix_list (pe_fld (L2.pv 2) rfl) pe_int (fun _ _ => rfl)) pa_nil))))))), ?_⟩
    walk_at "go"
    rename_i p0 H1 f1 k1 e1
    refine useLoom (k1.get0 ha) e1 (ht.keep k1) ⟨rfl, fun i v c h => by simp at h⟩ (k1.get0 hb) (c1 := []) (fun e H2 he k2 => ke e H2 (by rw [loomErr_l] at he; exact he) (k1.trans k2)) ?_
    intro A r0 r1 H2 hn ec0 ec1 _ _ so fa _ _ k2 L
    have er1 : r1 = [] := by cases r1 with | nil => rfl | cons x y => cases ec1
    subst er1
    rw [loomErr_l] at hn
    obtain ⟨kE, kQ⟩ := k hn r0 ec0 so
    have fa0 : FreA H A := fa.fwd k1
    have k12 : Kp [] H H2 := k1.trans k2
    walk_at "vc"
    refine vWhile (fun m σ' H3 => σ' = [some (.ref a), some (.ref b), some (.ref A.p)] ∧ Kp [] H H3 ∧ ∃ S, S.Ok ∧ LoomAt C H3 A S ∧ m = r0.length - S.pl false ∧ S.rows = two r0 [] ∧ S.run (List.replicate m false) = (LS.start (two r0 []) bs).run (List.replicate r0.length false)) r0.length ⟨rfl, k12, _, so, L, rfl, rfl, rfl⟩ ?_
    rintro m σ' H3 ⟨rfl, k3, S, o, L3, em, er, hrun⟩
    walk_at "vc"
    refine vIteNB (fun hv => ?_) (fun hv => ?_)
    · have hlt := over_lt o hv
      rw [er] at hlt
      have hm : m = (r0.length - (S.pl false + 1)) + 1 := by have : (two r0 []) false = r0 := rfl; rw [this] at hlt; omega
      walk_at "vc"
      refine useGo0 L3 o (fun e he => ?_) (fun s H4 he hs k4 L4 => ?_)
      · refine kE e H3 ?_ k3
        rw [← hrun, hm, List.replicate_succ, run_err he]
      · walk_at "vc"
        refine ⟨_, ?_, rfl, k3.fp k4 fa0, _, o.eff hs, L4, rfl, by rw [eff_rows]; exact er, ?_⟩
        · rw [eff_pl, upB_same, hm]; omega
        · rw [← hrun, hm, List.replicate_succ, run_ok he hs, eff_pl, upB_same]
    · have hz : m = 0 := by
        have := over_len o hv
        rw [er] at this
        have e2 : (two r0 []) false = r0 := rfl
        rw [e2] at this
        omega
      have h1 := L3.ins
      have h2 := L3.num
      have h3 := L3.box
      walk_at "vc"
      rename_i p H4 f4 k4 a4
      exact kQ S p A.b H4 (by rw [← hrun, hz]; rfl) (f4.back k3) fa0.b (k3.trans k4) a4 (by walk_at "hp")
theorem cl_walked {f : Addr} {fd : FuncData} (T : Txt K mg aBOXED aGUARDS eWeaveError eTooMany eBadStep eBadBox eAgain eNotHeld eNoTurn eWaits eStuck C) (F : Fun K "walked" "walked" s_walked f fd) (hm : mg "walked" = some (.ref f)) (hb : Binds K fd ["ones", "others", "boxes", "order"] []) (c_Loom : Mr P w K mg base 4 "Loom" C ["self", "ones", "others", "boxes"] (spInit (ers eTooMany eBadStep eBadBox eAgain eNotHeld eNoTurn eWaits eStuck) C)) (c_Loom_go : Mt P w K mg base 3 C "go" ["self", "hand"] (spGo (ers eTooMany eBadStep eBadBox eAgain eNotHeld eNoTurn eWaits eStuck) C)) : Cl P w K mg base 6 "walked" ["ones", "others", "boxes", "order"] (spWalked (ers eTooMany eBadStep eBadBox eAgain eNotHeld eNoTurn eWaits eStuck)) := by
  refine Cl.of F hm hb sc_walked (fun vs H Q E h => ?_) (fun cdv A outer s H vs Q E hr h => ?_)
  · obtain ⟨a0, a1, b, o, x0, x1, c0, c1, bs, hs, rfl, _⟩ := h
    rfl
  · obtain ⟨a0, a1, b, o, x0, x1, c0, c1, bs, hs, rfl, h0, h1, t0, t1, hb, ho, ke, k⟩ := h
    refine ⟨_, (pss_cons (ps_set (i := 4) sc_walked.nd rfl (by first | exact Or.inl rfl | exact Or.inr rfl) (pe_mr c_Loom hr (by decide) (takes_of rfl rfl rfl rfl) rfl (pa_cons (L2.pv 0) (pa_cons (L2.pv 1) (pa_cons (L2.pv 2) pa_nil)))))
    (pss_cons (ps_for (passes_of rfl) rfl (pi_list (L2.pv 3)) (pg_name (i := 5) sc_walked.nd rfl (by first | exact Or.inl rfl | exact Or.inr rfl)) (pss_one (ps_expr (pe_mt c_Loom_go hr (by decide) (takes_of rfl rfl rfl rfl) (L2.pv 4) (pa_cons (L2.pv 5) pa_nil)))))
    (pss_one (ps_ret (pe_tup (pa_cons (pe_fld (L2.pv 4) rfl) (pa_cons (pe_fld (L2.pv 4) rfl) pa_nil))))))), ?_⟩
    walk_at "go"
    refine useLoom h0 h1 t0 t1 hb (fun e H2 he k2 => ke e H2 he k2) ?_
    intro A r0 r1 H2 hn ec0 ec1 _ _ so fa _ _ k2 L
    obtain ⟨kE, kQ⟩ := k hn r0 r1 ec0 ec1 so
    walk_at "vc"
    refine vrForL (xs := hs2V hs) (SqL.of (k2.get0 ho)) (fun j σ' H3 => ∃ v, σ' = [some (.ref a0), some (.ref a1), some (.ref b), some (.ref o), some (.ref A.p), v] ∧ Kp [] H H3 ∧ ∃ S, S.Ok ∧ LoomAt C H3 A S ∧ S.run (hs.drop j) = (LS.start (two r0 r1) bs).run hs) ⟨_, rfl, k2, _, so, L, rfl⟩ ?_ ?_ ?_
    · rintro j σ' H3 _ ⟨v, rfl, k3, _⟩
      exact SqL.of (k3.get0 ho)
    · rintro j x σ' H3 hx ⟨v, rfl, k3, S, oS, L3, hrun⟩
      obtain ⟨g, rfl, hg⟩ := get_hs hx
      rw [drop_get hg] at hrun
      walk_at "vc"
      refine useGo L3 oS (fun e he => ?_) (fun s H4 he hs' k4 L4 => ?_)
      · exact kE e H3 (by rw [← hrun, run_err he]) k3
      · walk_at "vc"
        exact ⟨_, rfl, k3.fp k4 fa, _, oS.eff hs', L4, by rw [← hrun, run_ok he hs']⟩
    · rintro σ' H3 ⟨v, rfl, k3, S, oS, L3, hrun⟩
      have i1 := L3.ins
      have i2 := L3.num
      have i3 := L3.box
      walk_at "vc"
      rename_i p H4 f4 k4 a4
      have hz : hs.drop (hs2V hs).length = [] := List.drop_eq_nil_of_le (by unfold hs2V; rw [List.length_map]; exact Nat.le_refl _)
      rw [hz] at hrun
      exact kQ S p A.b A.n H4 hrun.symm (f4.back k3) fa.b fa.n L3.bn (k3.trans k4) a4 (k4.get0 i3) (k4.get0 i2)
theorem cl_woven {f : Addr} {fd : FuncData} (T : Txt K mg aBOXED aGUARDS eWeaveError eTooMany eBadStep eBadBox eAgain eNotHeld eNoTurn eWaits eStuck C) (F : Fun K "woven" "woven" s_woven f fd) (hm : mg "woven" = some (.ref f)) (hb : Binds K fd ["ones", "others", "boxes", "turns"] []) (c_Loom : Mr P w K mg base 4 "Loom" C ["self", "ones", "others", "boxes"] (spInit (ers eTooMany eBadStep eBadBox eAgain eNotHeld eNoTurn eWaits eStuck) C)) (c_goes : Cl P w K mg base 3 "goes" ["loom", "hand"] (spGoes C)) (c_Loom_go : Mt P w K mg base 3 C "go" ["self", "hand"] (spGo (ers eTooMany eBadStep eBadBox eAgain eNotHeld eNoTurn eWaits eStuck) C)) (c_Loom_over : Mt P w K mg base 1 C "over" ["self", "hand"] (spOver C)) : Cl P w K mg base 6 "woven" ["ones", "others", "boxes", "turns"] (spWoven (ers eTooMany eBadStep eBadBox eAgain eNotHeld eNoTurn eWaits eStuck)) := by
  refine Cl.of F hm hb sc_woven (fun vs H Q E h => ?_) (fun cdv A outer s H vs Q E hr h => ?_)
  · obtain ⟨a0, a1, b, t, x0, x1, c0, c1, bs, ts, rfl, _⟩ := h
    rfl
  · obtain ⟨a0, a1, b, t, x0, x1, c0, c1, bs, ts, rfl, h0, h1, t0, t1, hb, ht, ke, k⟩ := h
    refine ⟨_, (pss_cons (ps_set (i := 4) sc_woven.nd rfl (by first | exact Or.inl rfl | exact Or.inr rfl) (pe_mr c_Loom hr (by decide) (takes_of rfl rfl rfl rfl) rfl (pa_cons (L2.pv 0) (pa_cons (L2.pv 1) (pa_cons (L2.pv 2) pa_nil)))))
    (pss_cons (ps_set (i := 5) sc_woven.nd rfl (by first | exact Or.inl rfl | exact Or.inr rfl) (pe_lst pa_nil))
    (pss_cut (ps_for (passes_of rfl) rfl (pi_list (L2.pv 3)) (pg_name (i := 6) sc_woven.nd rfl (by first | exact Or.inl rfl | exact Or.inr rfl)) (pss_one (ps_if (pt_val (pe_cl c_goes hr (by decide) (takes_of rfl rfl rfl rfl) rfl (pa_cons (L2.pv 4) (pa_cons (L2.pv 6) pa_nil)))) (pss_cons (ps_expr (pe_mt c_Loom_go hr (by decide) (takes_of rfl rfl rfl rfl) (L2.pv 4) (pa_cons (L2.pv 6) pa_nil)))
    (pss_one (ps_expr (pe_bm PySem.F.plainAttrs_list PySem.F.slot_list_append PySem.F.type_list_append mt_append (L2.pv 5) (pa_cons (L2.pv 6) pa_nil))))) pss_nil)))
    (pss_cut (ps_while (passes_of rfl) (PW.pt (pw_or (pt_not (pt_val (pe_mt c_Loom_over hr (by decide) (takes_of rfl rfl rfl rfl) (L2.pv 4) (pa_cons pe_int pa_nil)))) (pw_or1 (pt_not (pt_val (pe_mt c_Loom_over hr (by decide) (takes_of rfl rfl rfl rfl) (L2.pv 4) (pa_cons pe_int pa_nil))))))) (pss_cut (ps_if (PW.pt (pw_and (pt_not (pt_val (pe_cl c_goes hr (by decide) (takes_of rfl rfl rfl rfl) rfl (pa_cons (L2.pv 4) (pa_cons pe_int pa_nil))))) (pw_and1 (pt_not (pt_val (pe_cl c_goes hr (by decide) (takes_of rfl rfl rfl rfl) rfl (pa_cons (L2.pv 4) (pa_cons pe_int pa_nil)))))))) (pss_one (ps_raiseG rfl (takes_of rfl rfl rfl rfl) T.x_Stuck T.g_Stuck T.k_Stuck T.b_Stuck T.t_Stuck rfl)) pss_nil)
    (pss_one (ps_for (passes_of rfl) rfl (pi_tup (pe_tup (pa_cons pe_int (pa_cons pe_int pa_nil)))) (pg_name (i := 6) sc_woven.nd rfl (by first | exact Or.inl rfl | exact Or.inr rfl)) (pss_one (ps_while (passes_of rfl) (pt_val (pe_cl c_goes hr (by decide) (takes_of rfl rfl rfl rfl) rfl (pa_cons (L2.pv 4) (pa_cons (L2.pv 6) pa_nil)))) (pss_cons (ps_expr (pe_mt c_Loom_go hr (by decide) (takes_of rfl rfl rfl rfl) (L2.pv 4) (pa_cons (L2.pv 6) pa_nil)))
    (pss_one (ps_expr (pe_bm PySem.F.plainAttrs_list PySem.F.slot_list_append PySem.F.type_list_append mt_append (L2.pv 5) (pa_cons (L2.pv 6) pa_nil)))))))))))
    (pss_one (ps_ret (pe_tup (pa_cons (pe_fld (L2.pv 4) rfl) (pa_cons (pe_fld (L2.pv 4) rfl) (pa_cons (L2.pv 5) pa_nil)))))))))), ?_⟩
    walk_at "go"
    refine useLoom h0 h1 t0 t1 hb (fun e H2 he k2 => ke e H2 he k2) ?_
    intro A r0 r1 H2 hn ec0 ec1 _ _ so fa far faw k2 L
    obtain ⟨kE, kQ⟩ := k hn r0 r1 ec0 ec1 so
    have lrow0 := (L.row false).l
    have lrow1 := (L.row true).l
    have lr := L.rws
    have lb := L.box
    have ln := L.num
    have lq := L.pls
    have li := L.ins
    walk_at "vc"
    rename_i O Ho fO ko ao
    have dO : O ∉ A.fp := by
      simp only [LA.fp, List.mem_cons, List.not_mem_nil, or_false, not_or]
      exact ⟨(ne_fr fO li).symm, (ne_fr fO lb).symm, (ne_fr fO ln).symm, (ne_fr fO lq).symm⟩
    have dr : ∀ x, x = A.p ∨ x = A.r ∨ x = A.b ∨ x = A.n ∨ x = A.q ∨ x = A.row false ∨ x = A.row true → x ≠ O := by
      intro x hx
      rcases hx with rfl | rfl | rfl | rfl | rfl | rfl | rfl
      · exact ne_fr fO li
      · exact ne_fr fO lr
      · exact ne_fr fO lb
      · exact ne_fr fO ln
      · exact ne_fr fO lq
      · exact ne_fr fO lrow0
      · exact ne_fr fO lrow1
    have h2t := k2.get0 ht
    have nt : t ∉ O :: A.fp := by
      have q : ∀ {x}, Fre H x → t ≠ x := fun {x} f => ne_fr f ht
      exact nin_cons (ne_fr fO h2t) (nin_cons (q fa.p) (nin_cons (q fa.b) (nin_cons (q fa.n) (nin_cons (q fa.q) nin_nil))))
    have fin : ∀ {H'}, Kp (O :: A.fp) Ho H' → Kp [] H H' := fun {H'} k4 => (k2.trans ko).step k4 fun x hx => by
      simp only [LA.fp, List.mem_cons, List.not_mem_nil, or_false] at hx
      rcases hx with rfl | rfl | rfl | rfl | rfl
      · exact .inr (fO.back k2)
      · exact .inr fa.p
      · exact .inr fa.b
      · exact .inr fa.n
      · exact .inr fa.q
    have l0 : r0.length ≤ 60 := so.len false
    have l1 : r1.length ≤ 60 := so.len true
    have LO : LoomO C Ho Ho A O (two r0 r1) bs.length (LS.start (two r0 r1) bs) [] := ⟨Kp.refl, L.keep0 ko, so, ao, rfl, rfl, by show r0.length - 0 + (r1.length - 0) + 0 ≤ 120; omega⟩
    refine vCut (fun σ' H' => ∃ (v6 : Option V) (S : LS) (o : List Bool), σ' = [some (.ref a0), some (.ref a1), some (.ref b), some (.ref t), some (.ref A.p), some (.ref O), v6] ∧ LoomO C Ho H' A O (two r0 r1) bs.length S o ∧ Fol (LS.start (two r0 r1) bs) ts S o) ?_ ?_
    · walk_at "vc"
      refine vrForL (xs := hs2V ts) (SqL.of (ko.get0 h2t)) (fun j σ' H' => ∃ (v6 : Option V) (S : LS) (o : List Bool), σ' = [some (.ref a0), some (.ref a1), some (.ref b), some (.ref t), some (.ref A.p), some (.ref O), v6] ∧ LoomO C Ho H' A O (two r0 r1) bs.length S o ∧ ∀ r, Weave S o (ts.drop j) r → Weave (LS.start (two r0 r1) bs) [] ts r) ⟨_, _, [], rfl, LO, fun r hr => hr⟩ ?_ ?_ ?_
      · rintro j σ' H' _ ⟨v6, S, o, rfl, l, _⟩
        exact SqL.of (l.kp.get (ko.get0 h2t) nt)
      · rintro j x σ' H' hx ⟨v6, S, o, rfl, l, hw⟩
        obtain ⟨g, rfl, hg⟩ := get_hs hx
        rw [drop_get hg] at hw
        have hz := l.hz
        walk_at "vc"
        refine useGoes l.L l.ok ?_
        walk_at "vc"
        refine vIte (fun hgo => ?_) (fun hgo => ?_)
        · obtain ⟨s, hs, eg⟩ := goes_next l.ok hgo
          have LL := l.L
          walk_at "vc"
          refine useGo l.L l.ok (fun e he => ?_) (fun s H4 he hs' k4 L4 => ?_)
          · have e2 := gErr2 (eg.symm.trans he)
            exact kE e _ (hw _ (.err hgo he)) (e2.elim .inl fun z => .inr (.inl z)) (fin l.kp)
          · have o4 : H4 O = some (.lst (hs2V o)) := k4.get l.ord dO
            walk_at "vc"
            rename_i H5 k5 o5
            exact ⟨_, _, _, rfl, l.go dO dr hs' k4 L4 k5 o5, fun r hr => hw r (.go hgo he hs' hr)⟩
        · walk_at "vc"
          exact ⟨_, S, o, rfl, l, fun r hr => hw r (.pass hgo hr)⟩
      · rintro σ' H' ⟨v6, S, o, rfl, l, hw⟩
        rw [List.drop_eq_nil_of_le (by rw [hs2V_len]; exact Nat.le_refl _)] at hw
        exact ⟨v6, S, o, rfl, l, fun r hr => hw r (.rest hr)⟩
    rintro σ' H' ⟨v6, S, o, rfl, l, hf⟩
    refine vCut (fun σ' H' => ∃ (v6 : Option V) (S : LS) (o : List Bool), σ' = [some (.ref a0), some (.ref a1), some (.ref b), some (.ref t), some (.ref A.p), some (.ref O), v6] ∧ LoomO C Ho H' A O (two r0 r1) bs.length S o ∧ Weave (LS.start (two r0 r1) bs) [] ts (.ok (S, o))) ?_ ?_
    · refine vWhile (fun m σ' H' => ∃ (v6 : Option V) (S : LS) (o : List Bool), m = left S ∧ σ' = [some (.ref a0), some (.ref a1), some (.ref b), some (.ref t), some (.ref A.p), some (.ref O), v6] ∧ LoomO C Ho H' A O (two r0 r1) bs.length S o ∧ Fol (LS.start (two r0 r1) bs) ts S o) (left S) ⟨v6, S, o, rfl, rfl, l, hf⟩ ?_
      rintro m σ' H' ⟨v6, S, o, rfl, rfl, l, hf⟩
      have LL := l.L
      refine whTest (!(S.over false && S.over true)) (fun G hG => ?_) ?_
      · walk_at "vc"
        refine vIteNB (fun h0 => ?_) (fun h0 => ?_)
        · rw [h0] at hG
          exact hG
        · rw [h0] at hG
          walk_at "vc"
          exact hG
      refine vIteNB (fun hov => ?_) (fun hov => ?_)
      rotate_left
      · rw [Bool.and_eq_true] at hov
        exact ⟨_, S, o, rfl, l, hf _ (.done hov.1 hov.2)⟩
      walk_at "vc"
      refine vCut (fun σ' H2 => σ' = [some (.ref a0), some (.ref a1), some (.ref b), some (.ref t), some (.ref A.p), some (.ref O), v6] ∧ H2 = H' ∧ (goesB S false || goesB S true) = true) ?_ ?_
      · walk_at "vc"
        refine useGoes0 LL l.ok ?_
        walk_at "vc"
        refine vIteNB (fun g0 => ?_) (fun g0 => ?_)
        · walk_at "vc"
          refine useGoes1 LL l.ok ?_
          walk_at "vc"
          refine vIteNB (fun g1 => ?_) (fun g1 => ?_)
          · walk_at "vc"
            exact kE .stuck _ (hf _ (.stuck hov g0 g1)) (.inr (.inr rfl)) (fin l.kp)
          · walk_at "vc"
            exact ⟨rfl, rfl, by rw [g1, Bool.or_true]⟩
        · walk_at "vc"
          exact ⟨rfl, rfl, by rw [g0]; rfl⟩
      rintro σ' H2 ⟨rfl, rfl, hg⟩
      walk_at "vc"
      rename_i tp Ht ftp ktp atp
      have ntp : tp ∉ O :: A.fp := by
        have lp := l.L
        simp only [LA.fp, List.mem_cons, List.not_mem_nil, or_false, not_or]
        exact ⟨(ne_fr ftp l.ord).symm, (ne_fr ftp lp.ins).symm, (ne_fr ftp lp.box).symm, (ne_fr ftp lp.num).symm, (ne_fr ftp lp.pls).symm⟩
      refine vrForT (xs := [V.int 0, V.int 1]) (SqT.of atp) (fun i σ' H' => ∃ (v6 : Option V) (S1 : LS) (o1 : List Bool), σ' = [some (.ref a0), some (.ref a1), some (.ref b), some (.ref t), some (.ref A.p), some (.ref O), v6] ∧ LoomO C Ho H' A O (two r0 r1) bs.length S1 o1 ∧ Kp (O :: A.fp) Ht H' ∧ FolX (LS.start (two r0 r1) bs) ts i S1 o1 ∧ left S1 + o1.length = left S + o.length ∧ Prog S o i S1 o1) ?_ ?_ ?_ ?_
      · exact ⟨_, S, o, rfl, l.keep0 ktp, Kp.refl, FolX.of hf hg, rfl, rfl, rfl⟩
      · rintro i σ' H' _ ⟨v6, S1, o1, rfl, l1, kH, _⟩
        exact SqT.of (kH.getT atp)
      · rintro i x σ' H' hx ⟨v6, S1, o1, rfl, l1, kH, fx, esum, pr⟩
        obtain ⟨g, rfl, hi⟩ := hand01 hx
        have ff : FarF (LS.start (two r0 r1) bs) ts i g S1 o1 := fx.far hi
        walk_at "vc"
        refine vWhile (fun m σ' H' => ∃ (S2 : LS) (o2 : List Bool), m = left S2 ∧ σ' = [some (.ref a0), some (.ref a1), some (.ref b), some (.ref t), some (.ref A.p), some (.ref O), some (.int (hI g))] ∧ LoomO C Ho H' A O (two r0 r1) bs.length S2 o2 ∧ Kp (O :: A.fp) Ht H' ∧ FarF (LS.start (two r0 r1) bs) ts i g S2 o2 ∧ left S2 + o2.length = left S + o.length ∧ ((S2 = S1 ∧ o2 = o1) ∨ o1.length < o2.length)) (left S1) ⟨S1, o1, rfl, rfl, l1, kH, ff, esum, .inl ⟨rfl, rfl⟩⟩ ?_
        rintro m σ' H' ⟨S2, o2, rfl, rfl, l2, kH, ff, esum, hp⟩
        have LL := l2.L
        have hz := l2.hz
        walk_at "vc"
        refine useGoes LL l2.ok ?_
        walk_at "vc"
        refine vIte (fun hgo => ?_) (fun hgo => ?_)
        · obtain ⟨s, hs, eg⟩ := goes_next l2.ok hgo
          walk_at "vc"
          refine useGo LL l2.ok (fun e he => ?_) (fun s H4 he hs' k4 L4 => ?_)
          · have e2 := gErr2 (eg.symm.trans he)
            exact kE e _ (ff.err hgo he) (e2.elim .inl fun z => .inr (.inl z)) (fin l2.kp)
          · have o4 : H4 O = some (.lst (hs2V o2)) := k4.get l2.ord dO
            walk_at "vc"
            rename_i H5 k5 o5
            have hl := left_eff hs'
            refine ⟨_, ?_, _, _, rfl, rfl, l2.go dO dr hs' k4 L4 k5 o5, (kH.step k4 fun a h => .inl (List.mem_cons_of_mem _ h)).step k5 (sub_cons (.inl List.mem_cons_self) sub_nil), ff.go hgo he hs', ?_, ?_⟩
            · omega
            · rw [List.length_append, List.length_singleton]; omega
            · refine .inr ?_
              rw [List.length_append, List.length_singleton]
              rcases hp with ⟨_, rfl⟩ | hp <;> omega
        · exact ⟨_, S2, o2, rfl, l2, kH, ff.stop hgo, esum, pr.next hi hg hgo hp⟩
      · rintro σ' H' ⟨v6, S1, o1, rfl, l1, kH, fx, esum, pr⟩
        have pr : o.length < o1.length := pr
        exact ⟨left S1, by omega, _, S1, o1, rfl, rfl, l1, fx⟩
    rintro σ' H' ⟨v6, S, o, rfl, l, hw⟩
    have i1 := l.L.ins
    have i2 := l.L.num
    have i3 := l.L.box
    have i4 := l.ord
    walk_at "vc"
    rename_i p H4 f4 k4 a4
    have kf := fin l.kp
    exact kQ S o p A.b A.n O H4 hw l.box (by have := l.len; omega) (f4.back kf) fa.b fa.n (fO.back k2) l.L.bn (dr _ (by simp)) (dr _ (by simp)) (kf.trans k4) a4 (k4.get0 i3) (k4.get0 i2) (k4.get0 i4)
theorem cl_plain {f : Addr} {fd : FuncData} (T : Txt K mg aBOXED aGUARDS eWeaveError eTooMany eBadStep eBadBox eAgain eNotHeld eNoTurn eWaits eStuck C) (F : Fun K "plain" "plain" s_plain f fd) (hm : mg "plain" = some (.ref f)) (hb : Binds K fd ["ones", "others", "boxes", "order"] []) (c_walked : Cl P w K mg base 6 "walked" ["ones", "others", "boxes", "order"] (spWalked (ers eTooMany eBadStep eBadBox eAgain eNotHeld eNoTurn eWaits eStuck))) : Cl P w K mg base 7 "plain" ["ones", "others", "boxes", "order"] spPlain := by
  refine Cl.of F hm hb sc_plain (fun vs H Q E h => ?_) (fun cdv A outer s H vs Q E hr h => ?_)
  · obtain ⟨a0, a1, b, o, p0, p1, r0, r1, bs, hs, rfl, _⟩ := h
    rfl
  · obtain ⟨a0, a1, b, o, p0, p1, r0, r1, bs, hs, rfl, R0, R1, hb, ho, so, hw, ke, kq⟩ := h
    refine ⟨_, (pss_one (ps_tryManyG rfl rfl (takes_of rfl rfl rfl rfl) (fun W pn xe tk po => (pss_one (ps_ret (pe_cl c_walked hr (by decide) tk rfl (pa_cons (L2.pv 0) (pa_cons (L2.pv 1) (pa_cons (L2.pv 2) (pa_cons (L2.pv 3) pa_nil)))))))) (HdsOk.cons ⟨rfl, by decide, Or.inl T.g_Waits⟩ (fun a oe cls d pn hz hf => (pss_one (ps_ret pe_non))) HdsOk.nil))), ?_⟩
    walk_at "go"
    refine useWalked R0 R1 hb ho so (fun e H' he kk => ?_) (fun S p l n H' he f1 f2 f3 f4 kk e1 e2 e3 => kq S p l n H' he f1 f2 f3 f4 kk e1 e2 e3)
    have hq := ke e H' he kk
    have z := hw e he
    subst z
    refine vManyY T.m_Waits_Waits fun x fx => ?_
    walk_at "vc"
    exact hq
theorem cl_grown {f : Addr} {fd : FuncData} (T : Txt K mg aBOXED aGUARDS eWeaveError eTooMany eBadStep eBadBox eAgain eNotHeld eNoTurn eWaits eStuck C) (F : Fun K "grown" "grown" s_grown f fd) (hm : mg "grown" = some (.ref f)) (hb : Binds K fd ["ways"] []) (c_goes : Cl P w K mg base 3 "goes" ["loom", "hand"] (spGoes C)) (c_Loom_twin : Mt P w K mg base 6 C "twin" ["self"] (spTwin C)) (c_Loom_go : Mt P w K mg base 3 C "go" ["self", "hand"] (spGo (ers eTooMany eBadStep eBadBox eAgain eNotHeld eNoTurn eWaits eStuck) C)) : Cl P w K mg base 7 "grown" ["ways"] (spGrown C) := by
  refine Cl.of F hm hb sc_grown (fun vs H Q E h => ?_) (fun cdv A outer s H vs Q E hr h => ?_)
  · obtain ⟨a, ts, ws, rfl, _⟩ := h
    rfl
  · obtain ⟨a, ts, ws, rfl, ha, hw, hok, hlen, k⟩ := h
    refine ⟨_, (pss_cons (ps_set (i := 1) sc_grown.nd rfl (by first | exact Or.inl rfl | exact Or.inr rfl) (pe_lst pa_nil))
    (pss_cons (ps_set (i := 2) sc_grown.nd rfl (by first | exact Or.inl rfl | exact Or.inr rfl) (pe_newKn P w rfl rfl))
    (pss_cons (ps_for (passes_of rfl) rfl (pi_list (L2.pv 0)) (pg_tup (n := 2) rfl (pgs_cons (pg_name (i := 3) sc_grown.nd rfl (by first | exact Or.inl rfl | exact Or.inr rfl)) (pgs_cons (pg_name (i := 4) sc_grown.nd rfl (by first | exact Or.inl rfl | exact Or.inr rfl)) pgs_nil))) (pss_one (ps_for (passes_of rfl) rfl (pi_tup (pe_tup (pa_cons pe_int (pa_cons pe_int pa_nil)))) (pg_name (i := 5) sc_grown.nd rfl (by first | exact Or.inl rfl | exact Or.inr rfl)) (pss_one (ps_if (pt_val (pe_cl c_goes hr (by decide) (takes_of rfl rfl rfl rfl) rfl (pa_cons (L2.pv 3) (pa_cons (L2.pv 5) pa_nil)))) (pss_cons (ps_set (i := 6) sc_grown.nd rfl (by first | exact Or.inl rfl | exact Or.inr rfl) (pe_mt0 c_Loom_twin hr (by decide) (takes_of rfl rfl rfl rfl) (L2.pv 3)))
    (pss_cons (ps_expr (pe_mt c_Loom_go hr (by decide) (takes_of rfl rfl rfl rfl) (L2.pv 6) (pa_cons (L2.pv 5) pa_nil)))
    (pss_cons (ps_set (i := 7) sc_grown.nd rfl (by first | exact Or.inl rfl | exact Or.inr rfl) (pe_tup (pa_cons (pe_callTy call_tupG (by rfl) T.n_tuple b_tuple (pa_cons (pe_fld (L2.pv 6) rfl) pa_nil)) (pa_cons (pe_callTy call_tupG (by rfl) T.n_tuple b_tuple (pa_cons (pe_fld (L2.pv 6) rfl) pa_nil)) (pa_cons (pe_callTy call_tupG (by rfl) T.n_tuple b_tuple (pa_cons (pe_fld (L2.pv 6) rfl) pa_nil)) (pa_cons (pe_fld (L2.pv 6) rfl) pa_nil))))))
    (pss_one (ps_if (pt_cmpR (op_notInKn P w rfl rfl (u9 hr.units)) (L2.pv 7) (L2.pv 2) (by rfl)) (pss_cons (ps_asg pe_bl (pg_sub (L2.pv 2) (L2.pv 7) (set_kn P w rfl rfl (u9 hr.units))))
    (pss_one (ps_expr (pe_bm PySem.F.plainAttrs_list PySem.F.slot_list_append PySem.F.type_list_append mt_append (L2.pv 1) (pa_cons (pe_tup (pa_cons (L2.pv 6) (pa_cons (pe_op op_cat (L2.pv 4) (pe_lst (pa_cons (L2.pv 5) pa_nil))) pa_nil))) pa_nil))))) pss_nil))))) pss_nil)))))
    (pss_one (ps_ret (L2.pv 1)))))), ?_⟩
    walk_at "go"
    rename_i F H1 fF k1 aF
    refine vNewKn fun D H2 fD k2 aD => ?_
    have fD0 : Fre H D := by walk_at "fresh"
    have hw2 : WaysAt C H2 [] ts ws := (hw.keep k1 fun _ h => by cases h).keep k2 fun _ h => by cases h
    have ha2 : H2 a = some (.lst (ts.map V.ref)) := by walk_at "hp"
    have G0 : Grows P w C H H2 F D [] [] := ⟨k1.trans k2, k2.get0 aF, .nil, [], aD, .nil, rfl⟩
    have tn : (ts.map V.ref).length = ws.length := by rw [List.length_map, hw.n]
    walk_at "vc"
    refine vrForL (SqL.of ha2) (fun i σ' H' => ∃ (ts' : List Addr) (v3 v4 v5 v6 v7 : Option V), σ' = [some (.ref a), some (.ref F), some (.ref D), v3, v4, v5, v6, v7] ∧ Grows P w C H H' F D ts' (growF (ws.take i)) ∧ ts'.length ≤ 2 * i) ?_ ?_ ?_ ?_
    · exact ⟨[], none, none, none, none, none, rfl, G0, Nat.zero_le _⟩
    · rintro i σ' H' _ ⟨ts', v3, v4, v5, v6, v7, rfl, g, _⟩
      exact SqL.of (g.k.get0 ha)
    · rintro i x σ' H' hx ⟨ts', v3, v4, v5, v6, v7, rfl, g, hl⟩
      have hi := (List.getElem?_eq_some_iff.mp hx).1
      rw [tn] at hi
      rw [List.getElem?_map, List.getElem?_eq_getElem (by rw [hw.n]; exact hi)] at hx
      cases hx
      obtain ⟨A, l, et, L, el, _, _⟩ := hw.e i _ _ (List.getElem?_eq_getElem (by rw [hw.n]; exact hi)) (List.getElem?_eq_getElem hi)
      have et' := g.k.get0 et
      refine vGTup (SqT.of et') rfl (vGCons ?_)
      walk_at "vc"
      refine vGCons ?_
      walk_at "vc"
      refine vGNil ?_
      walk_at "vc"
      rename_i pz Hz fz kz az
      have wok := hok _ (List.getElem_mem hi)
      obtain ⟨so, sb, sl, sg⟩ := wok
      have gz := g.keep0 kz
      generalize eG : growF (ws.take i) = G at g gz
      have eN : growF (ws.take (i + 1)) = (candW ws[i] true).foldl addW ((candW ws[i] false).foldl addW G) := by
        rw [← eG, ← growF_snoc, List.take_succ_eq_append_getElem hi]
      refine vrForT (SqT.of az) (fun j σ' H' => ∃ (ts' : List Addr) (v5 v6 v7 : Option V), σ' = [some (.ref a), some (.ref F), some (.ref D), some (.ref A.p), some (.ref l), v5, v6, v7] ∧ Grows P w C H H' F D ts' (accJ ws[i] G j) ∧ ts'.length ≤ 2 * i + j ∧ H' pz = some (.tup [.int 0, .int 1])) ?_ ?_ ?_ ?_
      · exact ⟨ts', _, _, _, rfl, gz, by omega, az⟩
      · rintro j σ' H' _ ⟨ts', v5, v6, v7, rfl, g, _, ez⟩
        exact SqT.of ez
      · rintro j x σ' H' hx ⟨ts', v5, v6, v7, rfl, g, hl, ez⟩
        have hj : j < 2 := by simpa using (List.getElem?_eq_some_iff.mp hx).1
        obtain ⟨h, rfl, hacc⟩ := accJ_step hx ws[i] G
        rw [hacc]
        have LH := L.keep0 g.k
        walk_at "vc"
        refine useGoes LH so ?_
        walk_at "vc"
        refine vIte (fun hg => ?_) (fun hg => ?_)
        · obtain ⟨sx, hsx, _⟩ := goes_next so hg
          have hce : candW ws[i] h = [(ws[i].1.eff h sx, ws[i].2 ++ [h])] := by unfold candW; rw [if_pos hg, hsx]
          have er0 := sg h hg
          have hLi := LH.ins
          walk_at "vc"
          refine useTwin LH so fun T H1 f1 f2 f3 f4 f5 f6 _ k1 L1 => ?_
          have fT : ∀ x ∈ T.all, Fre H' x := all7.mpr ⟨f1, f2, f3 false, f3 true, f4, f5, f6⟩
          have hL1 := L1.ins
          walk_at "vc"
          refine useGo L1 so (fun e he => absurd (er0.symm.trans he) (by intro z; cases z)) (fun s' H2 _ hs2 k2 L2 => ?_)
          have es : sx = s' := Option.some.inj (hsx.symm.trans hs2)
          subst es
          have kk : Kp [] H' H2 := k1.step k2 fun x hx => .inr (fT x (LA.fp_sub hx))
          have g2 := g.keep0 kk
          have nT : ∀ x ∈ T.all, x ∉ [F, D] := fun x hx z => by
            obtain ⟨xs, e, _⟩ := g.d
            simp only [List.mem_cons, List.not_mem_nil, or_false] at z
            rcases z with z | z
            · exact Lives.ne (H := H') ⟨_, g.f⟩ (fT x hx) z.symm
            · exact Lives.ne (H := H') ⟨_, e⟩ (fT x hx) z.symm
          have ez2 := kk.get0 ez
          have el2 := g2.k.get0 el
          clear kk k1 k2
          have hL2 := L2.ins
          have q1 := L2.pls
          have q2 := L2.num
          have q3 := L2.box
          walk_at "vc"
          rename_i u1 J1 fu1 ku1 au1 u2 J2 fu2 ku2 au2 u3 J3 fu3 ku3 au3 u4 J4 fu4 ku4 au4
          have g4 := g2.keep0 (((ku1.trans ku2).trans ku3).trans ku4)
          have L4 := L2.keep0 (((ku1.trans ku2).trans ku3).trans ku4)
          have nk := nk_stand (S := ws[i].1.eff h sx) au4 (ku4.get0 (ku3.get0 (ku2.get0 au1))) (ku4.get0 (ku3.get0 au2)) (ku4.get0 au3)
          have ez4 := ku4.get0 (ku3.get0 (ku2.get0 (ku1.get0 ez2)))
          have el4 := g4.k.get0 el
          have f4 := g4.f
          have nlF : l ≠ F := ne_fr fF el
          have nlD : l ≠ D := ne_fr fD0 el
          clear ku1 ku2 ku3 ku4
          obtain ⟨xs, e, ek, ex⟩ := id g4.d
          have hacl : xs.length = ts'.length := by
            have := congrArg List.length ex
            rw [List.length_map, List.length_map, ← g4.w.n] at this
            exact this
          have hbig : ts'.length < 500000 := by omega
          refine vNotInKn e ek nk (keyS_depth _) ?_
          walk_at "vc"
          refine vIteNB (fun hb => ?_) (fun hb => ?_)
          · have hn : atKey xs (keyS (ws[i].1.eff h sx)) = none := by
              cases hq : atKey xs (keyS (ws[i].1.eff h sx)) with
              | none => rfl
              | some q => rw [hq] at hb; cases hb
            walk_at "vc"
            refine vSetKn e ek nk (keyS_depth _) (len_ways (by omega)) hn fun J5 k5 e5 => ?_
            have el5 : J5 l = some (.lst (hs2V ws[i].2)) := k5.get el4 (by simpa using nlD)
            have hFD : F ≠ D := fun z => by
              rw [z, e] at f4
              cases f4
            have f5 : J5 F = some (.lst (ts'.map V.ref)) := k5.get f4 (by simpa using hFD)
            have hz1 : (ts'.map V.ref).length < sizeLine := len_ways (by rw [List.length_map]; omega)
            have hz2 : (hs2V ws[i].2).length + [V.int (hI h)].length ≤ sizeLine := Nat.le_of_lt (len_ways (by rw [hs2V_len, List.length_singleton]; omega))
            walk_at "vc"
            rename_i m1 M1 fm1 km1 am1 l2 M2 fl2 kl2 al2 t5 M3 ft5 kt5 at5 M4 kM4 aM4
            have ez5 : M4 pz = some (.tup [.int 0, .int 1]) := kM4.getT (kt5.get0 (kl2.get0 (km1.get0 (k5.getT ez4))))
            have hnm : ¬ keyS (ws[i].1.eff h sx) ∈ (accJ ws[i] G j).map (fun x => keyS x.1) := by
              rw [← ex]
              exact atKey_none.mp hn
            have ha : (candW ws[i] h).foldl addW (accJ ws[i] G j) = accJ ws[i] G j ++ [(ws[i].1.eff h sx, ws[i].2 ++ [h])] := by
              rw [hce]
              show addW _ _ = _
              unfold addW
              rw [if_neg hnm]
            rw [ha]
            refine ⟨ts' ++ [t5], _, _, _, rfl, ?_, by simp; omega, ez5⟩
            exact Grows.put (w := (ws[i].1.eff h sx, ws[i].2 ++ [h])) g4 fF fD0 e ek ex nk k5 e5 L4 nT (fl2.back km1) ((km1.trans kl2).trans kt5) (by rw [← hs2V_snoc]; exact kt5.get0 al2) at5 kM4 aM4
          · have hn : keyS (ws[i].1.eff h sx) ∈ (accJ ws[i] G j).map (fun x => keyS x.1) := by
              rw [← ex]
              exact atKey_iff.mp hb
            have ha : (candW ws[i] h).foldl addW (accJ ws[i] G j) = accJ ws[i] G j := by
              rw [hce]
              show addW _ _ = _
              unfold addW
              rw [if_pos hn]
            rw [ha]
            walk_at "vc"
            exact ⟨ts', _, _, _, rfl, g4, by omega, ez4⟩
        · have hce : candW ws[i] h = [] := by unfold candW; rw [if_neg (by rw [hg]; exact Bool.false_ne_true)]
          rw [hce]
          walk_at "vc"
          exact ⟨ts', _, _, _, rfl, g, by omega, ez⟩
      · rintro σ' H' ⟨ts', v5, v6, v7, rfl, g, hl, ez⟩
        exact ⟨ts', _, _, _, _, _, rfl, by rw [eN]; exact g, by simp at hl; omega⟩
    · rintro σ' H' ⟨ts', v3, v4, v5, v6, v7, rfl, g, hl⟩
      walk_at "vc"
      have hg := g.w
      rw [tn, List.take_length] at hg
      exact k F ts' H' fF g.k g.f (hg.sub fun _ h => by cases h)
theorem cl_strange {f : Addr} {fd : FuncData} (T : Txt K mg aBOXED aGUARDS eWeaveError eTooMany eBadStep eBadBox eAgain eNotHeld eNoTurn eWaits eStuck C) (F : Fun K "strange" "strange" s_strange f fd) (hm : mg "strange" = some (.ref f)) (hb : Binds K fd ["ones", "others", "boxes"] []) (c_alone : Cl P w K mg base 6 "alone" ["row", "boxes"] (spAlone (ers eTooMany eBadStep eBadBox eAgain eNotHeld eNoTurn eWaits eStuck))) (c_plain : Cl P w K mg base 7 "plain" ["ones", "others", "boxes", "order"] spPlain) (c_grown : Cl P w K mg base 7 "grown" ["ways"] (spGrown C)) (c_Loom : Mr P w K mg base 4 "Loom" C ["self", "ones", "others", "boxes"] (spInit (ers eTooMany eBadStep eBadBox eAgain eNotHeld eNoTurn eWaits eStuck) C)) : Cl P w K mg base 8 "strange" ["ones", "others", "boxes"] (spStrange (ers eTooMany eBadStep eBadBox eAgain eNotHeld eNoTurn eWaits eStuck)) := by
  refine Cl.of F hm hb sc_strange (fun vs H Q E h => ?_) (fun cdv A outer s H vs Q E hr h => ?_)
  · obtain ⟨a0, a1, b, x0, x1, c0, c1, bs, rfl, _⟩ := h
    rfl
  · obtain ⟨a0, a1, b, x0, x1, c0, c1, bs, rfl, h0, h1, t0, t1, hb, hbl, ke, k⟩ := h
    refine ⟨_, (pss_cons (ps_set (i := 3) sc_strange.nd rfl (by first | exact Or.inl rfl | exact Or.inr rfl) (pe_lst (pa_cons (pe_tup (pa_cons (pe_mr c_Loom hr (by decide) (takes_of rfl rfl rfl rfl) rfl (pa_cons (L2.pv 0) (pa_cons (L2.pv 1) (pa_cons (L2.pv 2) pa_nil)))) (pa_cons (pe_lst pa_nil) pa_nil))) pa_nil)))
    (pss_cut (ps_if (PW.pt (pw_or (pt_cmpR op_gt (pe_callB call_lenG (by rfl) T.n_len b_len (pa_cons (L2.pv 0) pa_nil)) (pe_gint rfl T.g_MOST_SEARCHED) (nomark _)) (pw_or1 (pt_cmpR op_gt (pe_callB call_lenG (by rfl) T.n_len b_len (pa_cons (L2.pv 1) pa_nil)) (pe_gint rfl T.g_MOST_SEARCHED) (nomark _))))) (pss_one (ps_raiseG rfl (takes_of rfl rfl rfl rfl) T.x_TooMany T.g_TooMany T.k_TooMany T.b_TooMany T.t_TooMany rfl)) pss_nil)
    (pss_cons (ps_expr (pe_cl c_alone hr (by decide) (takes_of rfl rfl rfl rfl) rfl (pa_cons (L2.pv 0) (pa_cons (L2.pv 2) pa_nil))))
    (pss_cons (ps_expr (pe_cl c_alone hr (by decide) (takes_of rfl rfl rfl rfl) rfl (pa_cons (L2.pv 1) (pa_cons (L2.pv 2) pa_nil))))
    (pss_cons (ps_set (i := 4) sc_strange.nd rfl (by first | exact Or.inl rfl | exact Or.inr rfl) (pe_op op_rep (pe_lst (pa_cons pe_int pa_nil)) (pe_callB call_lenG (by rfl) T.n_len b_len (pa_cons (L2.pv 0) pa_nil))))
    (pss_cut (ps_set (i := 5) sc_strange.nd rfl (by first | exact Or.inl rfl | exact Or.inr rfl) (pe_op op_rep (pe_lst (pa_cons pe_int pa_nil)) (pe_callB call_lenG (by rfl) T.n_len b_len (pa_cons (L2.pv 1) pa_nil))))
    (pss_cut (ps_set (i := 6) sc_strange.nd rfl (by first | exact Or.inl rfl | exact Or.inr rfl) (pe_lst (pa_cons (pe_cl c_plain hr (by decide) (takes_of rfl rfl rfl rfl) rfl (pa_cons (L2.pv 0) (pa_cons (L2.pv 1) (pa_cons (L2.pv 2) (pa_cons (pe_op op_cat (L2.pv 4) (L2.pv 5)) pa_nil))))) (pa_cons (pe_cl c_plain hr (by decide) (takes_of rfl rfl rfl rfl) rfl (pa_cons (L2.pv 0) (pa_cons (L2.pv 1) (pa_cons (L2.pv 2) (pa_cons (pe_op op_cat (L2.pv 5) (L2.pv 4)) pa_nil))))) pa_nil))))
    (pss_cut (ps_for (passes_of rfl) rfl (pi_list (pe_op op_cat (L2.pv 4) (L2.pv 5))) (pg_name (i := 7) sc_strange.nd rfl (by first | exact Or.inl rfl | exact Or.inr rfl)) (pss_one (ps_set (i := 3) sc_strange.nd rfl (by first | exact Or.inl rfl | exact Or.inr rfl) (pe_cl c_grown hr (by decide) (takes_of rfl rfl rfl rfl) rfl (pa_cons (L2.pv 3) pa_nil)))))
    (pss_cons (ps_for (passes_of rfl) rfl (pi_list (L2.pv 3)) (pg_tup (n := 2) rfl (pgs_cons (pg_name (i := 8) sc_strange.nd rfl (by first | exact Or.inl rfl | exact Or.inr rfl)) (pgs_cons (pg_name (i := 9) sc_strange.nd rfl (by first | exact Or.inl rfl | exact Or.inr rfl)) pgs_nil))) (pss_one (ps_if (pt_cmpR (op_notInDK K rfl (u65 hr)) (pe_tup (pa_cons (pe_fld (L2.pv 8) rfl) (pa_cons (pe_fld (L2.pv 8) rfl) pa_nil))) (L2.pv 6) (by rfl)) (pss_one (ps_ret (L2.pv 9))) pss_nil)))
    (pss_one (ps_ret pe_non))))))))))), ?_⟩
    walk_at "go"
    refine useLoom h0 h1 t0 t1 hb (fun e H2 he k2 => ke e H2 he k2) ?_
    intro A r0 r1 H2 hn ec0 ec1 ep0 ep1 so fa far faw k2 L
    obtain ⟨kT, kS⟩ := k hn r0 r1 ec0 ec1 so
    have X0 : RowAt H2 a0 (A.ps false) r0 := (L.row false).copy (Kp.refl (W := [])) (by rw [ep0]; exact k2.get0 h0)
    have X1 : RowAt H2 a1 (A.ps true) r1 := (L.row true).copy (Kp.refl (W := [])) (by rw [ep1]; exact k2.get0 h1)
    have hb2 := k2.get0 hb
    have hLi := L.ins
    walk_at "vc"
    rename_i Y0 HY fY kY aY P0 HP fP kP aP W0 HW fW kW aW
    have G0 : Stg C H HW a0 a1 b (A.ps false) (A.ps true) r0 r1 bs W0 [P0] [(LS.start (two r0 r1) bs, [])] :=
      ⟨((k2.trans kY).trans kP).trans kW, ((X0.keep kY nin_nil).keep kP nin_nil).keep kW nin_nil, ((X1.keep kY nin_nil).keep kP nin_nil).keep kW nin_nil, kW.get0 (kP.get0 (kY.get0 hb2)), aW,
        WaysAt.nil.push ⟨A, Y0, kW.get0 aP, ((L.keep0 kY).keep0 kP).keep0 kW, kW.get0 (kP.get0 aY), nin_nil, fun _ _ => nin_nil⟩⟩
    refine vCut (fun σ' H' => σ' = [some (.ref a0), some (.ref a1), some (.ref b), some (.ref W0), none, none, none, none, none, none] ∧ Stg C H H' a0 a1 b (A.ps false) (A.ps true) r0 r1 bs W0 [P0] [(LS.start (two r0 r1) bs, [])] ∧ r0.length ≤ 5 ∧ r1.length ≤ 5) ?_ ?_
    · have n0 : (((A.ps false).map V.ref).length : Int) = (r0.length : Int) := by rw [List.length_map, X0.n]
      have n1 : (((A.ps true).map V.ref).length : Int) = (r1.length : Int) := by rw [List.length_map, X1.n]
      have x0l := G0.x0.l
      have x1l := G0.x1.l
      walk_at "vb"
      · exact kT (.inl (by omega)) _ G0.k
      · exact kT (.inr (by omega)) _ G0.k
      · exact ⟨rfl, G0, by omega, by omega⟩
    clear kW kP kY k2 fW fP fY aW aP aY hLi X0 X1 hb2 G0
    rintro σ' H' ⟨rfl, G1, l0, l1⟩
    obtain ⟨kA0, kA1, kR⟩ := kS l0 l1
    walk_at "vc"
    refine useAlone G1.x0 G1.hb (by omega) (so.box false) (fun e H3 he k3 => kA0 e H3 he (G1.k.trans k3)) fun T0 q0 m0 H3 e0 _ _ k3 _ _ => ?_
    have G3 := G1.keep0 k3
    clear k3
    have al0 := alone_alt e0
    walk_at "vc"
    refine useAlone G3.x1 G3.hb (by omega) (so.box true) (fun e H4 he k4 => kA1 _ e H4 e0 he (G3.k.trans k4)) fun T1 q1 m1 H4 e1 _ _ k4 _ _ => ?_
    have G4 := G3.keep0 k4
    clear k4
    have al1 := alone_alt e1
    obtain ⟨kO, kN⟩ := kR _ _ e0 e1
    have x0l := G4.x0.l
    have x1l := G4.x1.l
    have z0 : ((A.ps false).map V.ref).length = r0.length := by rw [List.length_map, G4.x0.n]
    have z1 : ((A.ps true).map V.ref).length = r1.length := by rw [List.length_map, G4.x1.n]
    walk_at "vc"
    rename_i y1 J1 fy1 ky1 ay1
    rw [z0]
    refine vRep ay1 (by omega) fun u1 J2 fu1 ku1 au1 => ?_
    have x1l2 := ku1.get0 (ky1.get0 x1l)
    walk_at "vc"
    refine vCut (fun σ' H' => ∃ u2, σ' = [some (.ref a0), some (.ref a1), some (.ref b), some (.ref W0), some (.ref u1), some (.ref u2), none, none, none, none] ∧ Stg C H H' a0 a1 b (A.ps false) (A.ps true) r0 r1 bs W0 [P0] [(LS.start (two r0 r1) bs, [])] ∧ H' u1 = some (.lst (hs2V (List.replicate r0.length false))) ∧ H' u2 = some (.lst (hs2V (List.replicate r1.length true)))) ?_ ?_
    · walk_at "vc"
      rename_i y2 J3 fy2 ky2 ay2
      rw [z1]
      refine vRep ay2 (by omega) fun u2 J4 fu2 ku2 au2 => ?_
      have G5 := (((G4.keep0 ky1).keep0 ku1).keep0 ky2).keep0 ku2
      have au1' : J4 u1 = some (.lst (hs2V (List.replicate r0.length false))) := by rw [hs2V_rep]; exact ku2.get0 (ky2.get0 au1)
      have au2' : J4 u2 = some (.lst (hs2V (List.replicate r1.length true))) := by rw [hs2V_rep]; exact au2
      walk_at "vc"
      exact ⟨u2, rfl, G5, au1', au2'⟩
    rintro σ' H' ⟨u2, rfl, G6, hu1, hu2⟩
    clear G4 x0l x1l x1l2 ky1 ku1 fy1 fu1 ay1 au1
    have zA : (hs2V (List.replicate r0.length false)).length + (hs2V (List.replicate r1.length true)).length ≤ sizeLine := len_le (by rw [hs2V_len, hs2V_len, List.length_replicate, List.length_replicate]; omega)
    have zB : (hs2V (List.replicate r1.length true)).length + (hs2V (List.replicate r0.length false)).length ≤ sizeLine := len_le (by rw [hs2V_len, hs2V_len, List.length_replicate, List.length_replicate]; omega)
    refine vCut (fun σ' H' => ∃ D v1 v2, σ' = [some (.ref a0), some (.ref a1), some (.ref b), some (.ref W0), some (.ref u1), some (.ref u2), some (.ref D), none, none, none] ∧ Stg C H H' a0 a1 b (A.ps false) (A.ps true) r0 r1 bs W0 [P0] [(LS.start (two r0 r1) bs, [])] ∧ H' u1 = some (.lst (hs2V (List.replicate r0.length false))) ∧ H' u2 = some (.lst (hs2V (List.replicate r1.length true))) ∧
      H' D = some (.lst [v1, v2]) ∧ TellAt H' v1 (tells (LS.start (two r0 r1) bs) (plainA r0 r1)) ∧ TellAt H' v2 (tells (LS.start (two r0 r1) bs) (plainB r0 r1))) ?_ ?_
    · walk_at "vc"
      rename_i o1 M1 fo1 ko1 ao1
      rw [hs2V_app] at ao1
      have G7 := G6.keep0 ko1
      refine usePlain G7.x0 G7.x1 G7.hb ao1 so (fun e he => plainA_waits al0 al1 he) fun v1 M2 kv1 tv1 => ?_
      have hu1b := kv1.get0 (ko1.get0 hu1)
      have hu2b := kv1.get0 (ko1.get0 hu2)
      have G8 := G7.keep0 kv1
      clear ko1 kv1
      walk_at "vc"
      rename_i o2 M3 fo2 ko2 ao2
      rw [hs2V_app] at ao2
      have G9 := G8.keep0 ko2
      refine usePlain G9.x0 G9.x1 G9.hb ao2 so (fun e he => plainB_waits al0 al1 he) fun v2 M4 kv2 tv2 => ?_
      have G10 := G9.keep0 kv2
      have tv1b := (tv1.keep0 ko2).keep0 kv2
      have hu1c := kv2.get0 (ko2.get0 hu1b)
      have hu2c := kv2.get0 (ko2.get0 hu2b)
      clear ko2 kv2
      walk_at "vc"
      rename_i D M5 fD kD aD
      exact ⟨D, v1, v2, rfl, G10.keep0 kD, kD.get0 hu1c, kD.get0 hu2c, aD, tv1b.keep0 kD, tv2.keep0 kD⟩
    rintro σ' H' ⟨D, v1, v2, rfl, G12, hu1, hu2, hD, tv1, tv2⟩
    clear G6
    refine vCut (fun σ' H' => ∃ (W : Addr) (ts : List Addr) (ws : List Way) (v7 : Option V), σ' = [some (.ref a0), some (.ref a1), some (.ref b), some (.ref W), some (.ref u1), some (.ref u2), some (.ref D), v7, none, none] ∧ Stg C H H' a0 a1 b (A.ps false) (A.ps true) r0 r1 bs W ts ws ∧ AllWays (LS.start (two r0 r1) bs) (r0.length + r1.length) ws ∧
      H' D = some (.lst [v1, v2]) ∧ TellAt H' v1 (tells (LS.start (two r0 r1) bs) (plainA r0 r1)) ∧ TellAt H' v2 (tells (LS.start (two r0 r1) bs) (plainB r0 r1))) ?_ ?_
    · walk_at "vc"
      rename_i o3 N1 fo3 ko3 ao3
      rw [hs2V_app] at ao3
      have hO : (hs2V (List.replicate r0.length false ++ List.replicate r1.length true)).length = r0.length + r1.length := by rw [hs2V_len, List.length_append, List.length_replicate, List.length_replicate]
      refine vrForL (SqL.of ao3) (fun i σ' H' => ∃ (W : Addr) (ts : List Addr) (ws : List Way) (v7 : Option V), σ' = [some (.ref a0), some (.ref a1), some (.ref b), some (.ref W), some (.ref u1), some (.ref u2), some (.ref D), v7, none, none] ∧ Stg C H H' a0 a1 b (A.ps false) (A.ps true) r0 r1 bs W ts ws ∧ AllWays (LS.start (two r0 r1) bs) i ws ∧ ws.length ≤ 2 ^ i ∧ Kp [] N1 H') ?_ ?_ ?_ ?_
      · exact ⟨W0, _, _, _, rfl, G12.keep0 ko3, AllWays.start _, Nat.le_refl _, Kp.refl⟩
      · rintro i σ' H' _ ⟨W, ts, ws, v7, rfl, g, aw, lw, kn⟩
        exact SqL.of (kn.get0 ao3)
      · rintro i x σ' H' hx ⟨W, ts, ws, v7, rfl, g, aw, lw, kn⟩
        have hi := (List.getElem?_eq_some_iff.mp hx).1
        rw [hO] at hi
        have wk := aw.wok so (Alt.start al0 al1) hbl (by omega)
        walk_at "vc"
        refine useGrown g.hw g.ww wk (two_pow10 lw (by omega)) fun W2 ts2 H2 fW2 k2 eW2 wW2 => ?_
        walk_at "vc"
        exact ⟨W2, ts2, _, _, rfl, ⟨g.k.trans k2, g.x0.keep k2 nin_nil, g.x1.keep k2 nin_nil, k2.get0 g.hb, eW2, wW2⟩, aw.step so fun w hw => (wk w hw).2.2.2, by
          have := growF_len ws
          rw [Nat.pow_succ]; omega, kn.trans k2⟩
      · rintro σ' H' ⟨W, ts, ws, v7, rfl, g, aw, lw, kn⟩
        rw [hO] at aw
        have kk := ko3.trans kn
        exact ⟨W, ts, ws, v7, rfl, g, aw, kk.get0 hD, tv1.keep0 kk, tv2.keep0 kk⟩
    clear G12 hD tv1 tv2 hu1 hu2
    rintro σ' H' ⟨W, ts, ws, v7, rfl, g, aw, hD, tv1, tv2⟩
    have gw := g.hw
    have tn : (ts.map V.ref).length = ws.length := by rw [List.length_map, g.ww.n]
    walk_at "vc"
    refine vrForL (SqL.of gw) (fun i σ' H2 => ∃ (v8 v9 : Option V), σ' = [some (.ref a0), some (.ref a1), some (.ref b), some (.ref W), some (.ref u1), some (.ref u2), some (.ref D), v7, v8, v9] ∧ Kp [] H' H2 ∧ ∀ w ∈ ws.take i, ¬ odd r0 r1 bs w.1) ?_ ?_ ?_ ?_
    · exact ⟨_, _, rfl, Kp.refl, fun w h => by simp at h⟩
    · rintro i σ' H2 _ ⟨v8, v9, rfl, k2, _⟩
      exact SqL.of (k2.get0 gw)
    · rintro i x σ' H2 hx ⟨v8, v9, rfl, k2, no⟩
      have hi := (List.getElem?_eq_some_iff.mp hx).1
      rw [tn] at hi
      rw [List.getElem?_map, List.getElem?_eq_getElem (by rw [g.ww.n]; exact hi)] at hx
      cases hx
      obtain ⟨B, l, et, LB, el, _, _⟩ := g.ww.e i _ _ (List.getElem?_eq_getElem (by rw [g.ww.n]; exact hi)) (List.getElem?_eq_getElem hi)
      have et' := k2.get0 et
      have LB2 := LB.keep0 k2
      have el2 := k2.get0 el
      have hD2 := k2.get0 hD
      refine vGTup (SqT.of et') rfl (vGCons ?_)
      walk_at "vc"
      refine vGCons ?_
      walk_at "vc"
      refine vGNil ?_
      have hLi := LB2.ins
      have q2 := LB2.num
      have q3 := LB2.box
      walk_at "vc"
      rename_i pz Hz fz kz az
      have tz : TellAt Hz (.ref pz) (some (ws[i].1.boxes, ws[i].1.num)) := ⟨pz, _, _, rfl, az, kz.get0 q3, kz.get0 q2⟩
      have t1 := (tv1.keep0 k2).keep0 kz
      have t2 := (tv2.keep0 k2).keep0 kz
      refine vNotInD (ds := [_, _]) tz.dp (.lst (SqL.of (kz.get0 hD2)) (.cons t1.dp (.cons t2.dp .nil))) (tell_shaped _) (tells_shaped _ _) ?_
      walk_at "vc"
      obtain ⟨hr, hl⟩ := aw.s _ (List.getElem_mem hi)
      refine vIteNB (fun hb => ?_) (fun hb => ?_)
      · walk_at "vc"
        exact kO _ _ _ _ hl hr (odd_any.mp hb) ((g.k.trans k2).trans kz) (kz.get0 el2)
      · walk_at "vc"
        refine ⟨_, _, rfl, k2.trans kz, fun w hw => ?_⟩
        rw [List.take_succ_eq_append_getElem hi] at hw
        rcases List.mem_append.mp hw with hw | hw
        · exact no w hw
        · simp only [List.mem_singleton] at hw
          subst hw
          intro ho
          rw [odd_any.mpr ho] at hb
          cases hb
    · rintro σ' H2 ⟨v8, v9, rfl, k2, no⟩
      rw [tn, List.take_length] at no
      walk_at "vc"
      refine kN _ (fun hs S hl hr ho => ?_) (g.k.trans k2)
      obtain ⟨w, hw, ew⟩ := aw.c hs S hl hr
      exact no w hw (by rw [ew]; exact ho)
theorem cl_l_cell_at {f : Addr} {fd : FuncData} (T : Txt K mg aBOXED aGUARDS eWeaveError eTooMany eBadStep eBadBox eAgain eNotHeld eNoTurn eWaits eStuck C) (F : Fun K "_law_cell_at" "_law_cell_at" s_l_cell_at f fd) (hm : mg "_law_cell_at" = some (.ref f)) (hb : Binds K fd ["_law_script", "_law_k"] [])  : Cl P w K mg base 1 "_law_cell_at" ["_law_script", "_law_k"] (spCell K) := by
  refine Cl.of F hm hb sc_l_cell_at (fun vs H Q E h => ?_) (fun cdv A outer s H vs Q E hr h => ?_)
  · obtain ⟨a, ns, i, rfl, _⟩ := h
    rfl
  · obtain ⟨a, ns, i, rfl, hS, hi, k⟩ := h
    refine ⟨_, (pss_cons (ps_if (pt_cmpR op_lt (L2.pv 1) (pe_callB call_lenG (by rfl) T.n_len b_len (pa_cons (L2.pv 0) pa_nil)) (nomark _)) (pss_one (ps_ret (pe_ix ix_list (L2.pv 0) (L2.pv 1) (fun _ _ => rfl)))) pss_nil)
    (pss_one (ps_ret pe_int))), ?_⟩
    obtain ⟨j, rfl⟩ : ∃ j : Nat, i = j := ⟨i.toNat, by omega⟩
    walk_at "gob"
    · rename_i hj
      rw [List.length_map] at hj
      refine vIxL (v := .int (cellI ns j)) hS (at_of rfl ?_) k
      unfold cellI
      rw [List.getElem?_map, List.getD_eq_getElem?_getD, Int.toNat_natCast, List.getElem?_eq_getElem (by omega)]
      rfl
    · rename_i hj
      rw [List.length_map] at hj
      unfold cellI at k
      rw [List.getD_eq_getElem?_getD, Int.toNat_natCast, List.getElem?_eq_none (by omega)] at k
      exact k
theorem cl_l_put {f : Addr} {fd : FuncData} (T : Txt K mg aBOXED aGUARDS eWeaveError eTooMany eBadStep eBadBox eAgain eNotHeld eNoTurn eWaits eStuck C) (F : Fun K "_law_put" "_law_put" s_l_put f fd) (hm : mg "_law_put" = some (.ref f)) (hb : Binds K fd ["_law_row", "_law_at", "_law_thing"] [])  : Cl P w K mg base 1 "_law_put" ["_law_row", "_law_at", "_law_thing"] spPut4 := by
  refine Cl.of F hm hb sc_l_put (fun vs H Q E h => ?_) (fun cdv A outer s H vs Q E hr h => ?_)
  · obtain ⟨a, j, v, xs, rfl, _⟩ := h
    rfl
  · obtain ⟨a, j, v, xs, rfl, ha, hl, k⟩ := h
    refine ⟨_, (pss_one (ps_ret (pe_op op_cat (pe_op op_cat (pe_slice sl_list (L2.pv 0) po_none (po_some (L2.pv 1))) (pe_lst (pa_cons (L2.pv 2) pa_nil))) (pe_slice sl_list (L2.pv 0) (po_some (pe_op op_add (L2.pv 1) pe_int)) po_none)))), ?_⟩
    walk_at "go"
    rename_i y1 H1 f1 k1 a1 y2 H2 f2 k2 a2
    rw [cutV_loG] at a1
    have z1 : (xs.take j).length + [v].length ≤ sizeLine := len_le (by rw [List.length_take, List.length_singleton]; omega)
    walk_at "vc"
    rename_i y3 H3 f3 k3 a3 y4 H4 f4 k4 a4
    rw [show (j : Int) + 1 = ((j + 1 : Nat) : Int) by omega, cutV_hiG] at a4
    have z2 : (xs.take j ++ [v]).length + (xs.drop (j + 1)).length ≤ sizeLine := len_le (by rw [List.length_append, List.length_take, List.length_drop, List.length_singleton]; omega)
    walk_at "vc"
    rename_i y5 H5 f5 k5 a5
    exact k y5 H5 (by walk_at "fresh") ((((k1.trans k2).trans k3).trans k4).trans k5) a5
theorem cl_l_row_by {f : Addr} {fd : FuncData} (T : Txt K mg aBOXED aGUARDS eWeaveError eTooMany eBadStep eBadBox eAgain eNotHeld eNoTurn eWaits eStuck C) (F : Fun K "_law_row_by" "_law_row_by" s_l_row_by f fd) (hm : mg "_law_row_by" = some (.ref f)) (hb : Binds K fd ["_law_cell", "_law_many"] []) (c_l_put : Cl P w K mg base 1 "_law_put" ["_law_row", "_law_at", "_law_thing"] spPut4) : Cl P w K mg base 2 "_law_row_by" ["_law_cell", "_law_many"] spRow4 := by
  refine Cl.of F hm hb sc_l_row_by (fun vs H Q E h => ?_) (fun cdv A outer s H vs Q E hr h => ?_)
  · obtain ⟨c, m, rfl, _⟩ := h
    rfl
  · obtain ⟨c, m, rfl, hm, k⟩ := h
    refine ⟨_, (pss_cons (ps_set (i := 2) sc_l_row_by.nd rfl (by first | exact Or.inl rfl | exact Or.inr rfl) (pe_op op_mod (L2.pv 0) pe_int))
    (pss_cut (ps_if (pt_cmpR op_eq (pe_op op_mod (pe_op op_fdiv (L2.pv 0) pe_int) pe_int) pe_int (nomark _)) (pss_one (ps_set (i := 2) sc_l_row_by.nd rfl (by first | exact Or.inl rfl | exact Or.inr rfl) (pe_op op_add pe_int (pe_op op_mod (pe_op op_fdiv (L2.pv 0) pe_int) pe_int)))) pss_nil)
    (pss_cons (ps_setLc (i := 3) (own := [("_law_k", 4)]) (g := gName 4) rfl sc_l_row_by.nd rfl rfl (sw_true rfl rfl rfl (by decide +kernel)) (pi_range1 rfl T.n_range (pa_cons (L2.pv 2) pa_nil)) (blkOk_by (own := [("_law_k", 4)]) (N := ["_law_cell", "_law_many", "_law_size", "_law_row", "_law_k"]) (sc := defScope s_l_row_by) (by decide +kernel)) (fun _ _ _ _ _ => pg_name (i := 4) sc_l_row_by.nd rfl (Or.inl rfl)) (fun _ _ _ _ _ => pts_nil) (fun _ _ _ _ _ => (pe_tup (pa_cons pe_str (pa_cons (pe_op op_add (pe_op op_mod (pe_op op_fdiv (L2.pv 0) pe_int) pe_int) (L2.pv 4)) pa_nil)))))
    (pss_cons (ps_if (PW.pt (pw_and (pt_cmpR op_gt (L2.pv 1) pe_int (nomark _)) (pw_and1 (pt_cmpR op_gt (L2.pv 2) pe_int (nomark _))))) (pss_one (ps_set (i := 3) sc_l_row_by.nd rfl (by first | exact Or.inl rfl | exact Or.inr rfl) (pe_cl c_l_put hr (by decide) (takes_of rfl rfl rfl rfl) rfl (pa_cons (L2.pv 3) (pa_cons (pe_op op_mod (pe_op op_fdiv (L2.pv 0) pe_int) (L2.pv 2)) (pa_cons (pe_tup (pa_cons pe_str (pa_cons (pe_op op_mod (pe_op op_fdiv (L2.pv 0) pe_int) (L2.pv 1)) pa_nil))) pa_nil)))))) pss_nil)
    (pss_one (ps_ret (L2.pv 3))))))), ?_⟩
    walk_at "go"
    refine vCut (fun σ' H' => ∃ n : Nat, n ≤ 61 ∧ σ' = [some (.int c), some (.int m), some (.int n), none, none] ∧ H' = H) ?_ ?_
    · walk_at "vb"
      · exact ⟨(55 + c / 28 % 7).toNat, by omega, by rw [Int.toNat_of_nonneg (by omega)], rfl⟩
      · exact ⟨(c % 7).toNat, by omega, by rw [Int.toNat_of_nonneg (by omega)], rfl⟩
    rintro σ' H0 ⟨n, hn, rfl, rfl⟩
    walk_at "vc"
    refine vrLcR n rfl (by omega) (fun i acc H' => ∃ qs rs, acc = qs.map V.ref ∧ StpsAt H' qs rs ∧ rs.length = i ∧ (∀ s ∈ rs, s.isG = false) ∧ ∀ s ∈ rs, s ≠ .twice) (fun _ _ => ⟨[], [], rfl, .nil, rfl, fun _ h => (by cases h), fun _ h => (by cases h)⟩) (fun i acc H' D hi fD k1 a1 l1 hp => ?_) (fun W acc H1 fW k1 aW l1 hp => ?_)
    · obtain ⟨qs, rs, rfl, S, ls, ng, nt⟩ := hp
      walk_at "wp"
      walk_at "vc"
      rename_i u Hu fu ku au
      refine vrApp fD (k1.trans ku) (ku.get0 a1) l1 (by omega) fun H5 k5 a5 => ?_
      exact ⟨qs ++ [u], rs ++ [.add (c / 7 % 5 + (i : Int))], by rw [List.map_append]; rfl, (S.keep ku).push (s := .add (c / 7 % 5 + (i : Int))) k5 (k5.getT au), by simp [ls], mem_push ng rfl, mem_push nt (by intro z; cases z)⟩
    obtain ⟨qs, rs, rfl, S, ls, ng, nt⟩ := hp
    have R := S.r4 nt
    have lq : (qs.map V.ref).length = n := by rw [List.length_map, S.n, ls]
    rcases (show ((m = 0 ∨ n = 0) ∨ (0 < m ∧ 0 < n)) by omega) with hz | ⟨hm0, hn0⟩
    · walk_at "vb"
      all_goals exact k W _ _ H1 fW k1 aW R (by omega) (ng_encs ng)
    · have hcd1 : CDiv (c / 196) (n : Int) := ⟨by omega, by omega⟩
      have hcd2 : CDiv (c / 7) (m : Int) := ⟨by omega, by omega⟩
      have q0 := Int.emod_nonneg (c / 196) (show (n : Int) ≠ 0 by omega)
      have q1 := Int.emod_lt_of_pos (c / 196) (show 0 < (n : Int) by omega)
      walk_at "vc"
      rename_i u Hu fu ku au
      refine usePut4 (c / 196 % n).toNat (Int.toNat_of_nonneg q0).symm (ku.get0 aW) (by omega) fun p H3 f3 k3 a3 => ?_
      walk_at "vc"
      have hA : At4 H3 (.ref u) (.tup (Stp.load (c / 7 % m)).enc) := ⟨u, rfl, k3.get0 au⟩
      exact k p _ _ H3 ((f3.back ku).back k1) ((k1.trans ku).trans k3) a3 (((R.keep0 ku).keep0 k3).put _ hA (.stp _ (by intro z; cases z))) (by rw [put_len (by omega)]; omega) (mem_put (ng_encs ng) (ng_enc rfl))
theorem cl_l_wrong_by {f : Addr} {fd : FuncData} (T : Txt K mg aBOXED aGUARDS eWeaveError eTooMany eBadStep eBadBox eAgain eNotHeld eNoTurn eWaits eStuck C) (F : Fun K "_law_wrong_by" "_law_wrong_by" s_l_wrong_by f fd) (hm : mg "_law_wrong_by" = some (.ref f)) (hb : Binds K fd ["_law_cell", "_law_many"] [])  : Cl P w K mg base 1 "_law_wrong_by" ["_law_cell", "_law_many"] spWrongBy4 := by
  refine Cl.of F hm hb sc_l_wrong_by (fun vs H Q E h => ?_) (fun cdv A outer s H vs Q E hr h => ?_)
  · obtain ⟨c, many, rfl, _⟩ := h
    rfl
  · obtain ⟨c, many, rfl, k⟩ := h
    refine ⟨_, (pss_cons (ps_set (i := 2) sc_l_wrong_by.nd rfl (by first | exact Or.inl rfl | exact Or.inr rfl) (pe_lst (pa_cons (pe_tup (pa_cons pe_str (pa_cons pe_int pa_nil))) (pa_cons (pe_tup (pa_cons pe_str pa_nil)) (pa_cons (pe_tup (pa_cons pe_str (pa_cons pe_str pa_nil))) (pa_cons (pe_tup (pa_cons pe_str (pa_cons pe_int pa_nil))) (pa_cons pe_non (pa_cons pe_str (pa_cons (pe_lst (pa_cons pe_str pa_nil)) (pa_cons (pe_tup (pa_cons pe_str (pa_cons pe_bl pa_nil))) pa_nil))))))))))
    (pss_cons (ps_set (i := 2) sc_l_wrong_by.nd rfl (by first | exact Or.inl rfl | exact Or.inr rfl) (pe_op op_cat (L2.pv 2) (pe_lst (pa_cons (pe_tup (pa_cons pe_str (pa_cons (L2.pv 1) pa_nil))) (pa_cons (pe_tup (pa_cons pe_str (pa_cons (pe_op op_sub (pe_un un_neg pe_int) (pe_op op_mod (pe_op op_fdiv (L2.pv 0) pe_int) pe_int)) pa_nil))) (pa_cons (pe_tup (pa_cons pe_str (pa_cons (pe_op op_add (pe_op op_pow pe_int pe_int) (pe_op op_mod (pe_op op_fdiv (L2.pv 0) pe_int) pe_int)) pa_nil))) pa_nil))))))
    (pss_one (ps_ret (pe_ix ix_list (L2.pv 2) (pe_op op_mod (L2.pv 0) pe_int) (fun _ _ => rfl)))))), ?_⟩
    walk_at "go"
    rcases (show c % 11 = 0 ∨ c % 11 = 1 ∨ c % 11 = 2 ∨ c % 11 = 3 ∨ c % 11 = 4 ∨ c % 11 = 5 ∨ c % 11 = 6 ∨ c % 11 = 7 ∨ c % 11 = 8 ∨ c % 11 = 9 ∨ c % 11 = 10 by omega) with e | e | e | e | e | e | e | e | e | e | e
    all_goals rw [e]
    all_goals walk_at "vc"
    · exact k _ (.tup [.str "swap", .int 0]) _ (by walk_at "kp") ⟨_, rfl, by walk_at "hp"⟩ .swap (ng_of fun w z => by cases z)
    · exact k _ (.tup [.str "load"]) _ (by walk_at "kp") ⟨_, rfl, by walk_at "hp"⟩ .load0 ng_load0
    · exact k _ (.tup [.str "add", .str "1"]) _ (by walk_at "kp") ⟨_, rfl, by walk_at "hp"⟩ .add1 (ng_of fun w z => by cases z)
    · exact k _ (.tup [.str "take", .int 0]) _ (by walk_at "kp") ⟨_, rfl, by walk_at "hp"⟩ .take0 (ng_of fun w z => by cases z)
    · exact k _ .non _ (by walk_at "kp") rfl .non (ng_oth fun _ z => by cases z)
    · exact k _ .fr _ (by walk_at "kp") rfl .fr (ng_oth fun _ z => by cases z)
    · exact k _ .tw _ (by walk_at "kp") ⟨_, rfl, by walk_at "hp"⟩ .tw (ng_oth fun _ z => by cases z)
    · exact k _ (.tup [.str "add", .bl true]) _ (by walk_at "kp") ⟨_, rfl, by walk_at "hp"⟩ .addT (ng_of fun w z => by cases z)
    · exact k _ (.tup (Stp.store many).enc) _ (by walk_at "kp") ⟨_, rfl, by show _ = some (HO.tup [_, _]); walk_at "hp"⟩ (.stp _ (by intro z; cases z)) (ng_enc rfl)
    · exact k _ (.tup (Stp.plus (-1 - c / 10 % 3)).enc) _ (by walk_at "kp") ⟨_, rfl, by show _ = some (HO.tup [_, _]); walk_at "hp"⟩ (.stp _ (by intro z; cases z)) (ng_enc rfl)
    · exact k _ (.tup (Stp.load (10 ^ 30 + c / 11 % 99)).enc) _ (by walk_at "kp") ⟨_, rfl, by show _ = some (HO.tup [_, _]); walk_at "hp"⟩ (.stp _ (by intro z; cases z)) (ng_enc rfl)
theorem cl_l_due {f : Addr} {fd : FuncData} (T : Txt K mg aBOXED aGUARDS eWeaveError eTooMany eBadStep eBadBox eAgain eNotHeld eNoTurn eWaits eStuck C) (F : Fun K "_law_due" "_law_due" s_l_due f fd) (hm : mg "_law_due" = some (.ref f)) (hb : Binds K fd ["_law_row", "_law_many"] [])  : Cl P w K mg base 1 "_law_due" ["_law_row", "_law_many"] spDue4 := by
  refine Cl.of F hm hb sc_l_due (fun vs H Q E h => ?_) (fun cdv A outer s H vs Q E hr h => ?_)
  · obtain ⟨a, many, xs, ts, rfl, _⟩ := h
    rfl
  · obtain ⟨a, many, xs, ts, rfl, ha, R, k⟩ := h
    refine ⟨_, (pss_cons (ps_if (pt_cmpR op_gt (pe_callB call_lenG (by rfl) T.n_len b_len (pa_cons (L2.pv 0) pa_nil)) pe_int (nomark _)) (pss_one (ps_ret pe_str)) pss_nil)
    (pss_cons (ps_for (passes_of rfl) rfl (pi_list (L2.pv 0)) (pg_name (i := 2) sc_l_due.nd rfl (by first | exact Or.inl rfl | exact Or.inr rfl)) (pss_cons (ps_if (PW.pt (pw_or (pt_cmpR (op_eqD hr.units) (L2.pv 2) (pe_tup (pa_cons pe_str pa_nil)) (nomark _)) (pw_or1 (pt_cmpR (op_eqD hr.units) (L2.pv 2) (pe_tup (pa_cons pe_str pa_nil)) (nomark _))))) (pss_one ps_continue) pss_nil)
    (pss_cut (ps_if (PW.pt (pw_or (pt_not (pt_val (pe_callB call_isi (by rfl) T.n_isinstance b_isinstance (pa_cons (L2.pv 2) (pa_cons (pe_bltn (v := .ty "tuple") (by rfl) T.n_tuple b_tuple rfl) pa_nil))))) (pw_or (pt_cmpR op_eq (pe_callB call_lenG (by rfl) T.n_len b_len (pa_cons (L2.pv 2) pa_nil)) pe_int (nomark _)) (pw_or1 (pt_cmpR op_notIn_seq (pe_ix ix_tup (L2.pv 2) pe_int (fun _ _ => rfl)) (pe_tup (pa_cons pe_str (pa_cons pe_str (pa_cons pe_str (pa_cons pe_str pa_nil))))) (by rfl)))))) (pss_one (ps_ret pe_str)) pss_nil)
    (pss_cut (ps_if (PW.pt (pw_or (pt_cmpR op_ne (pe_callB call_lenG (by rfl) T.n_len b_len (pa_cons (L2.pv 2) pa_nil)) pe_int (nomark _)) (pw_or (pt_not (pt_val (pe_callB call_isi (by rfl) T.n_isinstance b_isinstance (pa_cons (pe_ix ix_tup (L2.pv 2) pe_int (fun _ _ => rfl)) (pa_cons (pe_bltn (v := .ty "int") (by rfl) T.n_int b_int rfl) pa_nil))))) (pw_or1 (pt_val (pe_callB call_isi (by rfl) T.n_isinstance b_isinstance (pa_cons (pe_ix ix_tup (L2.pv 2) pe_int (fun _ _ => rfl)) (pa_cons (pe_bltn (v := .ty "bool") (by rfl) T.n_bool b_bool rfl) pa_nil)))))))) (pss_one (ps_ret pe_str)) pss_nil)
    (pss_one (ps_if (PW.pt (pw_and (pt_cmpR op_ne (pe_ix ix_tup (L2.pv 2) pe_int (fun _ _ => rfl)) pe_str (nomark _)) (pw_and1 (pt_not (pt_chain op_le op_lt pe_int (pe_ix ix_tup (L2.pv 2) pe_int (fun _ _ => rfl)) (L2.pv 1)))))) (pss_one (ps_ret pe_str)) pss_nil))))))
    (pss_one (ps_ret pe_str)))), ?_⟩
    have hn : xs.length = (ts.map T4.thg).length := by rw [List.length_map, R.n]
    by_cases hbig : 60 < xs.length
    · walk_at "go"
      refine toStr (k H Kp.refl) ?_
      unfold needC
      rw [if_pos (by omega)]; rfl
    walk_at "go"
    have eN : needC (ts.map T4.thg) many = (ts.map T4.thg).findSome? (thErr many) := by unfold needC; rw [if_neg (by omega)]
    rw [eN] at k
    clear eN
    refine vrForL (SqL.of ha) (fun j σ' H' => ∃ v2 : Option V, σ' = [some (.ref a), some (.int many), v2] ∧ Kp [] H H' ∧ ((ts.map T4.thg).take j).findSome? (thErr many) = none) ⟨none, rfl, Kp.refl, rfl⟩ ?_ ?_ ?_
    · rintro j σ' H' _ ⟨v2, rfl, k2, _⟩
      exact SqL.of (k2.get0 ha)
    · rintro j v σ' H' hx ⟨v2, rfl, k2, hf⟩
      obtain ⟨t, ht, hv, ho⟩ := (R.keep0 k2).get hx
      have hc : (ts.map T4.thg)[j]? = some t.thg := by rw [List.getElem?_map, ht]; rfl
      have bad : ∀ e, thErr many t.thg = some e → ∀ H', Kp [] H H' → Q (.str (nameOf e)) H' := fun e he H' kk => by
        have := k H' kk
        rw [find_take_some hf hc he] at this
        exact this
      have good : thErr many t.thg = none → ((ts.map T4.thg).take (j + 1)).findSome? (thErr many) = none := fun he => find_take_none hf hc he
      clear hf hc
      walk_at "vc"
      rename_i p1 H1 f1 k1 a1
      have hv1 := hv.keep0 k1
      refine useEq4 hv1 ho a1 words_ok.2.2.2.2.2.1 ?_
      walk_at "vc"
      refine vIte (fun h1 => ?_) (fun h1 => ?_)
      · walk_at "vc"
        exact ⟨_, rfl, k2.trans k1, good (by rw [tk4_of h1]; exact (thErr_enc many .take).trans rfl)⟩
      walk_at "vc"
      rename_i p2 H2 f2 k3 a2
      have hv2 := hv1.keep0 k3
      refine useEq4 hv2 ho a2 words_ok.2.2.2.2.2.2 ?_
      walk_at "vc"
      refine vIte (fun h2 => ?_) (fun h2 => ?_)
      · walk_at "vc"
        exact ⟨_, rfl, (k2.trans k1).trans k3, good (by rw [tk4_of h2]; exact (thErr_enc many .free).trans rfl)⟩
      walk_at "vc"
      have kk : Kp [] H H2 := (k2.trans k1).trans k3
      clear hv hv1 k1 k2 k3 a1 a2 f1 f2
      cases ho with
      | non =>
        obtain rfl : v = .non := hv2
        refine vCut (fun _ _ => False) ?_ (fun _ _ z => z.elim)
        walk_at "vc"
        exact bad .badStep (thErr_bad (by decide +kernel)) _ kk
      | fr =>
        obtain rfl : v = .str "free" := hv2
        refine vCut (fun _ _ => False) ?_ (fun _ _ z => z.elim)
        walk_at "vc"
        exact bad .badStep (thErr_bad (by decide +kernel)) _ kk
      | tw =>
        obtain ⟨p, rfl, hp⟩ := hv2
        refine vCut (fun _ _ => False) ?_ (fun _ _ z => z.elim)
        walk_at "vc"
        exact bad .badStep (thErr_bad (by decide +kernel)) _ kk
      | swap =>
        obtain ⟨p, rfl, hp⟩ := hv2
        refine vCut (fun _ _ => False) ?_ (fun _ _ z => z.elim)
        walk_at "vc"
        rename_i q1 G1 g1 c1 b1
        exact bad .badStep (thErr_bad (by decide +kernel)) _ (kk.trans c1)
      | take0 =>
        obtain ⟨p, rfl, hp⟩ := hv2
        refine vCut (fun _ _ => False) ?_ (fun _ _ z => z.elim)
        walk_at "vc"
        rename_i q1 G1 g1 c1 b1
        exact bad .badStep (thErr_bad (by decide +kernel)) _ (kk.trans c1)
      | load0 =>
        obtain ⟨p, rfl, hp⟩ := hv2
        refine vCut (fun σ' H' => σ' = [some (.ref a), some (.int many), some (.ref p)] ∧ Kp [] H H' ∧ H' p = some (.tup [.str "load"])) ?_ ?_
        · walk_at "vc"
          rename_i q1 G1 g1 c1 b1
          exact ⟨rfl, kk.trans c1, c1.get0 hp⟩
        clear kk hp
        rintro σ' H3 ⟨rfl, kk, hp⟩
        refine vCut (fun _ _ => False) ?_ (fun _ _ z => z.elim)
        walk_at "vc"
        exact bad .badStep (thErr_bad (by decide +kernel)) _ kk
      | add1 =>
        obtain ⟨p, rfl, hp⟩ := hv2
        refine vCut (fun σ' H' => σ' = [some (.ref a), some (.int many), some (.ref p)] ∧ Kp [] H H' ∧ H' p = some (.tup [.str "add", .str "1"])) ?_ ?_
        · walk_at "vc"
          rename_i q1 G1 g1 c1 b1
          exact ⟨rfl, kk.trans c1, c1.get0 hp⟩
        clear kk hp
        rintro σ' H3 ⟨rfl, kk, hp⟩
        refine vCut (fun _ _ => False) ?_ (fun _ _ z => z.elim)
        walk_at "vc"
        exact bad .badStep (thErr_bad (by decide +kernel)) _ kk
      | addT =>
        obtain ⟨p, rfl, hp⟩ := hv2
        refine vCut (fun σ' H' => σ' = [some (.ref a), some (.int many), some (.ref p)] ∧ Kp [] H H' ∧ H' p = some (.tup [.str "add", .bl true])) ?_ ?_
        · walk_at "vc"
          rename_i q1 G1 g1 c1 b1
          exact ⟨rfl, kk.trans c1, c1.get0 hp⟩
        clear kk hp
        rintro σ' H3 ⟨rfl, kk, hp⟩
        refine vCut (fun _ _ => False) ?_ (fun _ _ z => z.elim)
        walk_at "vc"
        exact bad .badStep (thErr_bad (by decide +kernel)) _ kk
      | stp s hs2 =>
        obtain ⟨p, rfl, hp⟩ := hv2
        cases s with
        | twice => exact absurd rfl hs2
        | take => exact absurd h1 (by decide +kernel)
        | free => exact absurd h2 (by decide +kernel)
        | load y =>
          change H2 p = some (.tup [.str "load", .int y]) at hp
          refine vCut (fun σ' H' => σ' = [some (.ref a), some (.int many), some (.ref p)] ∧ Kp [] H H' ∧ H' p = some (.tup [.str "load", .int y])) ?_ ?_
          · walk_at "vc"
            rename_i q1 G1 g1 c1 b1
            exact ⟨rfl, kk.trans c1, c1.get0 hp⟩
          clear kk hp
          rintro σ' H3 ⟨rfl, kk, hp⟩
          refine vCut (fun σ' H' => σ' = [some (.ref a), some (.int many), some (.ref p)] ∧ H' = H3) ?_ ?_
          · walk_at "vc"
            exact ⟨rfl, rfl⟩
          rintro σ' H' ⟨rfl, rfl⟩
          have hne : ¬ (("load" : Str) = "add") := by decide +kernel
          have eb : thErr many (some (Stp.load y).enc) = if inBox many (.load y) = true then none else some .badBox := thErr_enc many (.load y)
          have ei : inBox many (.load y) = (decide (0 ≤ y) && decide (y < many)) := rfl
          rw [ei] at eb
          by_cases y0 : 0 ≤ y
          · by_cases y1 : y < many
            · rw [decide_eq_true y0, decide_eq_true y1] at eb
              walk_at "vc"
              exact ⟨_, rfl, kk, good eb⟩
            · rw [decide_eq_true y0, decide_eq_false y1] at eb
              walk_at "vc"
              exact bad .badBox eb _ kk
          · rw [decide_eq_false y0] at eb
            walk_at "vc"
            exact bad .badBox eb _ kk
        | plus y =>
          change H2 p = some (.tup [.str "plus", .int y]) at hp
          refine vCut (fun σ' H' => σ' = [some (.ref a), some (.int many), some (.ref p)] ∧ Kp [] H H' ∧ H' p = some (.tup [.str "plus", .int y])) ?_ ?_
          · walk_at "vc"
            rename_i q1 G1 g1 c1 b1
            exact ⟨rfl, kk.trans c1, c1.get0 hp⟩
          clear kk hp
          rintro σ' H3 ⟨rfl, kk, hp⟩
          refine vCut (fun σ' H' => σ' = [some (.ref a), some (.int many), some (.ref p)] ∧ H' = H3) ?_ ?_
          · walk_at "vc"
            exact ⟨rfl, rfl⟩
          rintro σ' H' ⟨rfl, rfl⟩
          have hne : ¬ (("plus" : Str) = "add") := by decide +kernel
          have eb : thErr many (some (Stp.plus y).enc) = if inBox many (.plus y) = true then none else some .badBox := thErr_enc many (.plus y)
          have ei : inBox many (.plus y) = (decide (0 ≤ y) && decide (y < many)) := rfl
          rw [ei] at eb
          by_cases y0 : 0 ≤ y
          · by_cases y1 : y < many
            · rw [decide_eq_true y0, decide_eq_true y1] at eb
              walk_at "vc"
              exact ⟨_, rfl, kk, good eb⟩
            · rw [decide_eq_true y0, decide_eq_false y1] at eb
              walk_at "vc"
              exact bad .badBox eb _ kk
          · rw [decide_eq_false y0] at eb
            walk_at "vc"
            exact bad .badBox eb _ kk
        | store y =>
          change H2 p = some (.tup [.str "store", .int y]) at hp
          refine vCut (fun σ' H' => σ' = [some (.ref a), some (.int many), some (.ref p)] ∧ Kp [] H H' ∧ H' p = some (.tup [.str "store", .int y])) ?_ ?_
          · walk_at "vc"
            rename_i q1 G1 g1 c1 b1
            exact ⟨rfl, kk.trans c1, c1.get0 hp⟩
          clear kk hp
          rintro σ' H3 ⟨rfl, kk, hp⟩
          refine vCut (fun σ' H' => σ' = [some (.ref a), some (.int many), some (.ref p)] ∧ H' = H3) ?_ ?_
          · walk_at "vc"
            exact ⟨rfl, rfl⟩
          rintro σ' H' ⟨rfl, rfl⟩
          have hne : ¬ (("store" : Str) = "add") := by decide +kernel
          have eb : thErr many (some (Stp.store y).enc) = if inBox many (.store y) = true then none else some .badBox := thErr_enc many (.store y)
          have ei : inBox many (.store y) = (decide (0 ≤ y) && decide (y < many)) := rfl
          rw [ei] at eb
          by_cases y0 : 0 ≤ y
          · by_cases y1 : y < many
            · rw [decide_eq_true y0, decide_eq_true y1] at eb
              walk_at "vc"
              exact ⟨_, rfl, kk, good eb⟩
            · rw [decide_eq_true y0, decide_eq_false y1] at eb
              walk_at "vc"
              exact bad .badBox eb _ kk
          · rw [decide_eq_false y0] at eb
            walk_at "vc"
            exact bad .badBox eb _ kk
        | add y =>
          change H2 p = some (.tup [.str "add", .int y]) at hp
          refine vCut (fun σ' H' => σ' = [some (.ref a), some (.int many), some (.ref p)] ∧ Kp [] H H' ∧ H' p = some (.tup [.str "add", .int y])) ?_ ?_
          · walk_at "vc"
            rename_i q1 G1 g1 c1 b1
            exact ⟨rfl, kk.trans c1, c1.get0 hp⟩
          clear kk hp
          rintro σ' H3 ⟨rfl, kk, hp⟩
          refine vCut (fun σ' H' => σ' = [some (.ref a), some (.int many), some (.ref p)] ∧ H' = H3) ?_ ?_
          · walk_at "vc"
            exact ⟨rfl, rfl⟩
          rintro σ' H' ⟨rfl, rfl⟩
          walk_at "vc"
          exact ⟨_, rfl, kk, good ((thErr_enc many (.add y)).trans rfl)⟩
    · rintro σ' H' ⟨v2, rfl, k2, hf⟩
      walk_at "vc"
      refine toStr (k H' k2) ?_
      rw [hn, List.take_length] at hf
      rw [hf]; rfl
theorem cl_l_asked {f : Addr} {fd : FuncData} (T : Txt K mg aBOXED aGUARDS eWeaveError eTooMany eBadStep eBadBox eAgain eNotHeld eNoTurn eWaits eStuck C) (F : Fun K "_law_asked" "_law_asked" s_l_asked f fd) (hm : mg "_law_asked" = some (.ref f)) (hb : Binds K fd ["_law_which", "_law_ones", "_law_others", "_law_boxes", "_law_order"] []) (c_Loom : Mr P w K mg base 4 "Loom" C ["self", "ones", "others", "boxes"] (spInit (ers eTooMany eBadStep eBadBox eAgain eNotHeld eNoTurn eWaits eStuck) C)) (c_alone : Cl P w K mg base 6 "alone" ["row", "boxes"] (spAlone (ers eTooMany eBadStep eBadBox eAgain eNotHeld eNoTurn eWaits eStuck))) (c_walked : Cl P w K mg base 6 "walked" ["ones", "others", "boxes", "order"] (spWalked (ers eTooMany eBadStep eBadBox eAgain eNotHeld eNoTurn eWaits eStuck))) (c_woven : Cl P w K mg base 6 "woven" ["ones", "others", "boxes", "turns"] (spWoven (ers eTooMany eBadStep eBadBox eAgain eNotHeld eNoTurn eWaits eStuck))) (c_strange : Cl P w K mg base 8 "strange" ["ones", "others", "boxes"] (spStrange (ers eTooMany eBadStep eBadBox eAgain eNotHeld eNoTurn eWaits eStuck))) : Cl P w K mg base 9 "_law_asked" ["_law_which", "_law_ones", "_law_others", "_law_boxes", "_law_order"] (spAsked (ers eTooMany eBadStep eBadBox eAgain eNotHeld eNoTurn eWaits eStuck)) := by
  refine Cl.of F hm hb sc_l_asked (fun vs H Q E h => ?_) (fun cdv A outer s H vs Q E hr h => ?_)
  · obtain ⟨wh, a0, a1, b, o, x0, x1, c0, c1, bs, hs, rfl, _⟩ := h
    rfl
  · obtain ⟨wh, a0, a1, b, o, x0, x1, c0, c1, bs, hs, rfl, w0, w4, h0, h1, t0, t1, hb, hbl, ho, ke, kq⟩ := h
    refine ⟨_, (pss_cons (ps_if (pt_cmpR op_eq (L2.pv 0) pe_int (nomark _)) (pss_one (ps_ret (pe_cl c_alone hr (by decide) (takes_of rfl rfl rfl rfl) rfl (pa_cons (L2.pv 1) (pa_cons (L2.pv 3) pa_nil))))) pss_nil)
    (pss_cons (ps_if (pt_cmpR op_eq (L2.pv 0) pe_int (nomark _)) (pss_one (ps_ret (pe_cl c_walked hr (by decide) (takes_of rfl rfl rfl rfl) rfl (pa_cons (L2.pv 1) (pa_cons (L2.pv 2) (pa_cons (L2.pv 3) (pa_cons (L2.pv 4) pa_nil))))))) pss_nil)
    (pss_cons (ps_if (pt_cmpR op_eq (L2.pv 0) pe_int (nomark _)) (pss_one (ps_ret (pe_cl c_woven hr (by decide) (takes_of rfl rfl rfl rfl) rfl (pa_cons (L2.pv 1) (pa_cons (L2.pv 2) (pa_cons (L2.pv 3) (pa_cons (L2.pv 4) pa_nil))))))) pss_nil)
    (pss_cons (ps_if (pt_cmpR op_eq (L2.pv 0) pe_int (nomark _)) (pss_one (ps_ret (pe_cl c_strange hr (by decide) (takes_of rfl rfl rfl rfl) rfl (pa_cons (L2.pv 1) (pa_cons (L2.pv 2) (pa_cons (L2.pv 3) pa_nil)))))) pss_nil)
    (pss_one (ps_ret (pe_mr c_Loom hr (by decide) (takes_of rfl rfl rfl rfl) rfl (pa_cons (L2.pv 1) (pa_cons (L2.pv 2) (pa_cons (L2.pv 3) pa_nil)))))))))), ?_⟩
    rcases (show wh = 0 ∨ wh = 1 ∨ wh = 2 ∨ wh = 3 ∨ wh = 4 by omega) with z | z | z | z | z <;> subst z
    · walk_at "go"
      refine ⟨a0, b, x0, c0, bs, rfl, h0, t0, hb, fun e H' he kk => ke e H' (by rw [ask_0]; exact he) kk, fun hn rs ec so => ⟨fun e H' he kk => ?_, fun S p l H' _ _ _ kk _ _ => (kq (by rw [ask_0]; exact hn)).2.2.2 _ _ kk⟩⟩
      have ng := (kq (by rw [ask_0]; exact hn)).1
      rw [ec] at ng
      obtain ⟨U, hU⟩ := alone_ok bs (alt_nog (h := false) ng.rows)
      exact absurd (hU.symm.trans he) (by intro z; cases z)
    · walk_at "go"
      refine ⟨a0, a1, b, o, x0, x1, c0, c1, bs, hs, rfl, h0, h1, t0, t1, hb, ho, fun e H' he kk => ke e H' (ask_loom (by decide) he) kk, fun hn r0 r1 e0 e1 so => ?_⟩
      obtain ⟨_, _, hz, kk2⟩ := kq (ask_none (by decide) (by decide) hn)
      subst hz
      exact ⟨fun e H' he kk => (by cases he), fun S p l n H' _ _ _ _ _ kk _ _ _ => kk2 _ _ kk⟩
    · walk_at "go"
      refine ⟨a0, a1, b, o, x0, x1, c0, c1, bs, hs, rfl, h0, h1, t0, t1, hb, ho, fun e H' he kk => ke e H' (ask_loom (by decide) he) kk, fun hn r0 r1 e0 e1 so => ?_⟩
      obtain ⟨g0, g1, hz, kk2⟩ := kq (ask_none (by decide) (by decide) hn)
      rw [e0] at g0
      rw [e1] at g1
      refine ⟨fun e H' he _ kk => ?_, fun S p l n w H' o _ _ _ _ _ _ _ _ _ _ kk _ _ _ _ => kk2 _ _ kk⟩
      obtain ⟨S1, o1, hr, _⟩ := he.run (Alt.start (alt_nog g0.rows) (alt_nog g1.rows)) (Rel.start (held_nog g0.rows) (held_nog g1.rows)) so
      cases hr
    · walk_at "go"
      refine ⟨a0, a1, b, x0, x1, c0, c1, bs, rfl, h0, h1, t0, t1, hb, hbl, fun e H' he kk => ke e H' (ask_loom (by decide) he) kk, fun hn r0 r1 e0 e1 so => ?_⟩
      have n0 : c0.length = r0.length := by rw [e0, List.length_map]
      have n1 : c1.length = r1.length := by rw [e1, List.length_map]
      refine ⟨fun h5 H' kk => ke _ H' (by rw [ask_3 hn, n0, n1]; exact if_pos h5) kk, fun l0 l1 => ?_⟩
      obtain ⟨g0, g1, hz, kk2⟩ := kq (by rw [ask_3 hn, n0, n1]; exact if_neg (by omega))
      rw [e0] at g0
      rw [e1] at g1
      obtain ⟨U0, hU0⟩ := alone_ok bs (alt_nog (h := false) g0.rows)
      obtain ⟨U1, hU1⟩ := alone_ok bs (alt_nog (h := false) g1.rows)
      exact ⟨fun e H' he _ => absurd (hU0.symm.trans he) (by intro z; cases z), fun _ e H' _ he _ => absurd (hU1.symm.trans he) (by intro z; cases z), fun _ _ _ _ => ⟨fun p hs S H' _ _ _ kk _ => kk2 _ _ kk, fun H' _ kk => kk2 _ _ kk⟩⟩
    · walk_at "go"
      refine useLoom h0 h1 t0 t1 hb (fun e H' he kk => ke e H' (ask_loom (by decide) he) kk) fun A r0 r1 H' hn _ _ _ _ _ _ _ _ kk _ => ?_
      walk_at "vc"
      exact (kq (ask_none (by decide) (by decide) hn)).2.2.2 _ _ kk
theorem cl_l_names {f : Addr} {fd : FuncData} (T : Txt K mg aBOXED aGUARDS eWeaveError eTooMany eBadStep eBadBox eAgain eNotHeld eNoTurn eWaits eStuck C) (F : Fun K "_law_names" "_law_names" s_l_names f fd) (hm : mg "_law_names" = some (.ref f)) (hb : Binds K fd ["_law_error"] [])  : ClE P w K mg base 1 "_law_names" ["_law_error"] (spNames (ers eTooMany eBadStep eBadBox eAgain eNotHeld eNoTurn eWaits eStuck) okNames) := by
  refine ClE.of F hm hb sc_l_names (fun a c d vs H Q E h => ?_) (fun cdv A below s H vs Q E a oe c d hr hz hf h => ?_)
  · obtain ⟨e, rfl, _⟩ := h
    rfl
  · obtain ⟨e, rfl, rfl, rfl, ho, k⟩ := h
    refine ⟨_, (pss_cons (ps_set (i := 1) sc_l_names.nd rfl (by first | exact Or.inl rfl | exact Or.inr rfl) pe_str)
    (pss_cons (ps_if (pt_val (pe_callB (call_isP List.mem_cons_self hz hf) (by rfl) T.n_isinstance b_isinstance (pa_cons (L2.pv 0) (pa_cons (pe_gref rfl T.g_TooMany) pa_nil)))) (pss_one (ps_set (i := 1) sc_l_names.nd rfl (by first | exact Or.inl rfl | exact Or.inr rfl) (pe_op op_addT (L2.pv 1) pe_str))) pss_nil)
    (pss_cons (ps_if (pt_val (pe_callB (call_isP List.mem_cons_self hz hf) (by rfl) T.n_isinstance b_isinstance (pa_cons (L2.pv 0) (pa_cons (pe_gref rfl T.g_BadStep) pa_nil)))) (pss_one (ps_set (i := 1) sc_l_names.nd rfl (by first | exact Or.inl rfl | exact Or.inr rfl) (pe_op op_addT (L2.pv 1) pe_str))) pss_nil)
    (pss_cons (ps_if (pt_val (pe_callB (call_isP List.mem_cons_self hz hf) (by rfl) T.n_isinstance b_isinstance (pa_cons (L2.pv 0) (pa_cons (pe_gref rfl T.g_BadBox) pa_nil)))) (pss_one (ps_set (i := 1) sc_l_names.nd rfl (by first | exact Or.inl rfl | exact Or.inr rfl) (pe_op op_addT (L2.pv 1) pe_str))) pss_nil)
    (pss_cons (ps_if (pt_val (pe_callB (call_isP List.mem_cons_self hz hf) (by rfl) T.n_isinstance b_isinstance (pa_cons (L2.pv 0) (pa_cons (pe_gref rfl T.g_Again) pa_nil)))) (pss_one (ps_set (i := 1) sc_l_names.nd rfl (by first | exact Or.inl rfl | exact Or.inr rfl) (pe_op op_addT (L2.pv 1) pe_str))) pss_nil)
    (pss_cons (ps_if (pt_val (pe_callB (call_isP List.mem_cons_self hz hf) (by rfl) T.n_isinstance b_isinstance (pa_cons (L2.pv 0) (pa_cons (pe_gref rfl T.g_NotHeld) pa_nil)))) (pss_one (ps_set (i := 1) sc_l_names.nd rfl (by first | exact Or.inl rfl | exact Or.inr rfl) (pe_op op_addT (L2.pv 1) pe_str))) pss_nil)
    (pss_cons (ps_if (pt_val (pe_callB (call_isP List.mem_cons_self hz hf) (by rfl) T.n_isinstance b_isinstance (pa_cons (L2.pv 0) (pa_cons (pe_gref rfl T.g_NoTurn) pa_nil)))) (pss_one (ps_set (i := 1) sc_l_names.nd rfl (by first | exact Or.inl rfl | exact Or.inr rfl) (pe_op op_addT (L2.pv 1) pe_str))) pss_nil)
    (pss_cons (ps_if (pt_val (pe_callB (call_isP List.mem_cons_self hz hf) (by rfl) T.n_isinstance b_isinstance (pa_cons (L2.pv 0) (pa_cons (pe_gref rfl T.g_Waits) pa_nil)))) (pss_one (ps_set (i := 1) sc_l_names.nd rfl (by first | exact Or.inl rfl | exact Or.inr rfl) (pe_op op_addT (L2.pv 1) pe_str))) pss_nil)
    (pss_cons (ps_if (pt_val (pe_callB (call_isP List.mem_cons_self hz hf) (by rfl) T.n_isinstance b_isinstance (pa_cons (L2.pv 0) (pa_cons (pe_gref rfl T.g_Stuck) pa_nil)))) (pss_one (ps_set (i := 1) sc_l_names.nd rfl (by first | exact Or.inl rfl | exact Or.inr rfl) (pe_op op_addT (L2.pv 1) pe_str))) pss_nil)
    (pss_cons (ps_if (pt_not (pt_val (pe_callB (call_isP List.mem_cons_self hz hf) (by rfl) T.n_isinstance b_isinstance (pa_cons (L2.pv 0) (pa_cons (pe_bltn (v := .ty "ValueError") (by rfl) T.n_ValueError b_ValueError rfl) pa_nil))))) (pss_one (ps_set (i := 1) sc_l_names.nd rfl (by first | exact Or.inl rfl | exact Or.inr rfl) (pe_op op_addT (L2.pv 1) pe_str))) pss_nil)
    (pss_one (ps_ret (L2.pv 1))))))))))))), ?_⟩
    cases e with
    | tooMany =>
      simp only [ers]
      simp only [start_cc, start_cn, start_nn, cxEK]
      walk_at "vc"
      refine vIsER T.xc_TooMany T.v_TooMany_TooMany ?_
      walk_at "vc"
      refine vAddT (by decide +kernel) ?_
      walk_at "vc"
      refine vIsER T.xc_TooMany T.v_TooMany_BadStep ?_
      walk_at "vc"
      refine vIsER T.xc_TooMany T.v_TooMany_BadBox ?_
      walk_at "vc"
      refine vIsER T.xc_TooMany T.v_TooMany_Again ?_
      walk_at "vc"
      refine vIsER T.xc_TooMany T.v_TooMany_NotHeld ?_
      walk_at "vc"
      refine vIsER T.xc_TooMany T.v_TooMany_NoTurn ?_
      walk_at "vc"
      refine vIsER T.xc_TooMany T.v_TooMany_Waits ?_
      walk_at "vc"
      refine vIsER T.xc_TooMany T.v_TooMany_Stuck ?_
      walk_at "vc"
      refine vIsE T.xc_TooMany T.v_TooMany_ValueError ?_
      walk_at "vc"
      exact toStr k (by decide +kernel)
    | badStep =>
      simp only [ers]
      simp only [start_cc, start_cn, start_nn, cxEK]
      walk_at "vc"
      refine vIsER T.xc_BadStep T.v_BadStep_TooMany ?_
      walk_at "vc"
      refine vIsER T.xc_BadStep T.v_BadStep_BadStep ?_
      walk_at "vc"
      refine vAddT (by decide +kernel) ?_
      walk_at "vc"
      refine vIsER T.xc_BadStep T.v_BadStep_BadBox ?_
      walk_at "vc"
      refine vIsER T.xc_BadStep T.v_BadStep_Again ?_
      walk_at "vc"
      refine vIsER T.xc_BadStep T.v_BadStep_NotHeld ?_
      walk_at "vc"
      refine vIsER T.xc_BadStep T.v_BadStep_NoTurn ?_
      walk_at "vc"
      refine vIsER T.xc_BadStep T.v_BadStep_Waits ?_
      walk_at "vc"
      refine vIsER T.xc_BadStep T.v_BadStep_Stuck ?_
      walk_at "vc"
      refine vIsE T.xc_BadStep T.v_BadStep_ValueError ?_
      walk_at "vc"
      exact toStr k (by decide +kernel)
    | badBox =>
      simp only [ers]
      simp only [start_cc, start_cn, start_nn, cxEK]
      walk_at "vc"
      refine vIsER T.xc_BadBox T.v_BadBox_TooMany ?_
      walk_at "vc"
      refine vIsER T.xc_BadBox T.v_BadBox_BadStep ?_
      walk_at "vc"
      refine vIsER T.xc_BadBox T.v_BadBox_BadBox ?_
      walk_at "vc"
      refine vAddT (by decide +kernel) ?_
      walk_at "vc"
      refine vIsER T.xc_BadBox T.v_BadBox_Again ?_
      walk_at "vc"
      refine vIsER T.xc_BadBox T.v_BadBox_NotHeld ?_
      walk_at "vc"
      refine vIsER T.xc_BadBox T.v_BadBox_NoTurn ?_
      walk_at "vc"
      refine vIsER T.xc_BadBox T.v_BadBox_Waits ?_
      walk_at "vc"
      refine vIsER T.xc_BadBox T.v_BadBox_Stuck ?_
      walk_at "vc"
      refine vIsE T.xc_BadBox T.v_BadBox_ValueError ?_
      walk_at "vc"
      exact toStr k (by decide +kernel)
    | again => cases ho
    | notHeld => cases ho
    | noTurn => cases ho
    | waits => cases ho
    | stuck => cases ho
theorem cl_l_told {f : Addr} {fd : FuncData} (T : Txt K mg aBOXED aGUARDS eWeaveError eTooMany eBadStep eBadBox eAgain eNotHeld eNoTurn eWaits eStuck C) (F : Fun K "_law_told" "_law_told" s_l_told f fd) (hm : mg "_law_told" = some (.ref f)) (hb : Binds K fd ["_law_which", "_law_ones", "_law_others", "_law_boxes", "_law_kind", "_law_order"] []) (c_l_asked : Cl P w K mg base 9 "_law_asked" ["_law_which", "_law_ones", "_law_others", "_law_boxes", "_law_order"] (spAsked (ers eTooMany eBadStep eBadBox eAgain eNotHeld eNoTurn eWaits eStuck))) (c_l_names : ClE P w K mg base 1 "_law_names" ["_law_error"] (spNames (ers eTooMany eBadStep eBadBox eAgain eNotHeld eNoTurn eWaits eStuck) okNames)) : Cl P w K mg base 10 "_law_told" ["_law_which", "_law_ones", "_law_others", "_law_boxes", "_law_kind", "_law_order"] spTold4 := by
  refine Cl.of F hm hb sc_l_told (fun vs H Q E h => ?_) (fun cdv A outer s H vs Q E hr h => ?_)
  · obtain ⟨wh, kd, a0, a1, b, o, x0, x1, c0, c1, bs, hs, rfl, _⟩ := h
    rfl
  · obtain ⟨wh, kd, a0, a1, b, o, x0, x1, c0, c1, bs, hs, rfl, w0, w4, h0, h1, t0, t1, hb, hbl, ho, hg, k⟩ := h
    refine ⟨_, (pss_cons (ps_if (pt_cmpR op_lt (L2.pv 4) pe_int (nomark _)) (pss_cons (ps_tryAsG (i := 6) rfl rfl sc_l_told.nd rfl rfl ⟨rfl, by decide, Or.inl T.g_WeaveError⟩ (takes_of rfl rfl rfl rfl) (fun W pn xe tk po => (pss_one (ps_expr (pe_cl c_l_asked hr (by decide) tk rfl (pa_cons (L2.pv 0) (pa_cons (L2.pv 1) (pa_cons (L2.pv 2) (pa_cons (L2.pv 3) (pa_cons (L2.pv 5) pa_nil))))))))) (fun a oe cls d pn hz hf => (pss_one (ps_ret (pe_clE c_l_names hr (by decide) hz hf takes0 rfl (pa_cons (L2.pv 6) pa_nil))))))
    (pss_one (ps_ret pe_str))) pss_nil)
    (pss_cons (ps_tryManyG rfl rfl (takes_of rfl rfl rfl rfl) (fun W pn xe tk po => (pss_one (ps_expr (pe_cl c_l_asked hr (by decide) tk rfl (pa_cons (L2.pv 0) (pa_cons (L2.pv 1) (pa_cons (L2.pv 2) (pa_cons (L2.pv 3) (pa_cons (L2.pv 5) pa_nil))))))))) (HdsOk.cons ⟨rfl, by decide, Or.inl T.g_TooMany⟩ (fun a oe cls d pn hz hf => (pss_one (ps_ret pe_str))) (HdsOk.cons ⟨rfl, by decide, Or.inl T.g_BadStep⟩ (fun a oe cls d pn hz hf => (pss_one (ps_ret pe_str))) (HdsOk.cons ⟨rfl, by decide, Or.inl T.g_BadBox⟩ (fun a oe cls d pn hz hf => (pss_one (ps_ret pe_str))) HdsOk.nil))))
    (pss_one (ps_ret pe_str)))), ?_⟩
    walk_at "go"
    refine vIteD (fun hk => ?_) (fun hk => ?_)
    · walk_at "vc"
      refine ⟨wh, a0, a1, b, o, x0, x1, c0, c1, bs, hs, rfl, w0, w4, h0, h1, t0, t1, hb, hbl, ho, fun e H' he kk => ?_, fun hn => ?_⟩
      · have hq := k H' kk
        rw [he] at hq
        rcases ask3 he with z | z | z <;> subst z
        · refine vAsE T.m_TooMany_WeaveError fun x fx => ?_
          simp only [List.set_cons_zero, List.set_cons_succ]
          walk_at "vc"
          exact useNames (e := .tooMany) rfl hq
        · refine vAsE T.m_BadStep_WeaveError fun x fx => ?_
          simp only [List.set_cons_zero, List.set_cons_succ]
          walk_at "vc"
          exact useNames (e := .badStep) rfl hq
        · refine vAsE T.m_BadBox_WeaveError fun x fx => ?_
          simp only [List.set_cons_zero, List.set_cons_succ]
          walk_at "vc"
          exact useNames (e := .badBox) rfl hq
      · obtain ⟨g0, g1, hz⟩ := hg hn
        refine ⟨g0, g1, hz, fun v H' kk => ?_⟩
        have hq := k H' kk
        rw [hn] at hq
        walk_at "vc"
        exact hq
    · walk_at "vc"
      refine ⟨wh, a0, a1, b, o, x0, x1, c0, c1, bs, hs, rfl, w0, w4, h0, h1, t0, t1, hb, hbl, ho, fun e H' he kk => ?_, fun hn => ?_⟩
      · have hq := k H' kk
        rw [he] at hq
        rcases ask3 he with z | z | z <;> subst z
        · refine vManyY T.m_TooMany_TooMany fun x fx => ?_
          walk_at "vc"
          exact hq
        · refine vManyN T.m_BadStep_TooMany (vManyY T.m_BadStep_BadStep fun x fx => ?_)
          walk_at "vc"
          exact hq
        · refine vManyN T.m_BadBox_TooMany (vManyN T.m_BadBox_BadStep (vManyY T.m_BadBox_BadBox fun x fx => ?_))
          walk_at "vc"
          exact hq
      · obtain ⟨g0, g1, hz⟩ := hg hn
        refine ⟨g0, g1, hz, fun v H' kk => ?_⟩
        have hq := k H' kk
        rw [hn] at hq
        walk_at "vc"
        exact hq
theorem cl_l_with_guards {f : Addr} {fd : FuncData} (T : Txt K mg aBOXED aGUARDS eWeaveError eTooMany eBadStep eBadBox eAgain eNotHeld eNoTurn eWaits eStuck C) (F : Fun K "_law_with_guards" "_law_with_guards" s_l_with_guards f fd) (hm : mg "_law_with_guards" = some (.ref f)) (hb : Binds K fd ["_law_row", "_law_cell"] [])  : Cl P w K mg base 1 "_law_with_guards" ["_law_row", "_law_cell"] spGuards4 := by
  refine Cl.of F hm hb sc_l_with_guards (fun vs H Q E h => ?_) (fun cdv A outer s H vs Q E hr h => ?_)
  · obtain ⟨a, c, xs, ts, rfl, _⟩ := h
    rfl
  · obtain ⟨a, c, xs, ts, rfl, ha, R, hl, k⟩ := h
    refine ⟨_, (pss_cut (ps_set (i := 2) sc_l_with_guards.nd rfl (by first | exact Or.inl rfl | exact Or.inr rfl) (pe_ix ix_list (pe_lst (pa_cons (pe_lst (pa_cons (pe_tup (pa_cons pe_str pa_nil)) (pa_cons (pe_tup (pa_cons pe_str pa_nil)) pa_nil))) (pa_cons (pe_lst (pa_cons (pe_tup (pa_cons pe_str pa_nil)) pa_nil)) (pa_cons (pe_lst (pa_cons (pe_tup (pa_cons pe_str pa_nil)) pa_nil)) (pa_cons (pe_lst pa_nil) pa_nil))))) (pe_op op_mod (L2.pv 1) pe_int) (fun _ _ => rfl)))
    (pss_cons (ps_set (i := 3) sc_l_with_guards.nd rfl (by first | exact Or.inl rfl | exact Or.inr rfl) (pe_op op_mod (pe_op op_fdiv (L2.pv 1) pe_int) (pe_op op_add (pe_callB call_lenG (by rfl) T.n_len b_len (pa_cons (L2.pv 0) pa_nil)) pe_int)))
    (pss_cut (ps_if (pt_cmpR op_eq (pe_op op_mod (pe_op op_fdiv (L2.pv 1) pe_int) pe_int) pe_int (nomark _)) (pss_one (ps_set (i := 3) sc_l_with_guards.nd rfl (by first | exact Or.inl rfl | exact Or.inr rfl) pe_int)) pss_nil)
    (pss_one (ps_ret (pe_op op_cat (pe_op op_cat (pe_slice sl_list (L2.pv 0) po_none (po_some (L2.pv 3))) (L2.pv 2)) (pe_slice sl_list (L2.pv 0) (po_some (L2.pv 3)) po_none))))))), ?_⟩
    walk_at "go"
    refine vCut (fun σ' H' => ∃ g ys us, σ' = [some (.ref a), some (.int c), some (.ref g), none] ∧ Kp [] H H' ∧ H' g = some (.lst ys) ∧ R4 H' ys us ∧ ys.length ≤ 2) ?_ ?_
    · walk_at "vc"
      rename_i t1 J1 f1 k1 a1 t2 J2 f2 k2 a2 g0 J3 f3 k3 a3 t3 J4 f4 k4 a4 g1 J5 f5 k5 a5 t4 J6 f6 k6 a6 g2 J7 f7 k7 a7 g3 J8 f8 k8 a8 G J9 f9 k9 a9
      have tk : ∀ {p : Addr}, J9 p = some (.tup [.str "take"]) → R4 J9 [.ref p] [.tup Stp.take.enc] := fun {p} h => .one ⟨p, rfl, h⟩ (.stp .take (by intro z; cases z))
      have fr : ∀ {p : Addr}, J9 p = some (.tup [.str "free"]) → R4 J9 [.ref p] [.tup Stp.free.enc] := fun {p} h => .one ⟨p, rfl, h⟩ (.stp .free (by intro z; cases z))
      have b1 : J9 t1 = some (.tup [.str "take"]) := by walk_at "hp"
      have b2 : J9 t2 = some (.tup [.str "take"]) := by walk_at "hp"
      have b3 : J9 t3 = some (.tup [.str "free"]) := by walk_at "hp"
      have b4 : J9 t4 = some (.tup [.str "take"]) := by walk_at "hp"
      have e0 : J9 g0 = some (.lst [.ref t1, .ref t2]) := by walk_at "hp"
      have e1 : J9 g1 = some (.lst [.ref t3]) := by walk_at "hp"
      have e2 : J9 g2 = some (.lst [.ref t4]) := by walk_at "hp"
      have e3 : J9 g3 = some (.lst []) := by walk_at "hp"
      have kk : Kp [] H J9 := by walk_at "kp"
      rcases (show c % 4 = 0 ∨ c % 4 = 1 ∨ c % 4 = 2 ∨ c % 4 = 3 by omega) with e | e | e | e
      all_goals rw [e]
      all_goals walk_at "vc"
      · exact ⟨g0, _, _, rfl, kk, e0, (tk b1).app (tk b2), by simp⟩
      · exact ⟨g1, _, _, rfl, kk, e1, fr b3, by simp⟩
      · exact ⟨g2, _, _, rfl, kk, e2, tk b4, by simp⟩
      · exact ⟨g3, _, _, rfl, kk, e3, .nil, by simp⟩
    rintro σ' H1 ⟨g, ys, us, rfl, k1, hg, U, lu⟩
    have ha1 := k1.get0 ha
    have R1 := R.keep0 k1
    have hcd : CDiv (c / 4) ((xs.length : Int) + 1) := ⟨by omega, by omega⟩
    have q0 := Int.emod_nonneg (c / 4) (show (xs.length : Int) + 1 ≠ 0 by omega)
    walk_at "vc"
    refine vCut (fun σ' H' => ∃ j : Nat, σ' = [some (.ref a), some (.int c), some (.ref g), some (.int j)] ∧ H' = H1) ?_ ?_
    · walk_at "vb"
      · exact ⟨0, rfl, rfl⟩
      · exact ⟨(c / 4 % ((xs.length : Int) + 1)).toNat, by rw [Int.toNat_of_nonneg q0], rfl⟩
    rintro σ' H' ⟨j, rfl, rfl⟩
    walk_at "vc"
    rename_i y1 G1 fy1 ky1 ay1
    rw [cutV_loG] at ay1
    have z1 : (xs.take j).length + ys.length ≤ sizeLine := len_le (by rw [List.length_take]; omega)
    walk_at "vc"
    rename_i y2 G2 fy2 ky2 ay2 y3 G3 fy3 ky3 ay3
    rw [cutV_hiG] at ay3
    have z2 : (xs.take j ++ ys).length + (xs.drop j).length ≤ sizeLine := len_le (by rw [List.length_append, List.length_take, List.length_drop]; omega)
    walk_at "vc"
    rename_i y4 G4 fy4 ky4 ay4
    have K : Kp [] H' G4 := ((ky1.trans ky2).trans ky3).trans ky4
    exact k y4 _ _ G4 ((((fy4.back ky3).back ky2).back ky1).back k1) (k1.trans K) ay4 ((((R1.keep0 K).take j).app (U.keep0 K)).app ((R1.keep0 K).drop j)) (by rw [List.length_append, List.length_append, List.length_take, List.length_drop]; omega)
theorem ok_law {f : Addr} {fd : FuncData} (T : Txt K mg aBOXED aGUARDS eWeaveError eTooMany eBadStep eBadBox eAgain eNotHeld eNoTurn eWaits eStuck C) (F : Fun K "law" "law" s_law f fd) (c_l_due : Cl P w K mg base 1 "_law_due" ["_law_row", "_law_many"] spDue4) (c_Loom : Mr P w K mg base 4 "Loom" C ["self", "ones", "others", "boxes"] (spInit (ers eTooMany eBadStep eBadBox eAgain eNotHeld eNoTurn eWaits eStuck) C)) (c_l_cell_at : Cl P w K mg base 1 "_law_cell_at" ["_law_script", "_law_k"] (spCell K)) (c_l_row_by : Cl P w K mg base 2 "_law_row_by" ["_law_cell", "_law_many"] spRow4) (c_l_told : Cl P w K mg base 10 "_law_told" ["_law_which", "_law_ones", "_law_others", "_law_boxes", "_law_kind", "_law_order"] spTold4) (c_l_put : Cl P w K mg base 1 "_law_put" ["_law_row", "_law_at", "_law_thing"] spPut4) (c_l_with_guards : Cl P w K mg base 1 "_law_with_guards" ["_law_row", "_law_cell"] spGuards4) (c_Loom_over : Mt P w K mg base 1 C "over" ["self", "hand"] (spOver C)) (c_l_wrong_by : Cl P w K mg base 1 "_law_wrong_by" ["_law_cell", "_law_many"] spWrongBy4) : FnOk P w K mg base (L2.CX P w) 11 f fd ["_law_script"] (spLaw K) := by
  refine F.okX sc_law (fun vs H Q E h => ?_) (fun cdv A outer s H vs Q E hr h => ?_)
  · obtain ⟨a, ns, rfl, _⟩ := h
    rfl
  · obtain ⟨a, ns, rfl, hS, hlen, hbit, k⟩ := h
    refine ⟨_, (pss_cons (ps_set (i := 1) sc_law.nd rfl (by first | exact Or.inl rfl | exact Or.inr rfl) (pe_op op_mod (pe_cl c_l_cell_at hr (by decide) (takes_of rfl rfl rfl rfl) rfl (pa_cons (L2.pv 0) (pa_cons pe_int pa_nil))) pe_int))
    (pss_cons (ps_set (i := 2) sc_law.nd rfl (by first | exact Or.inl rfl | exact Or.inr rfl) (pe_op op_mod (pe_cl c_l_cell_at hr (by decide) (takes_of rfl rfl rfl rfl) rfl (pa_cons (L2.pv 0) (pa_cons pe_int pa_nil))) pe_int))
    (pss_cons (ps_set (i := 3) sc_law.nd rfl (by first | exact Or.inl rfl | exact Or.inr rfl) (pe_op op_mod (pe_cl c_l_cell_at hr (by decide) (takes_of rfl rfl rfl rfl) rfl (pa_cons (L2.pv 0) (pa_cons pe_int pa_nil))) pe_int))
    (pss_cons (ps_set (i := 4) sc_law.nd rfl (by first | exact Or.inl rfl | exact Or.inr rfl) (pe_lst (pa_cons (pe_cl c_l_row_by hr (by decide) (takes_of rfl rfl rfl rfl) rfl (pa_cons (pe_cl c_l_cell_at hr (by decide) (takes_of rfl rfl rfl rfl) rfl (pa_cons (L2.pv 0) (pa_cons pe_int pa_nil))) (pa_cons (L2.pv 1) pa_nil))) (pa_cons (pe_cl c_l_row_by hr (by decide) (takes_of rfl rfl rfl rfl) rfl (pa_cons (pe_cl c_l_cell_at hr (by decide) (takes_of rfl rfl rfl rfl) rfl (pa_cons (L2.pv 0) (pa_cons pe_int pa_nil))) (pa_cons (L2.pv 1) pa_nil))) pa_nil))))
    (pss_cut (ps_for (passes_of rfl) rfl (pi_range1 rfl T.n_range (pa_cons (pe_op op_mod (pe_cl c_l_cell_at hr (by decide) (takes_of rfl rfl rfl rfl) rfl (pa_cons (L2.pv 0) (pa_cons pe_int pa_nil))) pe_int) pa_nil)) (pg_name (i := 5) sc_law.nd rfl (by first | exact Or.inl rfl | exact Or.inr rfl)) (pss_cons (ps_set (i := 6) sc_law.nd rfl (by first | exact Or.inl rfl | exact Or.inr rfl) (pe_cl c_l_cell_at hr (by decide) (takes_of rfl rfl rfl rfl) rfl (pa_cons (L2.pv 0) (pa_cons (pe_op op_add pe_int (pe_op op_mulX pe_int (L2.pv 5))) pa_nil))))
    (pss_cons (ps_set (i := 7) sc_law.nd rfl (by first | exact Or.inl rfl | exact Or.inr rfl) (pe_op op_mod (L2.pv 6) pe_int))
    (pss_one (ps_if (pt_cmpR op_gt (pe_callB call_lenG (by rfl) T.n_len b_len (pa_cons (pe_ix ix_list (L2.pv 4) (L2.pv 7) (fun _ _ => rfl)) pa_nil)) pe_int (nomark _)) (pss_cons (ps_set (i := 8) sc_law.nd rfl (by first | exact Or.inl rfl | exact Or.inr rfl) (pe_op op_mod (pe_op op_fdiv (L2.pv 6) pe_int) (pe_callB call_lenG (by rfl) T.n_len b_len (pa_cons (pe_ix ix_list (L2.pv 4) (L2.pv 7) (fun _ _ => rfl)) pa_nil))))
    (pss_one (ps_asg (pe_cl c_l_put hr (by decide) (takes_of rfl rfl rfl rfl) rfl (pa_cons (pe_ix ix_list (L2.pv 4) (L2.pv 7) (fun _ _ => rfl)) (pa_cons (L2.pv 8) (pa_cons (pe_cl c_l_wrong_by hr (by decide) (takes_of rfl rfl rfl rfl) rfl (pa_cons (pe_cl c_l_cell_at hr (by decide) (takes_of rfl rfl rfl rfl) rfl (pa_cons (L2.pv 0) (pa_cons (pe_op op_add pe_int (pe_op op_mulX pe_int (L2.pv 5))) pa_nil))) (pa_cons (L2.pv 1) pa_nil))) pa_nil)))) (pg_sub (L2.pv 4) (L2.pv 7) set_list)))) pss_nil)))))
    (pss_cons (ps_set (i := 9) sc_law.nd rfl (by first | exact Or.inl rfl | exact Or.inr rfl) (pe_lst pa_nil))
    (pss_cons (ps_set (i := 10) sc_law.nd rfl (by first | exact Or.inl rfl | exact Or.inr rfl) (pe_cmpR op_eq (pe_op op_mod (pe_cl c_l_cell_at hr (by decide) (takes_of rfl rfl rfl rfl) rfl (pa_cons (L2.pv 0) (pa_cons pe_int pa_nil))) pe_int) pe_int (nomark _)))
    (pss_cut (ps_if (pt_val (L2.pv 10)) (pss_cons (ps_setLc (i := 9) (own := [("_law_cell", 6)]) (g := gName 6) rfl sc_law.nd rfl rfl (sw_true rfl rfl rfl (by decide +kernel)) (pi_list (pe_slice sl_list (L2.pv 0) (po_some pe_int) po_none)) (blkOk_by (own := [("_law_cell", 6)]) (N := ["_law_script", "_law_many", "_law_which", "_law_kind", "_law_rows", "_law_k", "_law_cell", "_law_hand", "_law_at", "_law_order", "_law_tried", "_law_due_here", "_law_boxes", "_law_loom"]) (sc := defScope s_law) (by decide +kernel)) (fun _ _ _ _ _ => pg_name (i := 6) sc_law.nd rfl (Or.inl rfl)) (fun _ _ _ _ _ => pts_nil) (fun _ _ _ _ _ => (pe_op op_mod (L2.pv 6) pe_int)))
    (pss_one (ps_set (i := 4) sc_law.nd rfl (by first | exact Or.inl rfl | exact Or.inr rfl) (pe_lst (pa_cons (pe_cl c_l_with_guards hr (by decide) (takes_of rfl rfl rfl rfl) rfl (pa_cons (pe_ix ix_list (L2.pv 4) pe_int (fun _ _ => rfl)) (pa_cons (pe_cl c_l_cell_at hr (by decide) (takes_of rfl rfl rfl rfl) rfl (pa_cons (L2.pv 0) (pa_cons pe_int pa_nil))) pa_nil))) (pa_cons (pe_cl c_l_with_guards hr (by decide) (takes_of rfl rfl rfl rfl) rfl (pa_cons (pe_ix ix_list (L2.pv 4) pe_int (fun _ _ => rfl)) (pa_cons (pe_cl c_l_cell_at hr (by decide) (takes_of rfl rfl rfl rfl) rfl (pa_cons (L2.pv 0) (pa_cons pe_int pa_nil))) pa_nil))) pa_nil)))))) pss_nil)
    (pss_cons (ps_set (i := 11) sc_law.nd rfl (by first | exact Or.inl rfl | exact Or.inr rfl) (pe_cl c_l_due hr (by decide) (takes_of rfl rfl rfl rfl) rfl (pa_cons (pe_ix ix_list (L2.pv 4) pe_int (fun _ _ => rfl)) (pa_cons (L2.pv 1) pa_nil))))
    (pss_cut (ps_if (PW.pt (pw_and (pt_cmpR op_eq (L2.pv 11) pe_str (nomark _)) (pw_and1 (pt_cmpR op_gt (L2.pv 2) pe_int (nomark _))))) (pss_one (ps_set (i := 11) sc_law.nd rfl (by first | exact Or.inl rfl | exact Or.inr rfl) (pe_cl c_l_due hr (by decide) (takes_of rfl rfl rfl rfl) rfl (pa_cons (pe_ix ix_list (L2.pv 4) pe_int (fun _ _ => rfl)) (pa_cons (L2.pv 1) pa_nil))))) pss_nil)
    (pss_cut (ps_if (PW.pt (pw_and (pt_cmpR op_eq (L2.pv 11) pe_str (nomark _)) (pw_and (pt_cmpR op_eq (L2.pv 2) pe_int (nomark _)) (pw_and1 (PW.pt (pw_or (pt_cmpR op_gt (pe_callB call_lenG (by rfl) T.n_len b_len (pa_cons (pe_ix ix_list (L2.pv 4) pe_int (fun _ _ => rfl)) pa_nil)) pe_int (nomark _)) (pw_or1 (pt_cmpR op_gt (pe_callB call_lenG (by rfl) T.n_len b_len (pa_cons (pe_ix ix_list (L2.pv 4) pe_int (fun _ _ => rfl)) pa_nil)) pe_int (nomark _))))))))) (pss_one (ps_set (i := 11) sc_law.nd rfl (by first | exact Or.inl rfl | exact Or.inr rfl) pe_str)) pss_nil)
    (pss_cut (ps_if (PW.pt (pw_and (pt_cmpR op_eq (L2.pv 11) pe_str (nomark _)) (pw_and1 (pt_val (L2.pv 10))))) (pss_one (ps_ret pe_bl)) pss_nil)
    (pss_cons (ps_setLc (i := 12) (own := [("_law_k", 5)]) (g := gName 5) rfl sc_law.nd rfl rfl (sw_true rfl rfl rfl (by decide +kernel)) (pi_range1 rfl T.n_range (pa_cons (L2.pv 1) pa_nil)) (blkOk_by (own := [("_law_k", 5)]) (N := ["_law_script", "_law_many", "_law_which", "_law_kind", "_law_rows", "_law_k", "_law_cell", "_law_hand", "_law_at", "_law_order", "_law_tried", "_law_due_here", "_law_boxes", "_law_loom"]) (sc := defScope s_law) (by decide +kernel)) (fun _ _ _ _ _ => pg_name (i := 5) sc_law.nd rfl (Or.inl rfl)) (fun _ _ _ _ _ => pts_nil) (fun _ _ _ _ _ => (pe_op op_sub (pe_op op_mulX (L2.pv 5) (L2.pv 5)) pe_int)))
    (pss_cons (ps_if (pt_cmpR op_ne (pe_cl c_l_told hr (by decide) (takes_of rfl rfl rfl rfl) rfl (pa_cons (L2.pv 2) (pa_cons (pe_callTy call_listG (by rfl) T.n_list b_list (pa_cons (pe_ix ix_list (L2.pv 4) pe_int (fun _ _ => rfl)) pa_nil)) (pa_cons (pe_callTy call_listG (by rfl) T.n_list b_list (pa_cons (pe_ix ix_list (L2.pv 4) pe_int (fun _ _ => rfl)) pa_nil)) (pa_cons (pe_callTy call_listG (by rfl) T.n_list b_list (pa_cons (L2.pv 12) pa_nil)) (pa_cons (L2.pv 3) (pa_cons (L2.pv 9) pa_nil))))))) (L2.pv 11) (nomark _)) (pss_one (ps_ret pe_bl)) pss_nil)
    (pss_cons (ps_if (PW.pt (pw_or (pt_cmpR op_ne (L2.pv 11) pe_str (nomark _)) (pw_or1 (pt_cmpR op_ne (L2.pv 2) pe_int (nomark _))))) (pss_one (ps_ret pe_bl)) pss_nil)
    (pss_cons (ps_set (i := 13) sc_law.nd rfl (by first | exact Or.inl rfl | exact Or.inr rfl) (pe_mr c_Loom hr (by decide) (takes_of rfl rfl rfl rfl) rfl (pa_cons (pe_ix ix_list (L2.pv 4) pe_int (fun _ _ => rfl)) (pa_cons (pe_ix ix_list (L2.pv 4) pe_int (fun _ _ => rfl)) (pa_cons (L2.pv 12) pa_nil)))))
    (pss_cons (ps_if (PW.pt (pw_or (pt_cmpR (op_neD hr.units) (pe_fld (L2.pv 13) rfl) (L2.pv 12) (nomark _)) (pw_or (pt_cmpR (op_neD hr.units) (pe_fld (L2.pv 13) rfl) (pe_lst (pa_cons pe_int (pa_cons pe_int pa_nil))) (nomark _)) (pw_or (pt_cmpR (op_neD hr.units) (pe_fld (L2.pv 13) rfl) (pe_lst (pa_cons pe_int (pa_cons pe_int pa_nil))) (nomark _)) (pw_or1 (pt_cmpR op_notNG (pe_fld (L2.pv 13) rfl) pe_non (nomark _))))))) (pss_one (ps_ret pe_bl)) pss_nil)
    (pss_one (ps_ret (pe_and (pe_cmpR op_eq (pe_mt c_Loom_over hr (by decide) (takes_of rfl rfl rfl rfl) (L2.pv 13) (pa_cons pe_int pa_nil)) (pe_cmpR op_eq (pe_callB call_lenG (by rfl) T.n_len b_len (pa_cons (pe_ix ix_list (L2.pv 4) pe_int (fun _ _ => rfl)) pa_nil)) pe_int (nomark _)) (nomark _)) (pe_one (pe_cmpR op_eq (pe_mt c_Loom_over hr (by decide) (takes_of rfl rfl rfl rfl) (L2.pv 13) (pa_cons pe_int pa_nil)) (pe_cmpR op_eq (pe_callB call_lenG (by rfl) T.n_len b_len (pa_cons (pe_ix ix_list (L2.pv 4) pe_int (fun _ _ => rfl)) pa_nil)) pe_int (nomark _)) (nomark _))))))))))))))))))))))), ?_⟩
    obtain ⟨m, em⟩ : ∃ m : Nat, cellI ns 0 % 10 = (m : Int) := ⟨(cellI ns 0 % 10).toNat, by omega⟩
    have hm : m ≤ 9 := by omega
    walk_at "go"
    rw [em]
    generalize ew : cellI ns 9 % 5 = wh
    have hw0 : 0 ≤ wh := by omega
    have hw4 : wh ≤ 4 := by omega
    generalize cellI ns 10 % 5 = kd
    refine useRow4 hm fun y0 ys0 us0 H1 f1 k1 e1 r1 l1 n1 => ?_
    walk_at "vc"
    refine useRow4 hm fun y1 ys1 us1 H2 f2 k2 e2 r2 l2 n2 => ?_
    walk_at "vc"
    rename_i D H3 fD kD aD
    have e13 : H3 y0 = some (.lst ys0) := kD.get0 (k2.get0 e1)
    have e23 : H3 y1 = some (.lst ys1) := kD.get0 e2
    have hS3 := kD.seq0 (k2.seq0 (k1.seq0 hS))
    have r13 := (r1.keep0 k2).keep0 kD
    have r23 := r2.keep0 kD
    have d0 : y0 ≠ D := ne_fr fD (k2.get0 e1)
    have d1 : y1 ≠ D := ne_fr fD e2
    have K03 : Kp [] H H3 := (k1.trans k2).trans kD
    have fD0 : Fre H D := (fD.back k2).back k1
    clear k1 k2 kD
    refine vCut (fun σ' H' => ∃ (x : Bool → Addr) (xs : Bool → List V) (ts : Bool → List T4) (v5 v6 v7 v8 : Option V), σ' = [some (.ref a), some (.int m), some (.int wh), some (.int kd), some (.ref D), v5, v6, v7, v8, none, none, none, none, none] ∧ L4 K H' a D x xs ts ns ∧ (∀ h, (xs h).length ≤ 61) ∧ ∀ h, ∀ t ∈ ts h, NG4 t) ?_ ?_
    · walk_at "vc"
      obtain ⟨n, en⟩ : ∃ n : Nat, cellI ns 11 % 3 = (n : Int) := ⟨(cellI ns 11 % 3).toNat, by omega⟩
      refine vrForR n en (by omega) (fun i σ' H' => ∃ (x : Bool → Addr) (xs : Bool → List V) (ts : Bool → List T4) (v5 v6 v7 v8 : Option V), σ' = [some (.ref a), some (.int m), some (.int wh), some (.int kd), some (.ref D), v5, v6, v7, v8, none, none, none, none, none] ∧ L4 K H' a D x xs ts ns ∧ (∀ h, (xs h).length ≤ 61) ∧ (∀ h, ∀ t ∈ ts h, NG4 t) ∧ (∀ h, x h ≠ D) ∧ ∀ H2, Kp [D] H' H2 → SqL K H2 a (ns.map V.int)) ?_ ?_ ?_
      · refine ⟨two y0 y1, two ys0 ys1, two us0 us1, none, none, none, none, rfl, ⟨hS3, aD, fun h => (by cases h; exact e13; exact e23), fun h => (by cases h; exact r13; exact r23)⟩, fun h => (by cases h; exact l1; exact l2), fun h => (by cases h; exact n1; exact n2), fun h => (by cases h; exact d0; exact d1), fun H2 k2 => ?_⟩
        exact (K03.step k2 (sub_cons (.inr fD0) sub_nil)).seq0 hS
      · rintro i σ' H4 hi ⟨x, xs, ts, v5, v6, v7, v8, rfl, L, hl, hng, hx, hk⟩
        obtain ⟨g, eg⟩ := hI_mod (cellI ns (3 + 2 * (i : Int)))
        have sL := L.s
        have dL := L.d
        have xg := L.x g
        have e1 := at2x (x := x) (g := g)
        have i1 := ix2x (x := x) (g := g)
        have lg := hl g
        walk_at "vc"
        rw [eg]
        walk_at "vc"
        rcases (show (xs g).length = 0 ∨ 0 < (xs g).length by omega) with hz | hz
        · walk_at "vc"
          exact ⟨x, xs, ts, _, _, _, _, rfl, L, hl, hng, hx, hk⟩
        · have q0 := Int.emod_nonneg (cellI ns (3 + 2 * (i : Int)) / 2) (show ((xs g).length : Int) ≠ 0 by omega)
          have q1 := Int.emod_lt_of_pos (cellI ns (3 + 2 * (i : Int)) / 2) (show 0 < ((xs g).length : Int) by omega)
          obtain ⟨jn, ej⟩ : ∃ jn : Nat, cellI ns (3 + 2 * (i : Int)) / 2 % ((xs g).length : Int) = (jn : Int) := ⟨(cellI ns (3 + 2 * (i : Int)) / 2 % ((xs g).length : Int)).toNat, by omega⟩
          walk_at "vc"
          refine useWrongBy4 fun v t H5 k5 hv ho hn => ?_
          have xg5 := k5.get0 xg
          walk_at "vc"
          refine usePut4 jn ej xg5 (by omega) fun p H6 f6 k6 e6 => ?_
          have dL6 := k6.get0 (k5.get0 dL)
          walk_at "vc"
          rename_i H7 k7 a7
          rw [set2x] at a7
          have pD : p ≠ D := fun z => (Lives.kp (W := []) (x := D) ⟨_, dL⟩ k5).ne f6 z.symm
          have K7 : Kp [D] H4 H7 := ((Kp.of0 k5).trans (Kp.of0 k6)).trans k7
          refine ⟨upB x g p, upB xs g ((xs g).take jn ++ [v] ++ (xs g).drop (jn + 1)), upB ts g ((ts g).take jn ++ [t] ++ (ts g).drop (jn + 1)), _, _, _, _, rfl, ⟨hk H7 K7, a7, fun h => ?_, fun h => ?_⟩, fun h => ?_, fun h => ?_, fun h => ?_, fun H8 k8 => hk H8 (K7.trans k8)⟩
          · by_cases q : h = g
            · subst q
              rw [upB_same, upB_same]
              exact k7.get e6 (by simpa using pD)
            · rw [upB_ne q, upB_ne q]
              exact k7.get (k6.get0 (k5.get0 (L.x h))) (by simpa using hx h)
          · by_cases q : h = g
            · subst q
              rw [upB_same, upB_same]
              exact ((((L.r h).keep0 k5).keep0 k6).put jn (hv.keep0 k6) ho).keepD dL6 k7
            · rw [upB_ne q, upB_ne q]
              exact (((L.r h).keep0 k5).keep0 k6).keepD dL6 k7
          · by_cases q : h = g
            · subst q
              rw [upB_same, put_len (by omega)]
              exact hl h
            · rw [upB_ne q]; exact hl h
          · by_cases q : h = g
            · subst q
              rw [upB_same]
              exact mem_put (hng h) hn
            · rw [upB_ne q]; exact hng h
          · by_cases q : h = g
            · subst q
              rw [upB_same]; exact pD
            · rw [upB_ne q]; exact hx h
      · rintro σ' H' ⟨x, xs, ts, v5, v6, v7, v8, rfl, L, hl, hng, _⟩
        exact ⟨x, xs, ts, v5, v6, v7, v8, rfl, L, hl, hng⟩
    clear K03 fD0 hS3 aD e13 e23 r13 r23 d0 d1 fD l1 l2 n1 n2
    rintro σ' H1 ⟨x, xs, ts, v5, v6, v7, v8, rfl, L, hl, hng⟩
    have sL := L.s
    walk_at "vc"
    rename_i O H2 fO kO aO
    have L2 := L.keep0 kO
    have sL2 := L2.s
    have dL2 := L2.d
    have x0L := L2.x false
    have x1L := L2.x true
    refine vCut (fun σ' H' => ∃ (D O : Addr) (x : Bool → Addr) (xs : Bool → List V) (ts : Bool → List T4) (hs : List Bool) (v5 v6 v7 v8 : Option V), σ' = [some (.ref a), some (.int m), some (.int wh), some (.int kd), some (.ref D), v5, v6, v7, v8, some (.ref O), some (.bl (decide (cellI ns 12 % 3 = 1))), none, none, none] ∧ L4 K H' a D x xs ts ns ∧ H' O = some (.lst (hs2V hs)) ∧ (¬ cellI ns 12 % 3 = 1 → hs = [] ∧ ∀ h, ∀ t ∈ ts h, NG4 t)) ?_ ?_
    · walk_at "vc"
      refine vIteD (fun hb => ?_) (fun hb => ?_)
      · walk_at "vc"
        rename_i pc Hc fc kc ac
        rw [cutV_map] at ac
        have hcl := cut_len ns (some 13) none
        generalize cutG ns (some 13) none = cs at ac hcl
        have sc := kc.seq0 sL2
        have dc := kc.get0 dL2
        have Lc := L2.keep0 kc
        clear kc kO
        refine vrLcL (xs := cs.map V.int) (SqL.of ac) (by rw [List.length_map]; omega) (fun i acc _ => ∃ us, acc = hs2V us ∧ us.length = i) (fun _ _ => ⟨[], rfl, rfl⟩) (fun i y acc H' D' hy fD' k1 a1 l1 hp => ?_) (fun T0 acc H3 fT0 k3 a3 l3 hp => ?_)
        · obtain ⟨us, rfl, lt⟩ := hp
          have hi := (List.getElem?_eq_some_iff.mp hy).1
          rw [List.length_map] at hi
          obtain ⟨c, hc, rfl, _⟩ := get_map_int hy
          obtain ⟨g, eg⟩ := hI_mod c
          walk_at "wp"
          walk_at "vc"
          rw [eg]
          refine vrApp fD' k1 a1 l1 (by omega) fun H5 _ _ => ?_
          exact ⟨us ++ [g], hs2V_snoc us g, by simp [lt]⟩
        obtain ⟨us, rfl, lts⟩ := hp
        have L3 := Lc.keep0 k3
        have s3 := L3.s
        have d3 := L3.d
        walk_at "vc"
        refine useGuards4 (L3.x false) (L3.r false) (hl false) fun p0 zs0 us0 H4 f4 k4 e4 r4 l4 => ?_
        have L4' := L3.keep0 k4
        have s4 := L4'.s
        have d4 := L4'.d
        have a4 := k4.get0 a3
        walk_at "vc"
        refine useGuards4 (L4'.x true) (L4'.r true) (hl true) fun p1 zs1 us1 H5 f5 k5 e5 r5 l5 => ?_
        have s5 := k5.seq0 s4
        have a5 := k5.get0 a4
        walk_at "vc"
        rename_i D2 H6 f6 k6 e6
        exact ⟨D2, T0, two p0 p1, two zs0 zs1, two us0 us1, us, _, _, _, _, rfl, ⟨k6.seq0 s5, e6, fun h => (by cases h; exact k6.get0 (k5.get0 e4); exact k6.get0 e5), fun h => (by cases h; exact (r4.keep0 k5).keep0 k6; exact r5.keep0 k6)⟩, k6.get0 a5, fun z => absurd hb z⟩
      · walk_at "vc"
        exact ⟨D, O, x, xs, ts, [], _, _, _, _, rfl, L2, aO, fun _ => ⟨rfl, hng⟩⟩
    clear L2 sL2 dL2 x0L x1L L sL hl hng aO fO kO
    rintro σ' H3 ⟨D, O, x, xs, ts, hs, v5, v6, v7, v8, rfl, L, hO, hng⟩
    generalize hT : decide (cellI ns 12 % 3 = 1) = tried
    have hng2 : tried = false → hs = [] ∧ ∀ h, ∀ t ∈ ts h, NG4 t := fun z => hng (by rw [z] at hT; exact of_decide_eq_false hT)
    clear hng hT
    have dL := L.d
    have n0 := cs4_len L.r false
    have n1 := cs4_len L.r true
    walk_at "vc"
    refine useDue4 (L.x false) (L.r false) fun H4 k4 => ?_
    have L5 := L.keep0 k4
    have O5 := k4.get0 hO
    clear L hO dL k4
    have dL := L5.d
    change _ at n0
    walk_at "vc"
    refine vCut (fun σ' H' => σ' = [some (.ref a), some (.int m), some (.int wh), some (.int kd), some (.ref D), v5, v6, v7, v8, some (.ref O), some (.bl tried), some (.str (nm4 (due2 wh (cs4 ts false) (cs4 ts true) m))), none, none] ∧ L4 K H' a D x xs ts ns ∧ H' O = some (.lst (hs2V hs))) ?_ ?_
    · cases en : needC ((ts false).map T4.thg) (m : Int) with
      | some e =>
        have hne : ¬ nm4 (some e) = "" := nameOf_ne e
        have e2 : due2 wh (cs4 ts false) (cs4 ts true) m = some e := by unfold due2 cs4; rw [en]
        rw [e2]
        walk_at "vc"
        exact ⟨rfl, L5, O5⟩
      | none =>
        have hne : nm4 none = "" := rfl
        rcases (show wh = 0 ∨ 0 < wh by omega) with hz | hz
        · have e2 : due2 wh (cs4 ts false) (cs4 ts true) m = none := by unfold due2 cs4; rw [en]; exact if_pos hz
          rw [e2]
          walk_at "vc"
          exact ⟨rfl, L5, O5⟩
        · have e2 : due2 wh (cs4 ts false) (cs4 ts true) m = needC ((ts true).map T4.thg) (m : Int) := by unfold due2 cs4; rw [en]; exact if_neg (by omega)
          rw [e2]
          walk_at "vc"
          refine useDue4 (L5.x true) (L5.r true) fun H5 k5 => ?_
          walk_at "vc"
          exact ⟨rfl, L5.keep0 k5, k5.get0 O5⟩
    clear L5 O5 dL
    rintro σ' H5 ⟨rfl, L, hO⟩
    have dL := L.d
    have x0L := L.x false
    have x1L := L.x true
    refine vCut (fun σ' H' => σ' = [some (.ref a), some (.int m), some (.int wh), some (.int kd), some (.ref D), v5, v6, v7, v8, some (.ref O), some (.bl tried), some (.str (nm4 (askErr wh (cs4 ts false) (cs4 ts true) m))), none, none] ∧ H' = H5) ?_ ?_
    · rw [ask_due2]
      cases e2 : due2 wh (cs4 ts false) (cs4 ts true) m with
      | some e =>
        have hne : ¬ nm4 (some e) = "" := nameOf_ne e
        walk_at "vc"
        exact ⟨rfl, rfl⟩
      | none =>
        have hne : nm4 none = "" := rfl
        dsimp only
        rcases (show wh ≠ 3 ∨ (wh = 3 ∧ 5 < (xs false).length) ∨ (wh = 3 ∧ ¬ 5 < (xs false).length ∧ 5 < (xs true).length) ∨ (wh = 3 ∧ ¬ 5 < (xs false).length ∧ ¬ 5 < (xs true).length) by omega) with hz | ⟨hz, hy⟩ | ⟨hz, hy, hx⟩ | ⟨hz, hy, hx⟩
        · rw [if_neg (fun z => hz z.1)]
          walk_at "vc"
          exact ⟨rfl, rfl⟩
        · rw [if_pos ⟨hz, by omega⟩]
          walk_at "vc"
          exact ⟨rfl, rfl⟩
        · rw [if_pos ⟨hz, by omega⟩]
          walk_at "vc"
          exact ⟨rfl, rfl⟩
        · rw [if_neg (fun z => by omega)]
          walk_at "vc"
          exact ⟨rfl, rfl⟩
    rintro σ' H6 ⟨rfl, rfl⟩
    refine vCut (fun σ' H' => σ' = [some (.ref a), some (.int m), some (.int wh), some (.int kd), some (.ref D), v5, v6, v7, v8, some (.ref O), some (.bl tried), some (.str (nm4 (askErr wh (cs4 ts false) (cs4 ts true) m))), none, none] ∧ H' = H6 ∧ (askErr wh (cs4 ts false) (cs4 ts true) m = none → tried = false)) ?_ ?_
    · cases ea : askErr wh (cs4 ts false) (cs4 ts true) m with
      | some e =>
        have hne : ¬ nm4 (some e) = "" := nameOf_ne e
        walk_at "vc"
        exact ⟨rfl, rfl, fun z => by cases z⟩
      | none =>
        have hne : nm4 none = "" := rfl
        cases tried with
        | true =>
          walk_at "vc"
          exact k _
        | false =>
          walk_at "vc"
          exact ⟨rfl, rfl, fun _ => rfl⟩
    rintro σ' H' ⟨rfl, rfl, hend⟩
    walk_at "vc"
    refine vrLcR m rfl (by omega) (fun i acc _ => ∃ bs : List Int, acc = bs.map V.int ∧ bs.length = i) (fun _ _ => ⟨[], rfl, rfl⟩) (fun i acc H2 D2 hi fD k1 a1 l1 hp => ?_) (fun B acc H7 fB k7 aB l1 hp => ?_)
    · obtain ⟨bs, rfl, lb⟩ := hp
      walk_at "wp"
      walk_at "vc"
      refine vrApp fD k1 a1 l1 (by omega) fun H5 _ _ => ?_
      exact ⟨bs ++ [(i : Int) * i - 9], by rw [List.map_append]; rfl, by simp [lb]⟩
    obtain ⟨bs, rfl, lbs⟩ := hp
    have L7 := L.keep0 k7
    have O7 := k7.get0 hO
    clear L hO dL x0L x1L k7
    have dL := L7.d
    have x0L := L7.x false
    have x1L := L7.x true
    walk_at "vc"
    rename_i y0 G0 g0 c0 b0 y1 G1 g1 c1 b1 yb Gb gb cb bb
    have K : Kp [] H7 Gb := (c0.trans c1).trans cb
    have L8 := L7.keep0 K
    refine ⟨wh, kd, y0, y1, yb, O, xs false, xs true, cs4 ts false, cs4 ts true, bs, hs, rfl, hw0, hw4, cb.get0 (c1.get0 b0), cb.get0 b1, (L8.r false).th, (L8.r true).th, bb, by omega, K.get0 O7, fun hn => ?_, fun H8 k8 => ?_⟩
    · rw [lbs] at hn
      obtain ⟨hz, hng⟩ := hng2 (hend hn)
      exact ⟨R4.ng (hng false), R4.ng (hng true), hz⟩
    rw [lbs]
    have L9 := L8.keep0 k8
    have B9 := k8.get0 (K.get0 aB)
    clear L8 L7 K k8 c0 c1 cb b0 b1 bb g0 g1 gb aB O7 dL x0L x1L
    have dL := L9.d
    have x0L := L9.x false
    have x1L := L9.x true
    walk_at "vc"
    cases ea : askErr wh (cs4 ts false) (cs4 ts true) m with
    | some e =>
      have hne : ¬ nm4 (some e) = "" := nameOf_ne e
      walk_at "vc"
      exact k _
    | none =>
      have hne : nm4 none = "" := rfl
      by_cases hw : wh = 4
      · subst hw
        have hl := ask_loom4 ea
        walk_at "vc"
        have hl2 : loomErr ((ts false).map T4.thg) ((ts true).map T4.thg) (bs.length : Int) = none := by rw [lbs]; exact hl
        refine useLoom (L9.x false) (L9.x true) (L9.r false).th (L9.r true).th B9 (fun e H' he _ => by rw [hl2] at he; cases he) fun A r0 r1 H' _ ec0 ec1 ep0 ep1 so _ _ _ kk LA => ?_
        have dL2 := kk.get0 dL
        have x0L2 := kk.get0 x0L
        have x1L2 := kk.get0 x1L
        have B2 := kk.get0 B9
        have hLi := LA.ins
        have q1 : H' A.b = some (.lst (bs.map V.int)) := LA.box
        have q2 : H' A.n = some (.lst (([0, 0] : List Int).map V.int)) := LA.num
        have q3 : H' A.q = some (.lst (([0, 0] : List Int).map V.int)) := LA.pls
        have hh : hV (LS.start (two r0 r1) bs).hd = V.non := rfl
        have m0 : r0.length = (xs false).length := by rw [← ep0, List.length_map, (LA.row false).n]; rfl
        have m1 : r1.length = (xs true).length := by rw [← ep1, List.length_map, (LA.row true).n]; rfl
        have o0 : (LS.start (two r0 r1) bs).over false = decide (((xs false).length : Int) = 0) := decide_eq_decide.mpr (by show 0 = r0.length ↔ _; omega)
        have o1 : (LS.start (two r0 r1) bs).over true = decide (((xs true).length : Int) = 0) := decide_eq_decide.mpr (by show 0 = r1.length ↔ _; omega)
        clear kk
        walk_at "vc"
        refine useNeInts (xs := bs) q1 B2 ?_
        walk_at "vc"
        rename_i z1 J1 fz1 kz1 az1
        refine useNeInts (xs := [0, 0]) (kz1.get0 q2) az1 ?_
        walk_at "vc"
        rename_i z2 J2 fz2 kz2 az2
        refine useNeInts (xs := [0, 0]) (kz2.get0 (kz1.get0 q3)) az2 ?_
        walk_at "vc"
        exact toBl (k _) (decide_eq_true o1).symm
      · walk_at "vc"
        exact k _
end
theorem all_mk {l : PySem.W.OpenLaw} {w : World} {K : PySem.W.Frag} {h : Heap} {mg : Str → Option Value} {fa aBOXED aGUARDS eWeaveError eTooMany eBadStep eBadBox eAgain eNotHeld eNoTurn eWaits eStuck C f_l_due f_is_whole f_is_step f_need_row f_Loom_init f_l_cell_at f_l_put f_l_row_by f_Loom_over f_Loom_waits f_Loom_guard f_Loom_touch f_Loom_go f_alone f_walked f_goes f_woven f_plain f_Loom_twin f_grown f_strange f_l_asked f_l_names f_l_told f_l_with_guards f_l_wrong_by f_law : Addr} (X : K.In h) (G : h.Ns mainGlobals mg) (hfa : mg "law" = some (.ref fa))
    {od_BOXED : Option Addr} {n_BOXED : Nat} {sl_BOXED : Array (Option Value)} {t_BOXED_0 : Tok} {t_BOXED_1 : Tok} {t_BOXED_2 : Tok}
    {od_GUARDS : Option Addr} {n_GUARDS : Nat} {sl_GUARDS : Array (Option Value)} {t_GUARDS_0 : Tok} {t_GUARDS_1 : Tok}
    {t_MOST_STEPS : Tok}
    {t_MOST_SEARCHED : Tok}
    {od_l_due an_l_due : Option Addr} {sl_l_due : Array (Option Value)} {oc_l_due kV_l_due dc_l_due pm_l_due cd_l_due ct_l_due : Value}
    {od_is_whole an_is_whole : Option Addr} {sl_is_whole : Array (Option Value)} {oc_is_whole kV_is_whole dc_is_whole pm_is_whole cd_is_whole ct_is_whole : Value}
    {od_is_step an_is_step : Option Addr} {sl_is_step : Array (Option Value)} {oc_is_step kV_is_step dc_is_step pm_is_step cd_is_step ct_is_step : Value}
    {od_need_row an_need_row : Option Addr} {sl_need_row : Array (Option Value)} {oc_need_row kV_need_row dc_need_row pm_need_row cd_need_row ct_need_row : Value}
    {od_Loom_init an_Loom_init : Option Addr} {sl_Loom_init : Array (Option Value)} {oc_Loom_init kV_Loom_init dc_Loom_init pm_Loom_init cd_Loom_init ct_Loom_init : Value}
    {od_l_cell_at an_l_cell_at : Option Addr} {sl_l_cell_at : Array (Option Value)} {oc_l_cell_at kV_l_cell_at dc_l_cell_at pm_l_cell_at cd_l_cell_at ct_l_cell_at : Value}
    {od_l_put an_l_put : Option Addr} {sl_l_put : Array (Option Value)} {oc_l_put kV_l_put dc_l_put pm_l_put cd_l_put ct_l_put : Value}
    {od_l_row_by an_l_row_by : Option Addr} {sl_l_row_by : Array (Option Value)} {oc_l_row_by kV_l_row_by dc_l_row_by pm_l_row_by cd_l_row_by ct_l_row_by : Value}
    {od_Loom_over an_Loom_over : Option Addr} {sl_Loom_over : Array (Option Value)} {oc_Loom_over kV_Loom_over dc_Loom_over pm_Loom_over cd_Loom_over ct_Loom_over : Value}
    {od_Loom_waits an_Loom_waits : Option Addr} {sl_Loom_waits : Array (Option Value)} {oc_Loom_waits kV_Loom_waits dc_Loom_waits pm_Loom_waits cd_Loom_waits ct_Loom_waits : Value}
    {od_Loom_guard an_Loom_guard : Option Addr} {sl_Loom_guard : Array (Option Value)} {oc_Loom_guard kV_Loom_guard dc_Loom_guard pm_Loom_guard cd_Loom_guard ct_Loom_guard : Value}
    {od_Loom_touch an_Loom_touch : Option Addr} {sl_Loom_touch : Array (Option Value)} {oc_Loom_touch kV_Loom_touch dc_Loom_touch pm_Loom_touch cd_Loom_touch ct_Loom_touch : Value}
    {od_Loom_go an_Loom_go : Option Addr} {sl_Loom_go : Array (Option Value)} {oc_Loom_go kV_Loom_go dc_Loom_go pm_Loom_go cd_Loom_go ct_Loom_go : Value}
    {od_alone an_alone : Option Addr} {sl_alone : Array (Option Value)} {oc_alone kV_alone dc_alone pm_alone cd_alone ct_alone : Value}
    {od_walked an_walked : Option Addr} {sl_walked : Array (Option Value)} {oc_walked kV_walked dc_walked pm_walked cd_walked ct_walked : Value}
    {od_goes an_goes : Option Addr} {sl_goes : Array (Option Value)} {oc_goes kV_goes dc_goes pm_goes cd_goes ct_goes : Value}
    {od_woven an_woven : Option Addr} {sl_woven : Array (Option Value)} {oc_woven kV_woven dc_woven pm_woven cd_woven ct_woven : Value}
    {od_plain an_plain : Option Addr} {sl_plain : Array (Option Value)} {oc_plain kV_plain dc_plain pm_plain cd_plain ct_plain : Value}
    {od_Loom_twin an_Loom_twin : Option Addr} {sl_Loom_twin : Array (Option Value)} {oc_Loom_twin kV_Loom_twin dc_Loom_twin pm_Loom_twin cd_Loom_twin ct_Loom_twin : Value}
    {od_grown an_grown : Option Addr} {sl_grown : Array (Option Value)} {oc_grown kV_grown dc_grown pm_grown cd_grown ct_grown : Value}
    {od_strange an_strange : Option Addr} {sl_strange : Array (Option Value)} {oc_strange kV_strange dc_strange pm_strange cd_strange ct_strange : Value}
    {od_l_asked an_l_asked : Option Addr} {sl_l_asked : Array (Option Value)} {oc_l_asked kV_l_asked dc_l_asked pm_l_asked cd_l_asked ct_l_asked : Value}
    {od_l_names an_l_names : Option Addr} {sl_l_names : Array (Option Value)} {oc_l_names kV_l_names dc_l_names pm_l_names cd_l_names ct_l_names : Value}
    {od_l_told an_l_told : Option Addr} {sl_l_told : Array (Option Value)} {oc_l_told kV_l_told dc_l_told pm_l_told cd_l_told ct_l_told : Value}
    {od_l_with_guards an_l_with_guards : Option Addr} {sl_l_with_guards : Array (Option Value)} {oc_l_with_guards kV_l_with_guards dc_l_with_guards pm_l_with_guards cd_l_with_guards ct_l_with_guards : Value}
    {od_l_wrong_by an_l_wrong_by : Option Addr} {sl_l_wrong_by : Array (Option Value)} {oc_l_wrong_by kV_l_wrong_by dc_l_wrong_by pm_l_wrong_by cd_l_wrong_by ct_l_wrong_by : Value}
    {od_law an_law : Option Addr} {sl_law : Array (Option Value)} {oc_law kV_law dc_law pm_law cd_law ct_law : Value}
    (z_n_ValueError : PySem.W.nsIn K mainGlobals "ValueError" = some none)
    (z_n_isinstance : PySem.W.nsIn K mainGlobals "isinstance" = some none)
    (z_n_range : PySem.W.nsIn K mainGlobals "range" = some none)
    (z_n_int : PySem.W.nsIn K mainGlobals "int" = some none)
    (z_n_str : PySem.W.nsIn K mainGlobals "str" = some none)
    (z_n_len : PySem.W.nsIn K mainGlobals "len" = some none)
    (z_n_list : PySem.W.nsIn K mainGlobals "list" = some none)
    (z_n_bool : PySem.W.nsIn K mainGlobals "bool" = some none)
    (z_n_tuple : PySem.W.nsIn K mainGlobals "tuple" = some none)
    (z_g_BOXED : PySem.W.nsIn K mainGlobals "BOXED" = some (some (.ref aBOXED)))
    (z_s_BOXED : K.lookup aBOXED = some ⟨.type "tuple", od_BOXED, .seq #[.str "load" t_BOXED_0, .str "plus" t_BOXED_1, .str "store" t_BOXED_2] n_BOXED, sl_BOXED⟩)
    (z_g_GUARDS : PySem.W.nsIn K mainGlobals "GUARDS" = some (some (.ref aGUARDS)))
    (z_s_GUARDS : K.lookup aGUARDS = some ⟨.type "tuple", od_GUARDS, .seq #[.str "take" t_GUARDS_0, .str "free" t_GUARDS_1] n_GUARDS, sl_GUARDS⟩)
    (z_g_MOST_STEPS : PySem.W.nsIn K mainGlobals "MOST_STEPS" = some (some (.int 60 t_MOST_STEPS)))
    (z_g_MOST_SEARCHED : PySem.W.nsIn K mainGlobals "MOST_SEARCHED" = some (some (.int 5 t_MOST_SEARCHED)))
    (z_g_WeaveError : PySem.W.nsIn K mainGlobals "WeaveError" = some (some (.ref eWeaveError)))
    (z_k_WeaveError : PySem.W.keepIn K (.ref eWeaveError) = true)
    (z_x_WeaveError : PySem.W.excIn K eWeaveError [.type "ValueError", .type "Exception", .type "BaseException", .type "object"] "ValueError.__new__" = true)
    (z_b_WeaveError : PySem.W.subIn K (.ref eWeaveError) (.type "BaseException") = some true)
    (z_t_WeaveError : PySem.W.typeIn K (.ref eWeaveError) = some (.type "type"))
    (z_d_WeaveError : PySem.W.hasDictIn K eWeaveError = true)
    (z_g_TooMany : PySem.W.nsIn K mainGlobals "TooMany" = some (some (.ref eTooMany)))
    (z_k_TooMany : PySem.W.keepIn K (.ref eTooMany) = true)
    (z_x_TooMany : PySem.W.excIn K eTooMany [.type "ValueError", .type "Exception", .type "BaseException", .type "object"] "ValueError.__new__" = true)
    (z_b_TooMany : PySem.W.subIn K (.ref eTooMany) (.type "BaseException") = some true)
    (z_t_TooMany : PySem.W.typeIn K (.ref eTooMany) = some (.type "type"))
    (z_d_TooMany : PySem.W.hasDictIn K eTooMany = true)
    (z_g_BadStep : PySem.W.nsIn K mainGlobals "BadStep" = some (some (.ref eBadStep)))
    (z_k_BadStep : PySem.W.keepIn K (.ref eBadStep) = true)
    (z_x_BadStep : PySem.W.excIn K eBadStep [.type "ValueError", .type "Exception", .type "BaseException", .type "object"] "ValueError.__new__" = true)
    (z_b_BadStep : PySem.W.subIn K (.ref eBadStep) (.type "BaseException") = some true)
    (z_t_BadStep : PySem.W.typeIn K (.ref eBadStep) = some (.type "type"))
    (z_d_BadStep : PySem.W.hasDictIn K eBadStep = true)
    (z_g_BadBox : PySem.W.nsIn K mainGlobals "BadBox" = some (some (.ref eBadBox)))
    (z_k_BadBox : PySem.W.keepIn K (.ref eBadBox) = true)
    (z_x_BadBox : PySem.W.excIn K eBadBox [.type "ValueError", .type "Exception", .type "BaseException", .type "object"] "ValueError.__new__" = true)
    (z_b_BadBox : PySem.W.subIn K (.ref eBadBox) (.type "BaseException") = some true)
    (z_t_BadBox : PySem.W.typeIn K (.ref eBadBox) = some (.type "type"))
    (z_d_BadBox : PySem.W.hasDictIn K eBadBox = true)
    (z_g_Again : PySem.W.nsIn K mainGlobals "Again" = some (some (.ref eAgain)))
    (z_k_Again : PySem.W.keepIn K (.ref eAgain) = true)
    (z_x_Again : PySem.W.excIn K eAgain [.type "ValueError", .type "Exception", .type "BaseException", .type "object"] "ValueError.__new__" = true)
    (z_b_Again : PySem.W.subIn K (.ref eAgain) (.type "BaseException") = some true)
    (z_t_Again : PySem.W.typeIn K (.ref eAgain) = some (.type "type"))
    (z_d_Again : PySem.W.hasDictIn K eAgain = true)
    (z_g_NotHeld : PySem.W.nsIn K mainGlobals "NotHeld" = some (some (.ref eNotHeld)))
    (z_k_NotHeld : PySem.W.keepIn K (.ref eNotHeld) = true)
    (z_x_NotHeld : PySem.W.excIn K eNotHeld [.type "ValueError", .type "Exception", .type "BaseException", .type "object"] "ValueError.__new__" = true)
    (z_b_NotHeld : PySem.W.subIn K (.ref eNotHeld) (.type "BaseException") = some true)
    (z_t_NotHeld : PySem.W.typeIn K (.ref eNotHeld) = some (.type "type"))
    (z_d_NotHeld : PySem.W.hasDictIn K eNotHeld = true)
    (z_g_NoTurn : PySem.W.nsIn K mainGlobals "NoTurn" = some (some (.ref eNoTurn)))
    (z_k_NoTurn : PySem.W.keepIn K (.ref eNoTurn) = true)
    (z_x_NoTurn : PySem.W.excIn K eNoTurn [.type "ValueError", .type "Exception", .type "BaseException", .type "object"] "ValueError.__new__" = true)
    (z_b_NoTurn : PySem.W.subIn K (.ref eNoTurn) (.type "BaseException") = some true)
    (z_t_NoTurn : PySem.W.typeIn K (.ref eNoTurn) = some (.type "type"))
    (z_d_NoTurn : PySem.W.hasDictIn K eNoTurn = true)
    (z_g_Waits : PySem.W.nsIn K mainGlobals "Waits" = some (some (.ref eWaits)))
    (z_k_Waits : PySem.W.keepIn K (.ref eWaits) = true)
    (z_x_Waits : PySem.W.excIn K eWaits [.type "ValueError", .type "Exception", .type "BaseException", .type "object"] "ValueError.__new__" = true)
    (z_b_Waits : PySem.W.subIn K (.ref eWaits) (.type "BaseException") = some true)
    (z_t_Waits : PySem.W.typeIn K (.ref eWaits) = some (.type "type"))
    (z_d_Waits : PySem.W.hasDictIn K eWaits = true)
    (z_g_Stuck : PySem.W.nsIn K mainGlobals "Stuck" = some (some (.ref eStuck)))
    (z_k_Stuck : PySem.W.keepIn K (.ref eStuck) = true)
    (z_x_Stuck : PySem.W.excIn K eStuck [.type "ValueError", .type "Exception", .type "BaseException", .type "object"] "ValueError.__new__" = true)
    (z_b_Stuck : PySem.W.subIn K (.ref eStuck) (.type "BaseException") = some true)
    (z_t_Stuck : PySem.W.typeIn K (.ref eStuck) = some (.type "type"))
    (z_d_Stuck : PySem.W.hasDictIn K eStuck = true)
    (z_m_TooMany_Waits : PySem.W.subIn K (.ref eTooMany) (.ref eWaits) = some false)
    (z_m_TooMany_TooMany : PySem.W.subIn K (.ref eTooMany) (.ref eTooMany) = some true)
    (z_m_TooMany_BadStep : PySem.W.subIn K (.ref eTooMany) (.ref eBadStep) = some false)
    (z_m_TooMany_BadBox : PySem.W.subIn K (.ref eTooMany) (.ref eBadBox) = some false)
    (z_m_TooMany_WeaveError : PySem.W.subIn K (.ref eTooMany) (.ref eWeaveError) = some true)
    (z_m_BadStep_Waits : PySem.W.subIn K (.ref eBadStep) (.ref eWaits) = some false)
    (z_m_BadStep_TooMany : PySem.W.subIn K (.ref eBadStep) (.ref eTooMany) = some false)
    (z_m_BadStep_BadStep : PySem.W.subIn K (.ref eBadStep) (.ref eBadStep) = some true)
    (z_m_BadStep_BadBox : PySem.W.subIn K (.ref eBadStep) (.ref eBadBox) = some false)
    (z_m_BadStep_WeaveError : PySem.W.subIn K (.ref eBadStep) (.ref eWeaveError) = some true)
    (z_m_BadBox_Waits : PySem.W.subIn K (.ref eBadBox) (.ref eWaits) = some false)
    (z_m_BadBox_TooMany : PySem.W.subIn K (.ref eBadBox) (.ref eTooMany) = some false)
    (z_m_BadBox_BadStep : PySem.W.subIn K (.ref eBadBox) (.ref eBadStep) = some false)
    (z_m_BadBox_BadBox : PySem.W.subIn K (.ref eBadBox) (.ref eBadBox) = some true)
    (z_m_BadBox_WeaveError : PySem.W.subIn K (.ref eBadBox) (.ref eWeaveError) = some true)
    (z_m_Again_Waits : PySem.W.subIn K (.ref eAgain) (.ref eWaits) = some false)
    (z_m_Again_TooMany : PySem.W.subIn K (.ref eAgain) (.ref eTooMany) = some false)
    (z_m_Again_BadStep : PySem.W.subIn K (.ref eAgain) (.ref eBadStep) = some false)
    (z_m_Again_BadBox : PySem.W.subIn K (.ref eAgain) (.ref eBadBox) = some false)
    (z_m_Again_WeaveError : PySem.W.subIn K (.ref eAgain) (.ref eWeaveError) = some true)
    (z_m_NotHeld_Waits : PySem.W.subIn K (.ref eNotHeld) (.ref eWaits) = some false)
    (z_m_NotHeld_TooMany : PySem.W.subIn K (.ref eNotHeld) (.ref eTooMany) = some false)
    (z_m_NotHeld_BadStep : PySem.W.subIn K (.ref eNotHeld) (.ref eBadStep) = some false)
    (z_m_NotHeld_BadBox : PySem.W.subIn K (.ref eNotHeld) (.ref eBadBox) = some false)
    (z_m_NotHeld_WeaveError : PySem.W.subIn K (.ref eNotHeld) (.ref eWeaveError) = some true)
    (z_m_NoTurn_Waits : PySem.W.subIn K (.ref eNoTurn) (.ref eWaits) = some false)
    (z_m_NoTurn_TooMany : PySem.W.subIn K (.ref eNoTurn) (.ref eTooMany) = some false)
    (z_m_NoTurn_BadStep : PySem.W.subIn K (.ref eNoTurn) (.ref eBadStep) = some false)
    (z_m_NoTurn_BadBox : PySem.W.subIn K (.ref eNoTurn) (.ref eBadBox) = some false)
    (z_m_NoTurn_WeaveError : PySem.W.subIn K (.ref eNoTurn) (.ref eWeaveError) = some true)
    (z_m_Waits_Waits : PySem.W.subIn K (.ref eWaits) (.ref eWaits) = some true)
    (z_m_Waits_TooMany : PySem.W.subIn K (.ref eWaits) (.ref eTooMany) = some false)
    (z_m_Waits_BadStep : PySem.W.subIn K (.ref eWaits) (.ref eBadStep) = some false)
    (z_m_Waits_BadBox : PySem.W.subIn K (.ref eWaits) (.ref eBadBox) = some false)
    (z_m_Waits_WeaveError : PySem.W.subIn K (.ref eWaits) (.ref eWeaveError) = some true)
    (z_m_Stuck_Waits : PySem.W.subIn K (.ref eStuck) (.ref eWaits) = some false)
    (z_m_Stuck_TooMany : PySem.W.subIn K (.ref eStuck) (.ref eTooMany) = some false)
    (z_m_Stuck_BadStep : PySem.W.subIn K (.ref eStuck) (.ref eBadStep) = some false)
    (z_m_Stuck_BadBox : PySem.W.subIn K (.ref eStuck) (.ref eBadBox) = some false)
    (z_m_Stuck_WeaveError : PySem.W.subIn K (.ref eStuck) (.ref eWeaveError) = some true)
    (z_xg_TooMany : PySem.W.findIn K (.ref eTooMany) "__getattribute__" = some (some (.builtin "BaseException.__getattribute__")))
    (z_xk_TooMany : PySem.W.findIn K (.ref eTooMany) "__getattr__" = some none)
    (z_xa_TooMany : PySem.W.findIn K (.ref eTooMany) "__class__" = some (some (.builtin "object.__class__")))
    (z_xn_TooMany : PySem.W.specialIn K (.builtin "object.__class__") "__get__" = some (some (.builtin "getset_descriptor.__get__")))
    (z_xt_TooMany : PySem.W.takesIn K (.builtin "object.__class__") = some true)
    (z_xm_TooMany : PySem.W.mroIn K eTooMany (.type "object") = some true)
    (z_v_TooMany_TooMany : PySem.W.subIn K (.ref eTooMany) (.ref eTooMany) = some true)
    (z_v_TooMany_BadStep : PySem.W.subIn K (.ref eTooMany) (.ref eBadStep) = some false)
    (z_v_TooMany_BadBox : PySem.W.subIn K (.ref eTooMany) (.ref eBadBox) = some false)
    (z_v_TooMany_Again : PySem.W.subIn K (.ref eTooMany) (.ref eAgain) = some false)
    (z_v_TooMany_NotHeld : PySem.W.subIn K (.ref eTooMany) (.ref eNotHeld) = some false)
    (z_v_TooMany_NoTurn : PySem.W.subIn K (.ref eTooMany) (.ref eNoTurn) = some false)
    (z_v_TooMany_Waits : PySem.W.subIn K (.ref eTooMany) (.ref eWaits) = some false)
    (z_v_TooMany_Stuck : PySem.W.subIn K (.ref eTooMany) (.ref eStuck) = some false)
    (z_v_TooMany_ValueError : PySem.W.subIn K (.ref eTooMany) (.type "ValueError") = some true)
    (z_xg_BadStep : PySem.W.findIn K (.ref eBadStep) "__getattribute__" = some (some (.builtin "BaseException.__getattribute__")))
    (z_xk_BadStep : PySem.W.findIn K (.ref eBadStep) "__getattr__" = some none)
    (z_xa_BadStep : PySem.W.findIn K (.ref eBadStep) "__class__" = some (some (.builtin "object.__class__")))
    (z_xn_BadStep : PySem.W.specialIn K (.builtin "object.__class__") "__get__" = some (some (.builtin "getset_descriptor.__get__")))
    (z_xt_BadStep : PySem.W.takesIn K (.builtin "object.__class__") = some true)
    (z_xm_BadStep : PySem.W.mroIn K eBadStep (.type "object") = some true)
    (z_v_BadStep_TooMany : PySem.W.subIn K (.ref eBadStep) (.ref eTooMany) = some false)
    (z_v_BadStep_BadStep : PySem.W.subIn K (.ref eBadStep) (.ref eBadStep) = some true)
    (z_v_BadStep_BadBox : PySem.W.subIn K (.ref eBadStep) (.ref eBadBox) = some false)
    (z_v_BadStep_Again : PySem.W.subIn K (.ref eBadStep) (.ref eAgain) = some false)
    (z_v_BadStep_NotHeld : PySem.W.subIn K (.ref eBadStep) (.ref eNotHeld) = some false)
    (z_v_BadStep_NoTurn : PySem.W.subIn K (.ref eBadStep) (.ref eNoTurn) = some false)
    (z_v_BadStep_Waits : PySem.W.subIn K (.ref eBadStep) (.ref eWaits) = some false)
    (z_v_BadStep_Stuck : PySem.W.subIn K (.ref eBadStep) (.ref eStuck) = some false)
    (z_v_BadStep_ValueError : PySem.W.subIn K (.ref eBadStep) (.type "ValueError") = some true)
    (z_xg_BadBox : PySem.W.findIn K (.ref eBadBox) "__getattribute__" = some (some (.builtin "BaseException.__getattribute__")))
    (z_xk_BadBox : PySem.W.findIn K (.ref eBadBox) "__getattr__" = some none)
    (z_xa_BadBox : PySem.W.findIn K (.ref eBadBox) "__class__" = some (some (.builtin "object.__class__")))
    (z_xn_BadBox : PySem.W.specialIn K (.builtin "object.__class__") "__get__" = some (some (.builtin "getset_descriptor.__get__")))
    (z_xt_BadBox : PySem.W.takesIn K (.builtin "object.__class__") = some true)
    (z_xm_BadBox : PySem.W.mroIn K eBadBox (.type "object") = some true)
    (z_v_BadBox_TooMany : PySem.W.subIn K (.ref eBadBox) (.ref eTooMany) = some false)
    (z_v_BadBox_BadStep : PySem.W.subIn K (.ref eBadBox) (.ref eBadStep) = some false)
    (z_v_BadBox_BadBox : PySem.W.subIn K (.ref eBadBox) (.ref eBadBox) = some true)
    (z_v_BadBox_Again : PySem.W.subIn K (.ref eBadBox) (.ref eAgain) = some false)
    (z_v_BadBox_NotHeld : PySem.W.subIn K (.ref eBadBox) (.ref eNotHeld) = some false)
    (z_v_BadBox_NoTurn : PySem.W.subIn K (.ref eBadBox) (.ref eNoTurn) = some false)
    (z_v_BadBox_Waits : PySem.W.subIn K (.ref eBadBox) (.ref eWaits) = some false)
    (z_v_BadBox_Stuck : PySem.W.subIn K (.ref eBadBox) (.ref eStuck) = some false)
    (z_v_BadBox_ValueError : PySem.W.subIn K (.ref eBadBox) (.type "ValueError") = some true)
    (z_v_Again_Again : PySem.W.subIn K (.ref eAgain) (.ref eAgain) = some true)
    (z_v_NotHeld_NotHeld : PySem.W.subIn K (.ref eNotHeld) (.ref eNotHeld) = some true)
    (z_v_NoTurn_NoTurn : PySem.W.subIn K (.ref eNoTurn) (.ref eNoTurn) = some true)
    (z_v_Waits_Waits : PySem.W.subIn K (.ref eWaits) (.ref eWaits) = some true)
    (z_v_Stuck_Stuck : PySem.W.subIn K (.ref eStuck) (.ref eStuck) = some true)
    (z_g_Loom : PySem.W.nsIn K mainGlobals "Loom" = some (some (.ref C)))
    (z_pg : PySem.W.plainGet K C Str.empty = true)
    (z_hd : PySem.W.hasDictIn K C = true)
    (z_po : PySem.W.plainOver K C = true)
    (z_sa : PySem.W.findIn K (.ref C) "__setattr__" = some (some (.builtin "object.__setattr__")))
    (z_mk : PySem.W.makesIn K C = true)
    (z_kc : PySem.W.keepIn K (.ref C) = true)
    (z_na_rows : PySem.W.findIn K (.ref C) "rows" = some none)
    (z_na_boxes : PySem.W.findIn K (.ref C) "boxes" = some none)
    (z_na_numbers : PySem.W.findIn K (.ref C) "numbers" = some none)
    (z_na_places : PySem.W.findIn K (.ref C) "places" = some none)
    (z_na_holder : PySem.W.findIn K (.ref C) "holder" = some none)
    (za_l_due : PySem.W.nsIn K mainGlobals "_law_due" = some (some (.ref f_l_due)))
    (zl_l_due : K.lookup f_l_due = some ⟨oc_l_due, od_l_due, .func (PySem.W.fnOf "_law_due" "_law_due" (defArgs s_l_due) (defBody s_l_due) (defScope s_l_due) .none kV_l_due dc_l_due pm_l_due an_l_due cd_l_due ct_l_due), sl_l_due⟩)
    (zc_l_due : PySem.W.codeIn K cd_l_due "_law_due" = true)
    (zk_l_due : PySem.W.keepIn K (.ref f_l_due) = true)
    (za_is_whole : PySem.W.nsIn K mainGlobals "is_whole" = some (some (.ref f_is_whole)))
    (zl_is_whole : K.lookup f_is_whole = some ⟨oc_is_whole, od_is_whole, .func (PySem.W.fnOf "is_whole" "is_whole" (defArgs s_is_whole) (defBody s_is_whole) (defScope s_is_whole) .none kV_is_whole dc_is_whole pm_is_whole an_is_whole cd_is_whole ct_is_whole), sl_is_whole⟩)
    (zc_is_whole : PySem.W.codeIn K cd_is_whole "is_whole" = true)
    (zk_is_whole : PySem.W.keepIn K (.ref f_is_whole) = true)
    (za_is_step : PySem.W.nsIn K mainGlobals "is_step" = some (some (.ref f_is_step)))
    (zl_is_step : K.lookup f_is_step = some ⟨oc_is_step, od_is_step, .func (PySem.W.fnOf "is_step" "is_step" (defArgs s_is_step) (defBody s_is_step) (defScope s_is_step) .none kV_is_step dc_is_step pm_is_step an_is_step cd_is_step ct_is_step), sl_is_step⟩)
    (zc_is_step : PySem.W.codeIn K cd_is_step "is_step" = true)
    (zk_is_step : PySem.W.keepIn K (.ref f_is_step) = true)
    (za_need_row : PySem.W.nsIn K mainGlobals "need_row" = some (some (.ref f_need_row)))
    (zl_need_row : K.lookup f_need_row = some ⟨oc_need_row, od_need_row, .func (PySem.W.fnOf "need_row" "need_row" (defArgs s_need_row) (defBody s_need_row) (defScope s_need_row) .none kV_need_row dc_need_row pm_need_row an_need_row cd_need_row ct_need_row), sl_need_row⟩)
    (zc_need_row : PySem.W.codeIn K cd_need_row "need_row" = true)
    (zk_need_row : PySem.W.keepIn K (.ref f_need_row) = true)
    (za_Loom_init : PySem.W.findIn K (.ref C) "__init__" = some (some (.ref f_Loom_init)))
    (zi_Loom_init : PySem.W.isFn K (.ref f_Loom_init) = true)
    (zl_Loom_init : K.lookup f_Loom_init = some ⟨oc_Loom_init, od_Loom_init, .func (PySem.W.fnOf "__init__" "Loom.__init__" (defArgs s_Loom_init) (defBody s_Loom_init) (defScope s_Loom_init) .none kV_Loom_init dc_Loom_init pm_Loom_init an_Loom_init cd_Loom_init ct_Loom_init), sl_Loom_init⟩)
    (zc_Loom_init : PySem.W.codeIn K cd_Loom_init "Loom.__init__" = true)
    (zk_Loom_init : PySem.W.keepIn K (.ref f_Loom_init) = true)
    (za_l_cell_at : PySem.W.nsIn K mainGlobals "_law_cell_at" = some (some (.ref f_l_cell_at)))
    (zl_l_cell_at : K.lookup f_l_cell_at = some ⟨oc_l_cell_at, od_l_cell_at, .func (PySem.W.fnOf "_law_cell_at" "_law_cell_at" (defArgs s_l_cell_at) (defBody s_l_cell_at) (defScope s_l_cell_at) .none kV_l_cell_at dc_l_cell_at pm_l_cell_at an_l_cell_at cd_l_cell_at ct_l_cell_at), sl_l_cell_at⟩)
    (zc_l_cell_at : PySem.W.codeIn K cd_l_cell_at "_law_cell_at" = true)
    (zk_l_cell_at : PySem.W.keepIn K (.ref f_l_cell_at) = true)
    (za_l_put : PySem.W.nsIn K mainGlobals "_law_put" = some (some (.ref f_l_put)))
    (zl_l_put : K.lookup f_l_put = some ⟨oc_l_put, od_l_put, .func (PySem.W.fnOf "_law_put" "_law_put" (defArgs s_l_put) (defBody s_l_put) (defScope s_l_put) .none kV_l_put dc_l_put pm_l_put an_l_put cd_l_put ct_l_put), sl_l_put⟩)
    (zc_l_put : PySem.W.codeIn K cd_l_put "_law_put" = true)
    (zk_l_put : PySem.W.keepIn K (.ref f_l_put) = true)
    (za_l_row_by : PySem.W.nsIn K mainGlobals "_law_row_by" = some (some (.ref f_l_row_by)))
    (zl_l_row_by : K.lookup f_l_row_by = some ⟨oc_l_row_by, od_l_row_by, .func (PySem.W.fnOf "_law_row_by" "_law_row_by" (defArgs s_l_row_by) (defBody s_l_row_by) (defScope s_l_row_by) .none kV_l_row_by dc_l_row_by pm_l_row_by an_l_row_by cd_l_row_by ct_l_row_by), sl_l_row_by⟩)
    (zc_l_row_by : PySem.W.codeIn K cd_l_row_by "_law_row_by" = true)
    (zk_l_row_by : PySem.W.keepIn K (.ref f_l_row_by) = true)
    (za_Loom_over : PySem.W.findIn K (.ref C) "over" = some (some (.ref f_Loom_over)))
    (zi_Loom_over : PySem.W.isFn K (.ref f_Loom_over) = true)
    (zl_Loom_over : K.lookup f_Loom_over = some ⟨oc_Loom_over, od_Loom_over, .func (PySem.W.fnOf "over" "Loom.over" (defArgs s_Loom_over) (defBody s_Loom_over) (defScope s_Loom_over) .none kV_Loom_over dc_Loom_over pm_Loom_over an_Loom_over cd_Loom_over ct_Loom_over), sl_Loom_over⟩)
    (zc_Loom_over : PySem.W.codeIn K cd_Loom_over "Loom.over" = true)
    (zk_Loom_over : PySem.W.keepIn K (.ref f_Loom_over) = true)
    (za_Loom_waits : PySem.W.findIn K (.ref C) "waits" = some (some (.ref f_Loom_waits)))
    (zi_Loom_waits : PySem.W.isFn K (.ref f_Loom_waits) = true)
    (zl_Loom_waits : K.lookup f_Loom_waits = some ⟨oc_Loom_waits, od_Loom_waits, .func (PySem.W.fnOf "waits" "Loom.waits" (defArgs s_Loom_waits) (defBody s_Loom_waits) (defScope s_Loom_waits) .none kV_Loom_waits dc_Loom_waits pm_Loom_waits an_Loom_waits cd_Loom_waits ct_Loom_waits), sl_Loom_waits⟩)
    (zc_Loom_waits : PySem.W.codeIn K cd_Loom_waits "Loom.waits" = true)
    (zk_Loom_waits : PySem.W.keepIn K (.ref f_Loom_waits) = true)
    (za_Loom_guard : PySem.W.findIn K (.ref C) "guard" = some (some (.ref f_Loom_guard)))
    (zi_Loom_guard : PySem.W.isFn K (.ref f_Loom_guard) = true)
    (zl_Loom_guard : K.lookup f_Loom_guard = some ⟨oc_Loom_guard, od_Loom_guard, .func (PySem.W.fnOf "guard" "Loom.guard" (defArgs s_Loom_guard) (defBody s_Loom_guard) (defScope s_Loom_guard) .none kV_Loom_guard dc_Loom_guard pm_Loom_guard an_Loom_guard cd_Loom_guard ct_Loom_guard), sl_Loom_guard⟩)
    (zc_Loom_guard : PySem.W.codeIn K cd_Loom_guard "Loom.guard" = true)
    (zk_Loom_guard : PySem.W.keepIn K (.ref f_Loom_guard) = true)
    (za_Loom_touch : PySem.W.findIn K (.ref C) "touch" = some (some (.ref f_Loom_touch)))
    (zi_Loom_touch : PySem.W.isFn K (.ref f_Loom_touch) = true)
    (zl_Loom_touch : K.lookup f_Loom_touch = some ⟨oc_Loom_touch, od_Loom_touch, .func (PySem.W.fnOf "touch" "Loom.touch" (defArgs s_Loom_touch) (defBody s_Loom_touch) (defScope s_Loom_touch) .none kV_Loom_touch dc_Loom_touch pm_Loom_touch an_Loom_touch cd_Loom_touch ct_Loom_touch), sl_Loom_touch⟩)
    (zc_Loom_touch : PySem.W.codeIn K cd_Loom_touch "Loom.touch" = true)
    (zk_Loom_touch : PySem.W.keepIn K (.ref f_Loom_touch) = true)
    (za_Loom_go : PySem.W.findIn K (.ref C) "go" = some (some (.ref f_Loom_go)))
    (zi_Loom_go : PySem.W.isFn K (.ref f_Loom_go) = true)
    (zl_Loom_go : K.lookup f_Loom_go = some ⟨oc_Loom_go, od_Loom_go, .func (PySem.W.fnOf "go" "Loom.go" (defArgs s_Loom_go) (defBody s_Loom_go) (defScope s_Loom_go) .none kV_Loom_go dc_Loom_go pm_Loom_go an_Loom_go cd_Loom_go ct_Loom_go), sl_Loom_go⟩)
    (zc_Loom_go : PySem.W.codeIn K cd_Loom_go "Loom.go" = true)
    (zk_Loom_go : PySem.W.keepIn K (.ref f_Loom_go) = true)
    (za_alone : PySem.W.nsIn K mainGlobals "alone" = some (some (.ref f_alone)))
    (zl_alone : K.lookup f_alone = some ⟨oc_alone, od_alone, .func (PySem.W.fnOf "alone" "alone" (defArgs s_alone) (defBody s_alone) (defScope s_alone) .none kV_alone dc_alone pm_alone an_alone cd_alone ct_alone), sl_alone⟩)
    (zc_alone : PySem.W.codeIn K cd_alone "alone" = true)
    (zk_alone : PySem.W.keepIn K (.ref f_alone) = true)
    (za_walked : PySem.W.nsIn K mainGlobals "walked" = some (some (.ref f_walked)))
    (zl_walked : K.lookup f_walked = some ⟨oc_walked, od_walked, .func (PySem.W.fnOf "walked" "walked" (defArgs s_walked) (defBody s_walked) (defScope s_walked) .none kV_walked dc_walked pm_walked an_walked cd_walked ct_walked), sl_walked⟩)
    (zc_walked : PySem.W.codeIn K cd_walked "walked" = true)
    (zk_walked : PySem.W.keepIn K (.ref f_walked) = true)
    (za_goes : PySem.W.nsIn K mainGlobals "goes" = some (some (.ref f_goes)))
    (zl_goes : K.lookup f_goes = some ⟨oc_goes, od_goes, .func (PySem.W.fnOf "goes" "goes" (defArgs s_goes) (defBody s_goes) (defScope s_goes) .none kV_goes dc_goes pm_goes an_goes cd_goes ct_goes), sl_goes⟩)
    (zc_goes : PySem.W.codeIn K cd_goes "goes" = true)
    (zk_goes : PySem.W.keepIn K (.ref f_goes) = true)
    (za_woven : PySem.W.nsIn K mainGlobals "woven" = some (some (.ref f_woven)))
    (zl_woven : K.lookup f_woven = some ⟨oc_woven, od_woven, .func (PySem.W.fnOf "woven" "woven" (defArgs s_woven) (defBody s_woven) (defScope s_woven) .none kV_woven dc_woven pm_woven an_woven cd_woven ct_woven), sl_woven⟩)
    (zc_woven : PySem.W.codeIn K cd_woven "woven" = true)
    (zk_woven : PySem.W.keepIn K (.ref f_woven) = true)
    (za_plain : PySem.W.nsIn K mainGlobals "plain" = some (some (.ref f_plain)))
    (zl_plain : K.lookup f_plain = some ⟨oc_plain, od_plain, .func (PySem.W.fnOf "plain" "plain" (defArgs s_plain) (defBody s_plain) (defScope s_plain) .none kV_plain dc_plain pm_plain an_plain cd_plain ct_plain), sl_plain⟩)
    (zc_plain : PySem.W.codeIn K cd_plain "plain" = true)
    (zk_plain : PySem.W.keepIn K (.ref f_plain) = true)
    (za_Loom_twin : PySem.W.findIn K (.ref C) "twin" = some (some (.ref f_Loom_twin)))
    (zi_Loom_twin : PySem.W.isFn K (.ref f_Loom_twin) = true)
    (zl_Loom_twin : K.lookup f_Loom_twin = some ⟨oc_Loom_twin, od_Loom_twin, .func (PySem.W.fnOf "twin" "Loom.twin" (defArgs s_Loom_twin) (defBody s_Loom_twin) (defScope s_Loom_twin) .none kV_Loom_twin dc_Loom_twin pm_Loom_twin an_Loom_twin cd_Loom_twin ct_Loom_twin), sl_Loom_twin⟩)
    (zc_Loom_twin : PySem.W.codeIn K cd_Loom_twin "Loom.twin" = true)
    (zk_Loom_twin : PySem.W.keepIn K (.ref f_Loom_twin) = true)
    (za_grown : PySem.W.nsIn K mainGlobals "grown" = some (some (.ref f_grown)))
    (zl_grown : K.lookup f_grown = some ⟨oc_grown, od_grown, .func (PySem.W.fnOf "grown" "grown" (defArgs s_grown) (defBody s_grown) (defScope s_grown) .none kV_grown dc_grown pm_grown an_grown cd_grown ct_grown), sl_grown⟩)
    (zc_grown : PySem.W.codeIn K cd_grown "grown" = true)
    (zk_grown : PySem.W.keepIn K (.ref f_grown) = true)
    (za_strange : PySem.W.nsIn K mainGlobals "strange" = some (some (.ref f_strange)))
    (zl_strange : K.lookup f_strange = some ⟨oc_strange, od_strange, .func (PySem.W.fnOf "strange" "strange" (defArgs s_strange) (defBody s_strange) (defScope s_strange) .none kV_strange dc_strange pm_strange an_strange cd_strange ct_strange), sl_strange⟩)
    (zc_strange : PySem.W.codeIn K cd_strange "strange" = true)
    (zk_strange : PySem.W.keepIn K (.ref f_strange) = true)
    (za_l_asked : PySem.W.nsIn K mainGlobals "_law_asked" = some (some (.ref f_l_asked)))
    (zl_l_asked : K.lookup f_l_asked = some ⟨oc_l_asked, od_l_asked, .func (PySem.W.fnOf "_law_asked" "_law_asked" (defArgs s_l_asked) (defBody s_l_asked) (defScope s_l_asked) .none kV_l_asked dc_l_asked pm_l_asked an_l_asked cd_l_asked ct_l_asked), sl_l_asked⟩)
    (zc_l_asked : PySem.W.codeIn K cd_l_asked "_law_asked" = true)
    (zk_l_asked : PySem.W.keepIn K (.ref f_l_asked) = true)
    (za_l_names : PySem.W.nsIn K mainGlobals "_law_names" = some (some (.ref f_l_names)))
    (zl_l_names : K.lookup f_l_names = some ⟨oc_l_names, od_l_names, .func (PySem.W.fnOf "_law_names" "_law_names" (defArgs s_l_names) (defBody s_l_names) (defScope s_l_names) .none kV_l_names dc_l_names pm_l_names an_l_names cd_l_names ct_l_names), sl_l_names⟩)
    (zc_l_names : PySem.W.codeIn K cd_l_names "_law_names" = true)
    (zk_l_names : PySem.W.keepIn K (.ref f_l_names) = true)
    (za_l_told : PySem.W.nsIn K mainGlobals "_law_told" = some (some (.ref f_l_told)))
    (zl_l_told : K.lookup f_l_told = some ⟨oc_l_told, od_l_told, .func (PySem.W.fnOf "_law_told" "_law_told" (defArgs s_l_told) (defBody s_l_told) (defScope s_l_told) .none kV_l_told dc_l_told pm_l_told an_l_told cd_l_told ct_l_told), sl_l_told⟩)
    (zc_l_told : PySem.W.codeIn K cd_l_told "_law_told" = true)
    (zk_l_told : PySem.W.keepIn K (.ref f_l_told) = true)
    (za_l_with_guards : PySem.W.nsIn K mainGlobals "_law_with_guards" = some (some (.ref f_l_with_guards)))
    (zl_l_with_guards : K.lookup f_l_with_guards = some ⟨oc_l_with_guards, od_l_with_guards, .func (PySem.W.fnOf "_law_with_guards" "_law_with_guards" (defArgs s_l_with_guards) (defBody s_l_with_guards) (defScope s_l_with_guards) .none kV_l_with_guards dc_l_with_guards pm_l_with_guards an_l_with_guards cd_l_with_guards ct_l_with_guards), sl_l_with_guards⟩)
    (zc_l_with_guards : PySem.W.codeIn K cd_l_with_guards "_law_with_guards" = true)
    (zk_l_with_guards : PySem.W.keepIn K (.ref f_l_with_guards) = true)
    (za_l_wrong_by : PySem.W.nsIn K mainGlobals "_law_wrong_by" = some (some (.ref f_l_wrong_by)))
    (zl_l_wrong_by : K.lookup f_l_wrong_by = some ⟨oc_l_wrong_by, od_l_wrong_by, .func (PySem.W.fnOf "_law_wrong_by" "_law_wrong_by" (defArgs s_l_wrong_by) (defBody s_l_wrong_by) (defScope s_l_wrong_by) .none kV_l_wrong_by dc_l_wrong_by pm_l_wrong_by an_l_wrong_by cd_l_wrong_by ct_l_wrong_by), sl_l_wrong_by⟩)
    (zc_l_wrong_by : PySem.W.codeIn K cd_l_wrong_by "_law_wrong_by" = true)
    (zk_l_wrong_by : PySem.W.keepIn K (.ref f_l_wrong_by) = true)
    (za_law : PySem.W.nsIn K mainGlobals "law" = some (some (.ref f_law)))
    (zl_law : K.lookup f_law = some ⟨oc_law, od_law, .func (PySem.W.fnOf "law" "law" (defArgs s_law) (defBody s_law) (defScope s_law) .none kV_law dc_law pm_law an_law cd_law ct_law), sl_law⟩)
    (zc_law : PySem.W.codeIn K cd_law "law" = true)
    (zk_law : PySem.W.keepIn K (.ref f_law) = true) :
    ∃ fd : FuncData, (∀ (s : Shared) (v : Value), BindsTo s fd ⟨[v], []⟩ [("_law_script", v)]) ∧ ∀ base : Heap, K.In base → base.Ns mainGlobals mg → FnOk l.prog w K mg base (L2.CX l.prog w) 11 fa fd ["_law_script"] (spLaw K) := by
  have e := hfa.symm.trans (PySem.W.mg_of X G za_law)
  cases e
  have T : Txt K mg aBOXED aGUARDS eWeaveError eTooMany eBadStep eBadBox eAgain eNotHeld eNoTurn eWaits eStuck C := ⟨(PySem.W.mg_none_of X G z_n_ValueError), (PySem.W.mg_none_of X G z_n_isinstance), (PySem.W.mg_none_of X G z_n_range), (PySem.W.mg_none_of X G z_n_int), (PySem.W.mg_none_of X G z_n_str), (PySem.W.mg_none_of X G z_n_len), (PySem.W.mg_none_of X G z_n_list), (PySem.W.mg_none_of X G z_n_bool), (PySem.W.mg_none_of X G z_n_tuple), (PySem.W.mg_of X G z_g_BOXED), (tup_of z_s_BOXED (by show 3 ≤ sizeLine; decide) (.cons ⟨_, rfl⟩ (.cons ⟨_, rfl⟩ (.cons ⟨_, rfl⟩ (.nil))))), (PySem.W.mg_of X G z_g_GUARDS), (tup_of z_s_GUARDS (by show 2 ≤ sizeLine; decide) (.cons ⟨_, rfl⟩ (.cons ⟨_, rfl⟩ (.nil)))), ⟨_, PySem.W.mg_of X G z_g_MOST_STEPS⟩, ⟨_, PySem.W.mg_of X G z_g_MOST_SEARCHED⟩, (PySem.W.mg_of X G z_g_WeaveError), (z_k_WeaveError), (z_x_WeaveError), (z_b_WeaveError), (z_t_WeaveError), (z_d_WeaveError), (PySem.W.mg_of X G z_g_TooMany), (z_k_TooMany), (z_x_TooMany), (z_b_TooMany), (z_t_TooMany), (z_d_TooMany), (PySem.W.mg_of X G z_g_BadStep), (z_k_BadStep), (z_x_BadStep), (z_b_BadStep), (z_t_BadStep), (z_d_BadStep), (PySem.W.mg_of X G z_g_BadBox), (z_k_BadBox), (z_x_BadBox), (z_b_BadBox), (z_t_BadBox), (z_d_BadBox), (PySem.W.mg_of X G z_g_Again), (z_k_Again), (z_x_Again), (z_b_Again), (z_t_Again), (z_d_Again), (PySem.W.mg_of X G z_g_NotHeld), (z_k_NotHeld), (z_x_NotHeld), (z_b_NotHeld), (z_t_NotHeld), (z_d_NotHeld), (PySem.W.mg_of X G z_g_NoTurn), (z_k_NoTurn), (z_x_NoTurn), (z_b_NoTurn), (z_t_NoTurn), (z_d_NoTurn), (PySem.W.mg_of X G z_g_Waits), (z_k_Waits), (z_x_Waits), (z_b_Waits), (z_t_Waits), (z_d_Waits), (PySem.W.mg_of X G z_g_Stuck), (z_k_Stuck), (z_x_Stuck), (z_b_Stuck), (z_t_Stuck), (z_d_Stuck), (PySem.W.exm_ref z_b_Waits z_d_Waits z_t_Waits z_m_TooMany_Waits), (PySem.W.exm_ref z_b_TooMany z_d_TooMany z_t_TooMany z_m_TooMany_TooMany), (PySem.W.exm_ref z_b_BadStep z_d_BadStep z_t_BadStep z_m_TooMany_BadStep), (PySem.W.exm_ref z_b_BadBox z_d_BadBox z_t_BadBox z_m_TooMany_BadBox), (PySem.W.exm_ref z_b_WeaveError z_d_WeaveError z_t_WeaveError z_m_TooMany_WeaveError), (PySem.W.exm_ref z_b_Waits z_d_Waits z_t_Waits z_m_BadStep_Waits), (PySem.W.exm_ref z_b_TooMany z_d_TooMany z_t_TooMany z_m_BadStep_TooMany), (PySem.W.exm_ref z_b_BadStep z_d_BadStep z_t_BadStep z_m_BadStep_BadStep), (PySem.W.exm_ref z_b_BadBox z_d_BadBox z_t_BadBox z_m_BadStep_BadBox), (PySem.W.exm_ref z_b_WeaveError z_d_WeaveError z_t_WeaveError z_m_BadStep_WeaveError), (PySem.W.exm_ref z_b_Waits z_d_Waits z_t_Waits z_m_BadBox_Waits), (PySem.W.exm_ref z_b_TooMany z_d_TooMany z_t_TooMany z_m_BadBox_TooMany), (PySem.W.exm_ref z_b_BadStep z_d_BadStep z_t_BadStep z_m_BadBox_BadStep), (PySem.W.exm_ref z_b_BadBox z_d_BadBox z_t_BadBox z_m_BadBox_BadBox), (PySem.W.exm_ref z_b_WeaveError z_d_WeaveError z_t_WeaveError z_m_BadBox_WeaveError), (PySem.W.exm_ref z_b_Waits z_d_Waits z_t_Waits z_m_Again_Waits), (PySem.W.exm_ref z_b_TooMany z_d_TooMany z_t_TooMany z_m_Again_TooMany), (PySem.W.exm_ref z_b_BadStep z_d_BadStep z_t_BadStep z_m_Again_BadStep), (PySem.W.exm_ref z_b_BadBox z_d_BadBox z_t_BadBox z_m_Again_BadBox), (PySem.W.exm_ref z_b_WeaveError z_d_WeaveError z_t_WeaveError z_m_Again_WeaveError), (PySem.W.exm_ref z_b_Waits z_d_Waits z_t_Waits z_m_NotHeld_Waits), (PySem.W.exm_ref z_b_TooMany z_d_TooMany z_t_TooMany z_m_NotHeld_TooMany), (PySem.W.exm_ref z_b_BadStep z_d_BadStep z_t_BadStep z_m_NotHeld_BadStep), (PySem.W.exm_ref z_b_BadBox z_d_BadBox z_t_BadBox z_m_NotHeld_BadBox), (PySem.W.exm_ref z_b_WeaveError z_d_WeaveError z_t_WeaveError z_m_NotHeld_WeaveError), (PySem.W.exm_ref z_b_Waits z_d_Waits z_t_Waits z_m_NoTurn_Waits), (PySem.W.exm_ref z_b_TooMany z_d_TooMany z_t_TooMany z_m_NoTurn_TooMany), (PySem.W.exm_ref z_b_BadStep z_d_BadStep z_t_BadStep z_m_NoTurn_BadStep), (PySem.W.exm_ref z_b_BadBox z_d_BadBox z_t_BadBox z_m_NoTurn_BadBox), (PySem.W.exm_ref z_b_WeaveError z_d_WeaveError z_t_WeaveError z_m_NoTurn_WeaveError), (PySem.W.exm_ref z_b_Waits z_d_Waits z_t_Waits z_m_Waits_Waits), (PySem.W.exm_ref z_b_TooMany z_d_TooMany z_t_TooMany z_m_Waits_TooMany), (PySem.W.exm_ref z_b_BadStep z_d_BadStep z_t_BadStep z_m_Waits_BadStep), (PySem.W.exm_ref z_b_BadBox z_d_BadBox z_t_BadBox z_m_Waits_BadBox), (PySem.W.exm_ref z_b_WeaveError z_d_WeaveError z_t_WeaveError z_m_Waits_WeaveError), (PySem.W.exm_ref z_b_Waits z_d_Waits z_t_Waits z_m_Stuck_Waits), (PySem.W.exm_ref z_b_TooMany z_d_TooMany z_t_TooMany z_m_Stuck_TooMany), (PySem.W.exm_ref z_b_BadStep z_d_BadStep z_t_BadStep z_m_Stuck_BadStep), (PySem.W.exm_ref z_b_BadBox z_d_BadBox z_t_BadBox z_m_Stuck_BadBox), (PySem.W.exm_ref z_b_WeaveError z_d_WeaveError z_t_WeaveError z_m_Stuck_WeaveError), (⟨z_xg_TooMany, z_xk_TooMany, z_b_TooMany, z_d_TooMany, z_xa_TooMany, z_xn_TooMany, z_xt_TooMany, z_xm_TooMany⟩), (kit_OC z_d_TooMany z_t_TooMany z_v_TooMany_TooMany z_v_TooMany_TooMany), (kit_OC z_d_BadStep z_t_BadStep z_v_BadStep_BadStep z_v_TooMany_BadStep), (kit_OC z_d_BadBox z_t_BadBox z_v_BadBox_BadBox z_v_TooMany_BadBox), (kit_OC z_d_Again z_t_Again z_v_Again_Again z_v_TooMany_Again), (kit_OC z_d_NotHeld z_t_NotHeld z_v_NotHeld_NotHeld z_v_TooMany_NotHeld), (kit_OC z_d_NoTurn z_t_NoTurn z_v_NoTurn_NoTurn z_v_TooMany_NoTurn), (kit_OC z_d_Waits z_t_Waits z_v_Waits_Waits z_v_TooMany_Waits), (kit_OC z_d_Stuck z_t_Stuck z_v_Stuck_Stuck z_v_TooMany_Stuck), (kit_VE z_v_TooMany_ValueError), (⟨z_xg_BadStep, z_xk_BadStep, z_b_BadStep, z_d_BadStep, z_xa_BadStep, z_xn_BadStep, z_xt_BadStep, z_xm_BadStep⟩), (kit_OC z_d_TooMany z_t_TooMany z_v_TooMany_TooMany z_v_BadStep_TooMany), (kit_OC z_d_BadStep z_t_BadStep z_v_BadStep_BadStep z_v_BadStep_BadStep), (kit_OC z_d_BadBox z_t_BadBox z_v_BadBox_BadBox z_v_BadStep_BadBox), (kit_OC z_d_Again z_t_Again z_v_Again_Again z_v_BadStep_Again), (kit_OC z_d_NotHeld z_t_NotHeld z_v_NotHeld_NotHeld z_v_BadStep_NotHeld), (kit_OC z_d_NoTurn z_t_NoTurn z_v_NoTurn_NoTurn z_v_BadStep_NoTurn), (kit_OC z_d_Waits z_t_Waits z_v_Waits_Waits z_v_BadStep_Waits), (kit_OC z_d_Stuck z_t_Stuck z_v_Stuck_Stuck z_v_BadStep_Stuck), (kit_VE z_v_BadStep_ValueError), (⟨z_xg_BadBox, z_xk_BadBox, z_b_BadBox, z_d_BadBox, z_xa_BadBox, z_xn_BadBox, z_xt_BadBox, z_xm_BadBox⟩), (kit_OC z_d_TooMany z_t_TooMany z_v_TooMany_TooMany z_v_BadBox_TooMany), (kit_OC z_d_BadStep z_t_BadStep z_v_BadStep_BadStep z_v_BadBox_BadStep), (kit_OC z_d_BadBox z_t_BadBox z_v_BadBox_BadBox z_v_BadBox_BadBox), (kit_OC z_d_Again z_t_Again z_v_Again_Again z_v_BadBox_Again), (kit_OC z_d_NotHeld z_t_NotHeld z_v_NotHeld_NotHeld z_v_BadBox_NotHeld), (kit_OC z_d_NoTurn z_t_NoTurn z_v_NoTurn_NoTurn z_v_BadBox_NoTurn), (kit_OC z_d_Waits z_t_Waits z_v_Waits_Waits z_v_BadBox_Waits), (kit_OC z_d_Stuck z_t_Stuck z_v_Stuck_Stuck z_v_BadBox_Stuck), (kit_VE z_v_BadBox_ValueError), (kit_OC z_d_Again z_t_Again z_v_Again_Again z_v_Again_Again), (kit_OC z_d_NotHeld z_t_NotHeld z_v_NotHeld_NotHeld z_v_NotHeld_NotHeld), (kit_OC z_d_NoTurn z_t_NoTurn z_v_NoTurn_NoTurn z_v_NoTurn_NoTurn), (kit_OC z_d_Waits z_t_Waits z_v_Waits_Waits z_v_Waits_Waits), (kit_OC z_d_Stuck z_t_Stuck z_v_Stuck_Stuck z_v_Stuck_Stuck), (PySem.W.mg_of X G z_g_Loom), (⟨z_pg, z_hd, z_po, z_sa⟩), (z_na_rows), (z_na_boxes), (z_na_numbers), (z_na_places), (z_na_holder)⟩
  have F_l_due := fun_mk (st := s_l_due) zl_l_due zc_l_due zk_l_due
  have b_l_due := F_l_due.binds (ps := ["_law_row", "_law_many"]) fun _ _ _ _ _ _ us hl => match us, hl with | [_, _], _ => rfl
  have F_is_whole := fun_mk (st := s_is_whole) zl_is_whole zc_is_whole zk_is_whole
  have b_is_whole := F_is_whole.binds (ps := ["thing"]) fun _ _ _ _ _ _ us hl => match us, hl with | [_], _ => rfl
  have F_is_step := fun_mk (st := s_is_step) zl_is_step zc_is_step zk_is_step
  have b_is_step := F_is_step.binds (ps := ["thing"]) fun _ _ _ _ _ _ us hl => match us, hl with | [_], _ => rfl
  have F_need_row := fun_mk (st := s_need_row) zl_need_row zc_need_row zk_need_row
  have b_need_row := F_need_row.binds (ps := ["row", "many"]) fun _ _ _ _ _ _ us hl => match us, hl with | [_, _], _ => rfl
  have F_Loom_init := fun_mk (st := s_Loom_init) zl_Loom_init zc_Loom_init zk_Loom_init
  have b_Loom_init := F_Loom_init.binds (ps := ["self", "ones", "others", "boxes"]) fun _ _ _ _ _ _ us hl => match us, hl with | [_, _, _, _], _ => rfl
  have F_l_cell_at := fun_mk (st := s_l_cell_at) zl_l_cell_at zc_l_cell_at zk_l_cell_at
  have b_l_cell_at := F_l_cell_at.binds (ps := ["_law_script", "_law_k"]) fun _ _ _ _ _ _ us hl => match us, hl with | [_, _], _ => rfl
  have F_l_put := fun_mk (st := s_l_put) zl_l_put zc_l_put zk_l_put
  have b_l_put := F_l_put.binds (ps := ["_law_row", "_law_at", "_law_thing"]) fun _ _ _ _ _ _ us hl => match us, hl with | [_, _, _], _ => rfl
  have F_l_row_by := fun_mk (st := s_l_row_by) zl_l_row_by zc_l_row_by zk_l_row_by
  have b_l_row_by := F_l_row_by.binds (ps := ["_law_cell", "_law_many"]) fun _ _ _ _ _ _ us hl => match us, hl with | [_, _], _ => rfl
  have F_Loom_over := fun_mk (st := s_Loom_over) zl_Loom_over zc_Loom_over zk_Loom_over
  have b_Loom_over := F_Loom_over.binds (ps := ["self", "hand"]) fun _ _ _ _ _ _ us hl => match us, hl with | [_, _], _ => rfl
  have F_Loom_waits := fun_mk (st := s_Loom_waits) zl_Loom_waits zc_Loom_waits zk_Loom_waits
  have b_Loom_waits := F_Loom_waits.binds (ps := ["self", "hand"]) fun _ _ _ _ _ _ us hl => match us, hl with | [_, _], _ => rfl
  have F_Loom_guard := fun_mk (st := s_Loom_guard) zl_Loom_guard zc_Loom_guard zk_Loom_guard
  have b_Loom_guard := F_Loom_guard.binds (ps := ["self", "hand", "word"]) fun _ _ _ _ _ _ us hl => match us, hl with | [_, _, _], _ => rfl
  have F_Loom_touch := fun_mk (st := s_Loom_touch) zl_Loom_touch zc_Loom_touch zk_Loom_touch
  have b_Loom_touch := F_Loom_touch.binds (ps := ["self", "hand", "word", "box"]) fun _ _ _ _ _ _ us hl => match us, hl with | [_, _, _, _], _ => rfl
  have F_Loom_go := fun_mk (st := s_Loom_go) zl_Loom_go zc_Loom_go zk_Loom_go
  have b_Loom_go := F_Loom_go.binds (ps := ["self", "hand"]) fun _ _ _ _ _ _ us hl => match us, hl with | [_, _], _ => rfl
  have F_alone := fun_mk (st := s_alone) zl_alone zc_alone zk_alone
  have b_alone := F_alone.binds (ps := ["row", "boxes"]) fun _ _ _ _ _ _ us hl => match us, hl with | [_, _], _ => rfl
  have F_walked := fun_mk (st := s_walked) zl_walked zc_walked zk_walked
  have b_walked := F_walked.binds (ps := ["ones", "others", "boxes", "order"]) fun _ _ _ _ _ _ us hl => match us, hl with | [_, _, _, _], _ => rfl
  have F_goes := fun_mk (st := s_goes) zl_goes zc_goes zk_goes
  have b_goes := F_goes.binds (ps := ["loom", "hand"]) fun _ _ _ _ _ _ us hl => match us, hl with | [_, _], _ => rfl
  have F_woven := fun_mk (st := s_woven) zl_woven zc_woven zk_woven
  have b_woven := F_woven.binds (ps := ["ones", "others", "boxes", "turns"]) fun _ _ _ _ _ _ us hl => match us, hl with | [_, _, _, _], _ => rfl
  have F_plain := fun_mk (st := s_plain) zl_plain zc_plain zk_plain
  have b_plain := F_plain.binds (ps := ["ones", "others", "boxes", "order"]) fun _ _ _ _ _ _ us hl => match us, hl with | [_, _, _, _], _ => rfl
  have F_Loom_twin := fun_mk (st := s_Loom_twin) zl_Loom_twin zc_Loom_twin zk_Loom_twin
  have b_Loom_twin := F_Loom_twin.binds (ps := ["self"]) fun _ _ _ _ _ _ us hl => match us, hl with | [_], _ => rfl
  have F_grown := fun_mk (st := s_grown) zl_grown zc_grown zk_grown
  have b_grown := F_grown.binds (ps := ["ways"]) fun _ _ _ _ _ _ us hl => match us, hl with | [_], _ => rfl
  have F_strange := fun_mk (st := s_strange) zl_strange zc_strange zk_strange
  have b_strange := F_strange.binds (ps := ["ones", "others", "boxes"]) fun _ _ _ _ _ _ us hl => match us, hl with | [_, _, _], _ => rfl
  have F_l_asked := fun_mk (st := s_l_asked) zl_l_asked zc_l_asked zk_l_asked
  have b_l_asked := F_l_asked.binds (ps := ["_law_which", "_law_ones", "_law_others", "_law_boxes", "_law_order"]) fun _ _ _ _ _ _ us hl => match us, hl with | [_, _, _, _, _], _ => rfl
  have F_l_names := fun_mk (st := s_l_names) zl_l_names zc_l_names zk_l_names
  have b_l_names := F_l_names.binds (ps := ["_law_error"]) fun _ _ _ _ _ _ us hl => match us, hl with | [_], _ => rfl
  have F_l_told := fun_mk (st := s_l_told) zl_l_told zc_l_told zk_l_told
  have b_l_told := F_l_told.binds (ps := ["_law_which", "_law_ones", "_law_others", "_law_boxes", "_law_kind", "_law_order"]) fun _ _ _ _ _ _ us hl => match us, hl with | [_, _, _, _, _, _], _ => rfl
  have F_l_with_guards := fun_mk (st := s_l_with_guards) zl_l_with_guards zc_l_with_guards zk_l_with_guards
  have b_l_with_guards := F_l_with_guards.binds (ps := ["_law_row", "_law_cell"]) fun _ _ _ _ _ _ us hl => match us, hl with | [_, _], _ => rfl
  have F_l_wrong_by := fun_mk (st := s_l_wrong_by) zl_l_wrong_by zc_l_wrong_by zk_l_wrong_by
  have b_l_wrong_by := F_l_wrong_by.binds (ps := ["_law_cell", "_law_many"]) fun _ _ _ _ _ _ us hl => match us, hl with | [_, _], _ => rfl
  have F_law := fun_mk (st := s_law) zl_law zc_law zk_law
  refine ⟨PySem.W.fnOf "law" "law" (defArgs s_law) (defBody s_law) (defScope s_law) .none kV_law dc_law pm_law an_law cd_law ct_law, fun s v => .of_eq rfl, fun base _ _ => ?_⟩
  · have c_l_due : Cl l.prog w K mg base 1 "_law_due" ["_law_row", "_law_many"] spDue4 := cl_l_due T F_l_due (PySem.W.mg_of X G za_l_due) b_l_due 
    have c_is_whole : Cl l.prog w K mg base 1 "is_whole" ["thing"] spWhole := cl_is_whole T F_is_whole (PySem.W.mg_of X G za_is_whole) b_is_whole 
    have c_is_step : Cl l.prog w K mg base 2 "is_step" ["thing"] spIsStep := cl_is_step T F_is_step (PySem.W.mg_of X G za_is_step) b_is_step c_is_whole
    have c_need_row : Cl l.prog w K mg base 3 "need_row" ["row", "many"] (spNeed (ers eTooMany eBadStep eBadBox eAgain eNotHeld eNoTurn eWaits eStuck)) := cl_need_row T F_need_row (PySem.W.mg_of X G za_need_row) b_need_row c_is_step
    have c_Loom : Mr l.prog w K mg base 4 "Loom" C ["self", "ones", "others", "boxes"] (spInit (ers eTooMany eBadStep eBadBox eAgain eNotHeld eNoTurn eWaits eStuck) C) := cl_Loom_init T F_Loom_init ⟨z_mk, za_Loom_init, zi_Loom_init, z_kc⟩ T.g_Loom b_Loom_init c_need_row
    have c_l_cell_at : Cl l.prog w K mg base 1 "_law_cell_at" ["_law_script", "_law_k"] (spCell K) := cl_l_cell_at T F_l_cell_at (PySem.W.mg_of X G za_l_cell_at) b_l_cell_at 
    have c_l_put : Cl l.prog w K mg base 1 "_law_put" ["_law_row", "_law_at", "_law_thing"] spPut4 := cl_l_put T F_l_put (PySem.W.mg_of X G za_l_put) b_l_put 
    have c_l_row_by : Cl l.prog w K mg base 2 "_law_row_by" ["_law_cell", "_law_many"] spRow4 := cl_l_row_by T F_l_row_by (PySem.W.mg_of X G za_l_row_by) b_l_row_by c_l_put
    have c_Loom_over : Mt l.prog w K mg base 1 C "over" ["self", "hand"] (spOver C) := cl_Loom_over T F_Loom_over T.cls ⟨za_Loom_over, zi_Loom_over, zk_Loom_over⟩ b_Loom_over 
    have c_Loom_waits : Mt l.prog w K mg base 2 C "waits" ["self", "hand"] (spWaits C) := cl_Loom_waits T F_Loom_waits T.cls ⟨za_Loom_waits, zi_Loom_waits, zk_Loom_waits⟩ b_Loom_waits c_Loom_over
    have c_Loom_guard : Mt l.prog w K mg base 1 C "guard" ["self", "hand", "word"] (spGuard (ers eTooMany eBadStep eBadBox eAgain eNotHeld eNoTurn eWaits eStuck) C) := cl_Loom_guard T F_Loom_guard T.cls ⟨za_Loom_guard, zi_Loom_guard, zk_Loom_guard⟩ b_Loom_guard 
    have c_Loom_touch : Mt l.prog w K mg base 1 C "touch" ["self", "hand", "word", "box"] (spTouch C) := cl_Loom_touch T F_Loom_touch T.cls ⟨za_Loom_touch, zi_Loom_touch, zk_Loom_touch⟩ b_Loom_touch 
    have c_Loom_go : Mt l.prog w K mg base 3 C "go" ["self", "hand"] (spGo (ers eTooMany eBadStep eBadBox eAgain eNotHeld eNoTurn eWaits eStuck) C) := cl_Loom_go T F_Loom_go T.cls ⟨za_Loom_go, zi_Loom_go, zk_Loom_go⟩ b_Loom_go c_Loom_over c_Loom_waits c_Loom_guard c_Loom_touch
    have c_alone : Cl l.prog w K mg base 6 "alone" ["row", "boxes"] (spAlone (ers eTooMany eBadStep eBadBox eAgain eNotHeld eNoTurn eWaits eStuck)) := cl_alone T F_alone (PySem.W.mg_of X G za_alone) b_alone c_Loom c_Loom_over c_Loom_go
    have c_walked : Cl l.prog w K mg base 6 "walked" ["ones", "others", "boxes", "order"] (spWalked (ers eTooMany eBadStep eBadBox eAgain eNotHeld eNoTurn eWaits eStuck)) := cl_walked T F_walked (PySem.W.mg_of X G za_walked) b_walked c_Loom c_Loom_go
    have c_goes : Cl l.prog w K mg base 3 "goes" ["loom", "hand"] (spGoes C) := cl_goes T F_goes (PySem.W.mg_of X G za_goes) b_goes c_Loom_over c_Loom_waits
    have c_woven : Cl l.prog w K mg base 6 "woven" ["ones", "others", "boxes", "turns"] (spWoven (ers eTooMany eBadStep eBadBox eAgain eNotHeld eNoTurn eWaits eStuck)) := cl_woven T F_woven (PySem.W.mg_of X G za_woven) b_woven c_Loom c_goes c_Loom_go c_Loom_over
    have c_plain : Cl l.prog w K mg base 7 "plain" ["ones", "others", "boxes", "order"] spPlain := cl_plain T F_plain (PySem.W.mg_of X G za_plain) b_plain c_walked
    have c_Loom_twin : Mt l.prog w K mg base 6 C "twin" ["self"] (spTwin C) := cl_Loom_twin T F_Loom_twin T.cls ⟨za_Loom_twin, zi_Loom_twin, zk_Loom_twin⟩ b_Loom_twin c_Loom
    have c_grown : Cl l.prog w K mg base 7 "grown" ["ways"] (spGrown C) := cl_grown T F_grown (PySem.W.mg_of X G za_grown) b_grown c_goes c_Loom_twin c_Loom_go
    have c_strange : Cl l.prog w K mg base 8 "strange" ["ones", "others", "boxes"] (spStrange (ers eTooMany eBadStep eBadBox eAgain eNotHeld eNoTurn eWaits eStuck)) := cl_strange T F_strange (PySem.W.mg_of X G za_strange) b_strange c_alone c_plain c_grown c_Loom
    have c_l_asked : Cl l.prog w K mg base 9 "_law_asked" ["_law_which", "_law_ones", "_law_others", "_law_boxes", "_law_order"] (spAsked (ers eTooMany eBadStep eBadBox eAgain eNotHeld eNoTurn eWaits eStuck)) := cl_l_asked T F_l_asked (PySem.W.mg_of X G za_l_asked) b_l_asked c_Loom c_alone c_walked c_woven c_strange
    have c_l_names : ClE l.prog w K mg base 1 "_law_names" ["_law_error"] (spNames (ers eTooMany eBadStep eBadBox eAgain eNotHeld eNoTurn eWaits eStuck) okNames) := cl_l_names T F_l_names (PySem.W.mg_of X G za_l_names) b_l_names 
    have c_l_told : Cl l.prog w K mg base 10 "_law_told" ["_law_which", "_law_ones", "_law_others", "_law_boxes", "_law_kind", "_law_order"] spTold4 := cl_l_told T F_l_told (PySem.W.mg_of X G za_l_told) b_l_told c_l_asked c_l_names
    have c_l_with_guards : Cl l.prog w K mg base 1 "_law_with_guards" ["_law_row", "_law_cell"] spGuards4 := cl_l_with_guards T F_l_with_guards (PySem.W.mg_of X G za_l_with_guards) b_l_with_guards 
    have c_l_wrong_by : Cl l.prog w K mg base 1 "_law_wrong_by" ["_law_cell", "_law_many"] spWrongBy4 := cl_l_wrong_by T F_l_wrong_by (PySem.W.mg_of X G za_l_wrong_by) b_l_wrong_by 
    exact ok_law T F_law c_l_due c_Loom c_l_cell_at c_l_row_by c_l_told c_l_put c_l_with_guards c_Loom_over c_l_wrong_by
end G
open PySem PySem.W PyProof.Rows in
set_option maxRecDepth 100000 in
set_option maxHeartbeats 0 in
theorem PySem.Challenge.cw_guardrows_k04_rows_refused_holds : PySem.Challenge.rw_guardrows_k04_rows_refused.Holds := by
  w_on; o_law; k_head; (case hw => w_witness2)
  k_fill
  refine G.walk (l := PySem.Challenge.rw_guardrows_k04_rows_refused) (x := "_law_script") (k := 11) rfl rfl (fun w h Y => PySem.W.kIn_of Y) ?F ⟨rfl, by decide, by decide⟩
  case F =>
    intro w mg fa h KX Gn hmg
    refine' G.all_mk KX Gn hmg ?z_n_ValueError ?z_n_isinstance ?z_n_range ?z_n_int ?z_n_str ?z_n_len ?z_n_list ?z_n_bool ?z_n_tuple ?z_g_BOXED ?z_s_BOXED ?z_g_GUARDS ?z_s_GUARDS ?z_g_MOST_STEPS ?z_g_MOST_SEARCHED ?z_g_WeaveError ?z_k_WeaveError ?z_x_WeaveError ?z_b_WeaveError ?z_t_WeaveError ?z_d_WeaveError ?z_g_TooMany ?z_k_TooMany ?z_x_TooMany ?z_b_TooMany ?z_t_TooMany ?z_d_TooMany ?z_g_BadStep ?z_k_BadStep ?z_x_BadStep ?z_b_BadStep ?z_t_BadStep ?z_d_BadStep ?z_g_BadBox ?z_k_BadBox ?z_x_BadBox ?z_b_BadBox ?z_t_BadBox ?z_d_BadBox ?z_g_Again ?z_k_Again ?z_x_Again ?z_b_Again ?z_t_Again ?z_d_Again ?z_g_NotHeld ?z_k_NotHeld ?z_x_NotHeld ?z_b_NotHeld ?z_t_NotHeld ?z_d_NotHeld ?z_g_NoTurn ?z_k_NoTurn ?z_x_NoTurn ?z_b_NoTurn ?z_t_NoTurn ?z_d_NoTurn ?z_g_Waits ?z_k_Waits ?z_x_Waits ?z_b_Waits ?z_t_Waits ?z_d_Waits ?z_g_Stuck ?z_k_Stuck ?z_x_Stuck ?z_b_Stuck ?z_t_Stuck ?z_d_Stuck ?z_m_TooMany_Waits ?z_m_TooMany_TooMany ?z_m_TooMany_BadStep ?z_m_TooMany_BadBox ?z_m_TooMany_WeaveError ?z_m_BadStep_Waits ?z_m_BadStep_TooMany ?z_m_BadStep_BadStep ?z_m_BadStep_BadBox ?z_m_BadStep_WeaveError ?z_m_BadBox_Waits ?z_m_BadBox_TooMany ?z_m_BadBox_BadStep ?z_m_BadBox_BadBox ?z_m_BadBox_WeaveError ?z_m_Again_Waits ?z_m_Again_TooMany ?z_m_Again_BadStep ?z_m_Again_BadBox ?z_m_Again_WeaveError ?z_m_NotHeld_Waits ?z_m_NotHeld_TooMany ?z_m_NotHeld_BadStep ?z_m_NotHeld_BadBox ?z_m_NotHeld_WeaveError ?z_m_NoTurn_Waits ?z_m_NoTurn_TooMany ?z_m_NoTurn_BadStep ?z_m_NoTurn_BadBox ?z_m_NoTurn_WeaveError ?z_m_Waits_Waits ?z_m_Waits_TooMany ?z_m_Waits_BadStep ?z_m_Waits_BadBox ?z_m_Waits_WeaveError ?z_m_Stuck_Waits ?z_m_Stuck_TooMany ?z_m_Stuck_BadStep ?z_m_Stuck_BadBox ?z_m_Stuck_WeaveError ?z_xg_TooMany ?z_xk_TooMany ?z_xa_TooMany ?z_xn_TooMany ?z_xt_TooMany ?z_xm_TooMany ?z_v_TooMany_TooMany ?z_v_TooMany_BadStep ?z_v_TooMany_BadBox ?z_v_TooMany_Again ?z_v_TooMany_NotHeld ?z_v_TooMany_NoTurn ?z_v_TooMany_Waits ?z_v_TooMany_Stuck ?z_v_TooMany_ValueError ?z_xg_BadStep ?z_xk_BadStep ?z_xa_BadStep ?z_xn_BadStep ?z_xt_BadStep ?z_xm_BadStep ?z_v_BadStep_TooMany ?z_v_BadStep_BadStep ?z_v_BadStep_BadBox ?z_v_BadStep_Again ?z_v_BadStep_NotHeld ?z_v_BadStep_NoTurn ?z_v_BadStep_Waits ?z_v_BadStep_Stuck ?z_v_BadStep_ValueError ?z_xg_BadBox ?z_xk_BadBox ?z_xa_BadBox ?z_xn_BadBox ?z_xt_BadBox ?z_xm_BadBox ?z_v_BadBox_TooMany ?z_v_BadBox_BadStep ?z_v_BadBox_BadBox ?z_v_BadBox_Again ?z_v_BadBox_NotHeld ?z_v_BadBox_NoTurn ?z_v_BadBox_Waits ?z_v_BadBox_Stuck ?z_v_BadBox_ValueError ?z_v_Again_Again ?z_v_NotHeld_NotHeld ?z_v_NoTurn_NoTurn ?z_v_Waits_Waits ?z_v_Stuck_Stuck ?z_g_Loom ?z_pg ?z_hd ?z_po ?z_sa ?z_mk ?z_kc ?z_na_rows ?z_na_boxes ?z_na_numbers ?z_na_places ?z_na_holder ?za_l_due ?zl_l_due ?zc_l_due ?zk_l_due ?za_is_whole ?zl_is_whole ?zc_is_whole ?zk_is_whole ?za_is_step ?zl_is_step ?zc_is_step ?zk_is_step ?za_need_row ?zl_need_row ?zc_need_row ?zk_need_row ?za_Loom_init ?zi_Loom_init ?zl_Loom_init ?zc_Loom_init ?zk_Loom_init ?za_l_cell_at ?zl_l_cell_at ?zc_l_cell_at ?zk_l_cell_at ?za_l_put ?zl_l_put ?zc_l_put ?zk_l_put ?za_l_row_by ?zl_l_row_by ?zc_l_row_by ?zk_l_row_by ?za_Loom_over ?zi_Loom_over ?zl_Loom_over ?zc_Loom_over ?zk_Loom_over ?za_Loom_waits ?zi_Loom_waits ?zl_Loom_waits ?zc_Loom_waits ?zk_Loom_waits ?za_Loom_guard ?zi_Loom_guard ?zl_Loom_guard ?zc_Loom_guard ?zk_Loom_guard ?za_Loom_touch ?zi_Loom_touch ?zl_Loom_touch ?zc_Loom_touch ?zk_Loom_touch ?za_Loom_go ?zi_Loom_go ?zl_Loom_go ?zc_Loom_go ?zk_Loom_go ?za_alone ?zl_alone ?zc_alone ?zk_alone ?za_walked ?zl_walked ?zc_walked ?zk_walked ?za_goes ?zl_goes ?zc_goes ?zk_goes ?za_woven ?zl_woven ?zc_woven ?zk_woven ?za_plain ?zl_plain ?zc_plain ?zk_plain ?za_Loom_twin ?zi_Loom_twin ?zl_Loom_twin ?zc_Loom_twin ?zk_Loom_twin ?za_grown ?zl_grown ?zc_grown ?zk_grown ?za_strange ?zl_strange ?zc_strange ?zk_strange ?za_l_asked ?zl_l_asked ?zc_l_asked ?zk_l_asked ?za_l_names ?zl_l_names ?zc_l_names ?zk_l_names ?za_l_told ?zl_l_told ?zc_l_told ?zk_l_told ?za_l_with_guards ?zl_l_with_guards ?zc_l_with_guards ?zk_l_with_guards ?za_l_wrong_by ?zl_l_wrong_by ?zc_l_wrong_by ?zk_l_wrong_by ?za_law ?zl_law ?zc_law ?zk_law
    (case z_n_ValueError => k_is)
    (case z_n_isinstance => k_is)
    (case z_n_range => k_is)
    (case z_n_int => k_is)
    (case z_n_str => k_is)
    (case z_n_len => k_is)
    (case z_n_list => k_is)
    (case z_n_bool => k_is)
    (case z_n_tuple => k_is)
    (case z_g_BOXED => k_is)
    (case z_s_BOXED => k_is)
    (case z_g_GUARDS => k_is)
    (case z_s_GUARDS => k_is)
    (case z_g_MOST_STEPS => k_is)
    (case z_g_MOST_SEARCHED => k_is)
    (case z_g_WeaveError => k_is)
    (case z_k_WeaveError => k_is)
    (case z_x_WeaveError => k_exc)
    (case z_b_WeaveError => k_is)
    (case z_t_WeaveError => k_is)
    (case z_d_WeaveError => k_is)
    (case z_g_TooMany => k_is)
    (case z_k_TooMany => k_is)
    (case z_x_TooMany => k_exc)
    (case z_b_TooMany => k_is)
    (case z_t_TooMany => k_is)
    (case z_d_TooMany => k_is)
    (case z_g_BadStep => k_is)
    (case z_k_BadStep => k_is)
    (case z_x_BadStep => k_exc)
    (case z_b_BadStep => k_is)
    (case z_t_BadStep => k_is)
    (case z_d_BadStep => k_is)
    (case z_g_BadBox => k_is)
    (case z_k_BadBox => k_is)
    (case z_x_BadBox => k_exc)
    (case z_b_BadBox => k_is)
    (case z_t_BadBox => k_is)
    (case z_d_BadBox => k_is)
    (case z_g_Again => k_is)
    (case z_k_Again => k_is)
    (case z_x_Again => k_exc)
    (case z_b_Again => k_is)
    (case z_t_Again => k_is)
    (case z_d_Again => k_is)
    (case z_g_NotHeld => k_is)
    (case z_k_NotHeld => k_is)
    (case z_x_NotHeld => k_exc)
    (case z_b_NotHeld => k_is)
    (case z_t_NotHeld => k_is)
    (case z_d_NotHeld => k_is)
    (case z_g_NoTurn => k_is)
    (case z_k_NoTurn => k_is)
    (case z_x_NoTurn => k_exc)
    (case z_b_NoTurn => k_is)
    (case z_t_NoTurn => k_is)
    (case z_d_NoTurn => k_is)
    (case z_g_Waits => k_is)
    (case z_k_Waits => k_is)
    (case z_x_Waits => k_exc)
    (case z_b_Waits => k_is)
    (case z_t_Waits => k_is)
    (case z_d_Waits => k_is)
    (case z_g_Stuck => k_is)
    (case z_k_Stuck => k_is)
    (case z_x_Stuck => k_exc)
    (case z_b_Stuck => k_is)
    (case z_t_Stuck => k_is)
    (case z_d_Stuck => k_is)
    (case z_m_TooMany_Waits => k_is)
    (case z_m_TooMany_TooMany => k_is)
    (case z_m_TooMany_BadStep => k_is)
    (case z_m_TooMany_BadBox => k_is)
    (case z_m_TooMany_WeaveError => k_is)
    (case z_m_BadStep_Waits => k_is)
    (case z_m_BadStep_TooMany => k_is)
    (case z_m_BadStep_BadStep => k_is)
    (case z_m_BadStep_BadBox => k_is)
    (case z_m_BadStep_WeaveError => k_is)
    (case z_m_BadBox_Waits => k_is)
    (case z_m_BadBox_TooMany => k_is)
    (case z_m_BadBox_BadStep => k_is)
    (case z_m_BadBox_BadBox => k_is)
    (case z_m_BadBox_WeaveError => k_is)
    (case z_m_Again_Waits => k_is)
    (case z_m_Again_TooMany => k_is)
    (case z_m_Again_BadStep => k_is)
    (case z_m_Again_BadBox => k_is)
    (case z_m_Again_WeaveError => k_is)
    (case z_m_NotHeld_Waits => k_is)
    (case z_m_NotHeld_TooMany => k_is)
    (case z_m_NotHeld_BadStep => k_is)
    (case z_m_NotHeld_BadBox => k_is)
    (case z_m_NotHeld_WeaveError => k_is)
    (case z_m_NoTurn_Waits => k_is)
    (case z_m_NoTurn_TooMany => k_is)
    (case z_m_NoTurn_BadStep => k_is)
    (case z_m_NoTurn_BadBox => k_is)
    (case z_m_NoTurn_WeaveError => k_is)
    (case z_m_Waits_Waits => k_is)
    (case z_m_Waits_TooMany => k_is)
    (case z_m_Waits_BadStep => k_is)
    (case z_m_Waits_BadBox => k_is)
    (case z_m_Waits_WeaveError => k_is)
    (case z_m_Stuck_Waits => k_is)
    (case z_m_Stuck_TooMany => k_is)
    (case z_m_Stuck_BadStep => k_is)
    (case z_m_Stuck_BadBox => k_is)
    (case z_m_Stuck_WeaveError => k_is)
    (case z_xg_TooMany => k_is)
    (case z_xk_TooMany => k_is)
    (case z_xa_TooMany => k_is)
    (case z_xn_TooMany => k_is)
    (case z_xt_TooMany => k_is)
    (case z_xm_TooMany => k_is)
    (case z_v_TooMany_TooMany => k_is)
    (case z_v_TooMany_BadStep => k_is)
    (case z_v_TooMany_BadBox => k_is)
    (case z_v_TooMany_Again => k_is)
    (case z_v_TooMany_NotHeld => k_is)
    (case z_v_TooMany_NoTurn => k_is)
    (case z_v_TooMany_Waits => k_is)
    (case z_v_TooMany_Stuck => k_is)
    (case z_v_TooMany_ValueError => k_is)
    (case z_xg_BadStep => k_is)
    (case z_xk_BadStep => k_is)
    (case z_xa_BadStep => k_is)
    (case z_xn_BadStep => k_is)
    (case z_xt_BadStep => k_is)
    (case z_xm_BadStep => k_is)
    (case z_v_BadStep_TooMany => k_is)
    (case z_v_BadStep_BadStep => k_is)
    (case z_v_BadStep_BadBox => k_is)
    (case z_v_BadStep_Again => k_is)
    (case z_v_BadStep_NotHeld => k_is)
    (case z_v_BadStep_NoTurn => k_is)
    (case z_v_BadStep_Waits => k_is)
    (case z_v_BadStep_Stuck => k_is)
    (case z_v_BadStep_ValueError => k_is)
    (case z_xg_BadBox => k_is)
    (case z_xk_BadBox => k_is)
    (case z_xa_BadBox => k_is)
    (case z_xn_BadBox => k_is)
    (case z_xt_BadBox => k_is)
    (case z_xm_BadBox => k_is)
    (case z_v_BadBox_TooMany => k_is)
    (case z_v_BadBox_BadStep => k_is)
    (case z_v_BadBox_BadBox => k_is)
    (case z_v_BadBox_Again => k_is)
    (case z_v_BadBox_NotHeld => k_is)
    (case z_v_BadBox_NoTurn => k_is)
    (case z_v_BadBox_Waits => k_is)
    (case z_v_BadBox_Stuck => k_is)
    (case z_v_BadBox_ValueError => k_is)
    (case z_v_Again_Again => k_is)
    (case z_v_NotHeld_NotHeld => k_is)
    (case z_v_NoTurn_NoTurn => k_is)
    (case z_v_Waits_Waits => k_is)
    (case z_v_Stuck_Stuck => k_is)
    (case z_g_Loom => k_is)
    (case z_pg => k_is)
    (case z_hd => k_is)
    (case z_po => k_is)
    (case z_sa => k_is)
    (case z_mk => k_is)
    (case z_kc => k_is)
    (case z_na_rows => k_is)
    (case z_na_boxes => k_is)
    (case z_na_numbers => k_is)
    (case z_na_places => k_is)
    (case z_na_holder => k_is)
    (case za_l_due => k_is)
    (case zl_l_due => k_is)
    (case zc_l_due => k_is)
    (case zk_l_due => k_is)
    (case za_is_whole => k_is)
    (case zl_is_whole => k_is)
    (case zc_is_whole => k_is)
    (case zk_is_whole => k_is)
    (case za_is_step => k_is)
    (case zl_is_step => k_is)
    (case zc_is_step => k_is)
    (case zk_is_step => k_is)
    (case za_need_row => k_is)
    (case zl_need_row => k_is)
    (case zc_need_row => k_is)
    (case zk_need_row => k_is)
    (case za_Loom_init => k_is)
    (case zi_Loom_init => k_is)
    (case zl_Loom_init => k_is)
    (case zc_Loom_init => k_is)
    (case zk_Loom_init => k_is)
    (case za_l_cell_at => k_is)
    (case zl_l_cell_at => k_is)
    (case zc_l_cell_at => k_is)
    (case zk_l_cell_at => k_is)
    (case za_l_put => k_is)
    (case zl_l_put => k_is)
    (case zc_l_put => k_is)
    (case zk_l_put => k_is)
    (case za_l_row_by => k_is)
    (case zl_l_row_by => k_is)
    (case zc_l_row_by => k_is)
    (case zk_l_row_by => k_is)
    (case za_Loom_over => k_is)
    (case zi_Loom_over => k_is)
    (case zl_Loom_over => k_is)
    (case zc_Loom_over => k_is)
    (case zk_Loom_over => k_is)
    (case za_Loom_waits => k_is)
    (case zi_Loom_waits => k_is)
    (case zl_Loom_waits => k_is)
    (case zc_Loom_waits => k_is)
    (case zk_Loom_waits => k_is)
    (case za_Loom_guard => k_is)
    (case zi_Loom_guard => k_is)
    (case zl_Loom_guard => k_is)
    (case zc_Loom_guard => k_is)
    (case zk_Loom_guard => k_is)
    (case za_Loom_touch => k_is)
    (case zi_Loom_touch => k_is)
    (case zl_Loom_touch => k_is)
    (case zc_Loom_touch => k_is)
    (case zk_Loom_touch => k_is)
    (case za_Loom_go => k_is)
    (case zi_Loom_go => k_is)
    (case zl_Loom_go => k_is)
    (case zc_Loom_go => k_is)
    (case zk_Loom_go => k_is)
    (case za_alone => k_is)
    (case zl_alone => k_is)
    (case zc_alone => k_is)
    (case zk_alone => k_is)
    (case za_walked => k_is)
    (case zl_walked => k_is)
    (case zc_walked => k_is)
    (case zk_walked => k_is)
    (case za_goes => k_is)
    (case zl_goes => k_is)
    (case zc_goes => k_is)
    (case zk_goes => k_is)
    (case za_woven => k_is)
    (case zl_woven => k_is)
    (case zc_woven => k_is)
    (case zk_woven => k_is)
    (case za_plain => k_is)
    (case zl_plain => k_is)
    (case zc_plain => k_is)
    (case zk_plain => k_is)
    (case za_Loom_twin => k_is)
    (case zi_Loom_twin => k_is)
    (case zl_Loom_twin => k_is)
    (case zc_Loom_twin => k_is)
    (case zk_Loom_twin => k_is)
    (case za_grown => k_is)
    (case zl_grown => k_is)
    (case zc_grown => k_is)
    (case zk_grown => k_is)
    (case za_strange => k_is)
    (case zl_strange => k_is)
    (case zc_strange => k_is)
    (case zk_strange => k_is)
    (case za_l_asked => k_is)
    (case zl_l_asked => k_is)
    (case zc_l_asked => k_is)
    (case zk_l_asked => k_is)
    (case za_l_names => k_is)
    (case zl_l_names => k_is)
    (case zc_l_names => k_is)
    (case zk_l_names => k_is)
    (case za_l_told => k_is)
    (case zl_l_told => k_is)
    (case zc_l_told => k_is)
    (case zk_l_told => k_is)
    (case za_l_with_guards => k_is)
    (case zl_l_with_guards => k_is)
    (case zc_l_with_guards => k_is)
    (case zk_l_with_guards => k_is)
    (case za_l_wrong_by => k_is)
    (case zl_l_wrong_by => k_is)
    (case zc_l_wrong_by => k_is)
    (case zk_l_wrong_by => k_is)
    (case za_law => k_is)
    (case zl_law => k_is)
    (case zc_law => k_is)
    (case zk_law => k_is)

