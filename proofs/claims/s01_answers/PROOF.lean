import PyProof.Rows.All
import Wide.All
import OpenK.AllK
import Wide.FinOn
import PyProof.EqAt
import PyProof.EqKinds
import PyProof.TupleCall
import Open.SpecLaws
import KE.OsGo
import HandS.ForSpec
import HandS.Comp
import HandS.Dict
import HandS.Iter
import HandS.TryMany
import HandS.ExcCtx
import HandS.HotCalls
import HandS.Defaults
import HandS.WideBits
import HandS.HeadHook1
import HandS.HeadHook2
import PySem.Challenge.RW_onevolume_s01_answers
import HandS.Head4
import HandS.ExcSuper
import HandS.ExcField
import Zr66R7237fSpec
import Zr66Rust
import PyZr66
import HandS.Spec
set_option Elab.async false
set_option linter.all false
set_option maxRecDepth 100000
set_option maxHeartbeats 2000000
/-! B1: the text by places; promises of fixed arity; allocation (Ext); loops by what is left. -/
namespace Ov
open PySem PySem.Spec PyProof.Rows L2
abbrev St := L2.St
/-! ### the text -/
def top (i : Nat) : Stmt := PySem.Challenge.pw_onevolume_s01_answers.main.body.getD i (.Pass ⟨0, 0, 0, 0⟩)
/-! ### promises of fixed arity -/
def Sp0 (f : Hp → VK → XK → Prop) : Sp := fun vs H Q E => vs = [] ∧ f H Q E
def Sp1 (f : V → Hp → VK → XK → Prop) : Sp := fun vs H Q E => ∃ a, vs = [a] ∧ f a H Q E
def Sp2 (f : V → V → Hp → VK → XK → Prop) : Sp := fun vs H Q E => ∃ a b, vs = [a, b] ∧ f a b H Q E
def Sp3 (f : V → V → V → Hp → VK → XK → Prop) : Sp := fun vs H Q E => ∃ a b c, vs = [a, b, c] ∧ f a b c H Q E
def Sp4 (f : V → V → V → V → Hp → VK → XK → Prop) : Sp := fun vs H Q E => ∃ a b c d, vs = [a, b, c, d] ∧ f a b c d H Q E
/-- the length of what is handed in -/
class Ar (sp : Sp) (n : outParam Nat) : Prop where
  len : ∀ vs H Q E, sp vs H Q E → vs.length = n
instance {f} : Ar (Sp0 f) 0 := ⟨by rintro _ _ _ _ ⟨rfl, _⟩; rfl⟩
instance {f} : Ar (Sp1 f) 1 := ⟨by rintro _ _ _ _ ⟨_, rfl, _⟩; rfl⟩
instance {f} : Ar (Sp2 f) 2 := ⟨by rintro _ _ _ _ ⟨_, _, rfl, _⟩; rfl⟩
instance {f} : Ar (Sp3 f) 3 := ⟨by rintro _ _ _ _ ⟨_, _, _, rfl, _⟩; rfl⟩
instance {f} : Ar (Sp4 f) 4 := ⟨by rintro _ _ _ _ ⟨_, _, _, _, rfl, _⟩; rfl⟩
/-! ### defs and methods as they stand, as they keep promises -/
section
variable (P : Program) (w : World) (K : PySem.W.Frag) (mg : Str → Option Value) (base : Heap)
abbrev FnP (x qual : Str) (st : Stmt) (f : Addr) (fd : FuncData) : Prop := FunD K x qual (defArgs st) (defBody st) (defScope st) [] [] f fd
/-- a def of the top stands -/
def Fs (x : Str) (st : Stmt) : Prop := ∃ f fd, FnP K x x st f fd ∧ mg x = some (.ref f)
/-- a method of the class at C stands -/
def Ms (C : Addr) (m qual : Str) (st : Stmt) : Prop := ∃ f fd, FnP K m qual st f fd ∧ Meth K C m f
/-- a def keeps a promise -/
def DefOk (CX : CXT) (k : Nat) (x : Str) (ps : List Str) (sp : Sp) : Prop :=
  ∃ f fd, FnOk P w K mg base CX k f fd ps sp ∧ mg x = some (.ref f) ∧ PySem.W.keepIn K (.ref f) = true ∧ Binds K fd ps []
/-- a method keeps a promise -/
def MetOk (CX : CXT) (k : Nat) (C : Addr) (m : Str) (ps : List Str) (sp : Sp) : Prop :=
  ∃ f fd, FnOk P w K mg base CX k f fd ps sp ∧ Meth K C m f ∧ Binds K fd ps []
/-- every parameter is given -/
def Bd (x qual : Str) (st : Stmt) (ps : List Str) : Prop :=
  ∀ (kV doc pm : Value) (an : Option Addr) (cdv ct : Value) (us : List Value), us.length = ps.length → bindArgs (PySem.W.fnOf x qual (defArgs st) (defBody st) (defScope st) .none kV doc pm an cdv ct) ⟨us, []⟩ = pure (ps.zip us)
/-- what a body must show: no exception leaves (C), one may (R) -/
def BodyC (k : Nat) (qual : Str) (st : Stmt) (N : List Str) (sp : Sp) : Prop :=
  ∀ (f : Addr) (cdv : Value) (A : Around) (outer : List Env) (s : Shared) (H : Hp) (vs : List V) (Q : VK) (E : XK), Room k (A.deeper (envOfC qual (defScope st) s.heap.objs.size f cdv)) → sp vs H Q E →
    ∃ t, PSs (cxOf CX0 P w K mg base N qual (defScope st) f cdv A outer s H E).nox (defBody st) t ∧ t { nx := fun _ H' => Q .non H', rt := Q } (start N vs) H
def BodyR (k : Nat) (qual : Str) (st : Stmt) (N : List Str) (sp : Sp) : Prop :=
  ∀ (f : Addr) (cdv : Value) (A : Around) (outer : List Env) (s : Shared) (H : Hp) (vs : List V) (Q : VK) (E : XK), Room k (A.deeper (envOfC qual (defScope st) s.heap.objs.size f cdv)) → sp vs H Q E →
    ∃ t, PSs (cxOf (L2N.CX P w) P w K mg base N qual (defScope st) f cdv A outer s H E) (defBody st) t ∧ t { nx := fun _ H' => Q .non H', rt := Q } (start N vs) H
end
section
variable {P : Program} {w : World} {K : PySem.W.Frag} {mg : Str → Option Value} {base : Heap} {x m qual : Str} {C : Addr} {st : Stmt} {N ps : List Str} {k n : Nat} {sp : Sp}
theorem fn_C {f : Addr} {fd : FuncData} [a : Ar sp n] (F : FnP K x qual st f fd) (S : FnScope N ps (defScope st)) (hn : n = ps.length) (b : BodyC P w K mg base k qual st N sp) : FnOk P w K mg base CX0 (k + 1) f fd ps sp :=
  F.ok S (fun vs H Q E h => (a.len vs H Q E h).trans hn) fun cdv A outer s H vs Q E hr h => let ⟨t, h1, h2⟩ := b f cdv A outer s H vs Q E hr h; ⟨t, h1.nox, h2⟩
theorem fn_R {f : Addr} {fd : FuncData} [a : Ar sp n] (F : FnP K x qual st f fd) (S : FnScope N ps (defScope st)) (hn : n = ps.length) (b : BodyR P w K mg base k qual st N sp) : FnOk P w K mg base (L2N.CX P w) (k + 1) f fd ps sp :=
  F.ok S (fun vs H Q E h => (a.len vs H Q E h).trans hn) fun cdv A outer s H vs Q E hr h => b f cdv A outer s H vs Q E hr h
theorem def_C [Ar sp n] (F : Fs K mg x st) (S : FnScope N ps (defScope st)) (hb : Bd x x st ps) (b : BodyC P w K mg base k x st N sp) (hn : n = ps.length := by rfl) : DefOk P w K mg base CX0 (k + 1) x ps sp := by
  obtain ⟨f, fd, F, g⟩ := F
  exact ⟨f, fd, fn_C F S hn b, g, F.kp, F.bindsN hb⟩
theorem def_R [Ar sp n] (F : Fs K mg x st) (S : FnScope N ps (defScope st)) (hb : Bd x x st ps) (b : BodyR P w K mg base k x st N sp) (hn : n = ps.length := by rfl) : DefOk P w K mg base (L2N.CX P w) (k + 1) x ps sp := by
  obtain ⟨f, fd, F, g⟩ := F
  exact ⟨f, fd, fn_R F S hn b, g, F.kp, F.bindsN hb⟩
theorem met_C [Ar sp n] (F : Ms K C m qual st) (S : FnScope N ps (defScope st)) (hb : Bd m qual st ps) (b : BodyC P w K mg base k qual st N sp) (hn : n = ps.length := by rfl) : MetOk P w K mg base CX0 (k + 1) C m ps sp := by
  obtain ⟨f, fd, F, g⟩ := F
  exact ⟨f, fd, fn_C F S hn b, g, F.bindsN hb⟩
theorem DefOk.mono {CX : CXT} {j : Nat} (D : DefOk P w K mg base CX j x ps sp) (h : j ≤ k) : DefOk P w K mg base CX k x ps sp := by
  obtain ⟨f, fd, F, r⟩ := D
  exact ⟨f, fd, F.mono h, r⟩
theorem DefOk.imp {CX : CXT} {sp' : Sp} (D : DefOk P w K mg base CX k x ps sp) (h : ∀ vs H Q E, sp' vs H Q E → sp vs H Q E) : DefOk P w K mg base CX k x ps sp' := by
  obtain ⟨f, fd, F, r⟩ := D
  exact ⟨f, fd, F.imp h, r⟩
end
/-! ### rules: calls by these -/
section
variable {X : Cx} {CX : CXT} {k : Nat} {x m : Str} {C : Addr} {ps : List Str} {sp : Sp} {E : XK} {ES : St → XK} {p pos apos : Pos} {e o : Expr} {es : List Expr} {ta : TE} {t : TA}
theorem pe_d (D : DefOk X.prog X.w X.K X.mg X.base CX k x ps sp) (hr : Room k X.A) (hx : Passes CX X E) (ha : PA X (e :: es) t) (hg : Gl X x := by rfl) (hdb : (x == ("__debug__" : Str)) = false := by decide)
    (he : starEach (e :: es) X.env = (false, eval e X.env) :: starEach es X.env := by rfl) (hpl : (backTo pos (starEach es X.env)).any (·.1) = false := by rfl) : PE X (.Call (.Name x p) (e :: es) [] pos) (tCall sp [] E t) := by
  obtain ⟨f, fd, F, hm, hk, hb⟩ := D
  exact pe_call F hr hg hm hk hb .nil hx ha hdb he hpl
theorem pe_d0 (D : DefOk X.prog X.w X.K X.mg X.base CX k x ps sp) (hr : Room k X.A) (hx : Passes CX X E) (hg : Gl X x := by rfl) (hdb : (x == ("__debug__" : Str)) = false := by decide) : PE X (.Call (.Name x p) [] [] pos) (tCall sp [] E tNil) := by
  obtain ⟨f, fd, F, hm, hk, hb⟩ := D
  exact pe_call0 F hr hg hm hk hb .nil hx hdb
/-- in a try's body -/
theorem pe_dS (D : DefOk X.prog X.w X.K X.mg X.base CX k x ps sp) (hr : Room k X.A) (hx : ∀ σ, PassesAt CX X σ (ES σ)) (ha : PA X (e :: es) t) (hg : Gl X x := by rfl) (hdb : (x == ("__debug__" : Str)) = false := by decide)
    (he : starEach (e :: es) X.env = (false, eval e X.env) :: starEach es X.env := by rfl) (hpl : (backTo pos (starEach es X.env)).any (·.1) = false := by rfl) : PE X (.Call (.Name x p) (e :: es) [] pos) (tCallS sp ES t) := by
  obtain ⟨f, fd, F, hm, hk, hb⟩ := D
  exact pe_callS F hr hg hm hk hb hx ha hdb he hpl
theorem pe_m {pl : Sem Bool} (c : Cls X.K C) (D : MetOk X.prog X.w X.K X.mg X.base CX k C m ps sp) (hr : Room k X.A) (hx : Passes CX X E) (he : PE X o ta) (ha : PA X (e :: es) t)
    (hst : starEach (e :: es) X.env = (false, eval e X.env) :: starEach es X.env := by rfl) (hpl : (backTo pos (starEach es X.env)).any (·.1) = false := by rfl)
    (ht : eval (.Call (.Attribute o m apos) (e :: es) [] pos) X.env = (do
      let ov ← eval o X.env
      standAt apos.atName
      let (f, first) ← holding [ov] (getMethod ov m pl)
      callWith pos f first (backTo pos (starEach (e :: es) X.env)) (backToKw pos (keywordEach [] X.env))) := by rfl) : PE X (.Call (.Attribute o m apos) (e :: es) [] pos) (tMeth C m sp [] E ta t) := by
  obtain ⟨f, fd, F, hm, hb⟩ := D
  exact pe_meth he c hm F hr hb .nil hx ha hst hpl ht
theorem pe_m0 {pl : Sem Bool} (c : Cls X.K C) (D : MetOk X.prog X.w X.K X.mg X.base CX k C m ps sp) (hr : Room k X.A) (hx : Passes CX X E) (he : PE X o ta)
    (ht : eval (.Call (.Attribute o m apos) [] [] pos) X.env = (do
      let ov ← eval o X.env
      standAt apos.atName
      let (f, first) ← holding [ov] (getMethod ov m pl)
      callWith pos f first (backTo pos (starEach [] X.env)) (backToKw pos (keywordEach [] X.env))) := by rfl) : PE X (.Call (.Attribute o m apos) [] [] pos) (tMeth C m sp [] E ta tNil) := by
  obtain ⟨f, fd, F, hm, hb⟩ := D
  exact pe_meth0 he c hm F hr hb .nil hx ht
/-- a module's number -/
theorem pe_gi {i : Int} (h : ∃ t, X.mg x = some (.int i t)) (hg : Gl X x := by rfl) (hdb : (x == ("__debug__" : Str)) = false := by decide) : PE X (.Name x pos) (tC (.int i)) := by
  obtain ⟨t, h⟩ := h
  exact pe_glob hg h ⟨t, rfl⟩ hdb
theorem pe_gr {a : Addr} (h : X.mg x = some (.ref a)) (hg : Gl X x := by rfl) (hdb : (x == ("__debug__" : Str)) = false := by decide) : PE X (.Name x pos) (tC (.ref a)) := pe_glob hg h rfl hdb
end
/-- what a callee lets out leaves this def, too -/
theorem passR {P : Program} {w : World} {K : PySem.W.Frag} {mg : Str → Option Value} {base : Heap} {N : List Str} {qual : Str} {sc : Scope} {f : Addr} {cdv : Value} {A : Around} {outer : List Env} {s : Shared} {H : Hp} {E : XK} :
    Passes (L2N.CX P w) (cxOf (L2N.CX P w) P w K mg base N qual sc f cdv A outer s H E) E := L2N.passes_call (L2N.takes_of rfl rfl rfl rfl) (fun _ _ _ _ h => h)
/-! ### allocation: G what stands for ever, H all that is tracked -/
structure ExtF (F : Addr → Prop) (G H G' H' : Hp) : Prop where
  g : Same G G'
  h : ∀ b o, H b = some o → ¬ F b → H' b = some o
  live : ∀ b, H b ≠ none → H' b ≠ none
  sub : Same G' H'
  old : ∀ b, H b ≠ none → G' b = G b
abbrev NoF : Addr → Prop := fun _ => False
abbrev Ext (G H G' H' : Hp) : Prop := ExtF NoF G H G' H'
theorem ExtF.same {G H G' H' : Hp} (e : ExtF NoF G H G' H') : Same H H' := fun b o h => e.h b o h id
theorem ExtF.refl {F : Addr → Prop} {G H : Hp} (s : Same G H) : ExtF F G H G H := ⟨Same.refl G, fun _ _ h _ => h, fun _ h => h, s, fun _ _ => rfl⟩
theorem ExtF.mono {F F' : Addr → Prop} {G H G' H' : Hp} (e : ExtF F G H G' H') (m : ∀ b, F b → F' b) : ExtF F' G H G' H' := ⟨e.g, fun b o h n => e.h b o h fun q => n (m b q), e.live, e.sub, e.old⟩
theorem ExtF.trans' {F F1 : Addr → Prop} {G H G1 H1 G2 H2 : Hp} (a : ExtF F G H G1 H1) (b : ExtF F1 G1 H1 G2 H2) (m : ∀ x, F1 x → F x ∨ H x = none) : ExtF F G H G2 H2 where
  g := a.g.trans b.g
  h := fun c o h n => b.h c o (a.h c o h n) fun q => (m c q).elim n fun z => by rw [h] at z; cases z
  live := fun c h => b.live c (a.live c h)
  sub := b.sub
  old := fun c h => (b.old c (a.live c h)).trans (a.old c h)
theorem ExtF.trans {F : Addr → Prop} {G H G1 H1 G2 H2 : Hp} (a : ExtF F G H G1 H1) (b : ExtF NoF G1 H1 G2 H2) : ExtF F G H G2 H2 := a.trans' b fun _ q => q.elim
theorem ExtF.free {F : Addr → Prop} {G H G' H' : Hp} (e : ExtF F G H G' H') {p : Addr} (h : H' p = none) : H p = none := by
  cases q : H p with
  | none => rfl
  | some o => exact absurd h (e.live p (by rw [q]; exact Option.some_ne_none o))
theorem none_ne {H : Hp} {p b : Addr} (h : H p = none) (hb : H b ≠ none) : b ≠ p := fun e => hb (e ▸ h)
theorem Same.none {G H : Hp} (s : Same G H) {p : Addr} (h : H p = Option.none) : G p = Option.none := Same.free s h
section
variable {F : Addr → Prop} {G H G1 H1 : Hp} {p : Addr} {o : HO}
/-- a new object that stands for ever -/
theorem ExtF.imm (e : ExtF F G H G1 H1) (hp : H1 p = none) : ExtF F G H (upd G1 p o) (upd H1 p o) where
  g := fun b u h => by rw [upd_ne (ne_of_none (e.g b u h) (Same.free e.sub hp))]; exact e.g b u h
  h := fun b u h n => by rw [upd_ne (ne_of_none (e.h b u h n) hp)]; exact e.h b u h n
  live := fun b h => by rw [upd_ne (none_ne hp (e.live b h))]; exact e.live b h
  sub := fun b u h => by
    by_cases q : b = p
    · subst q; rw [upd_same] at h ⊢; exact h
    · rw [upd_ne q] at h ⊢; exact e.sub b u h
  old := fun b h => by rw [upd_ne (none_ne (e.free hp) h)]; exact e.old b h
/-- a new object that may change yet -/
theorem ExtF.mut (e : ExtF F G H G1 H1) (hp : H1 p = none) : ExtF F G H G1 (upd H1 p o) where
  g := e.g
  h := fun b u h n => by rw [upd_ne (ne_of_none (e.h b u h n) hp)]; exact e.h b u h n
  live := fun b h => by rw [upd_ne (none_ne hp (e.live b h))]; exact e.live b h
  sub := fun b u h => by rw [upd_ne (ne_of_none (e.sub b u h) hp)]; exact e.sub b u h
  old := e.old
/-- an object of ours changes -/
theorem ExtF.write (e : ExtF F G H G1 H1) (hp : H p = none ∨ F p) (hl : H1 p ≠ none) (hg : G1 p = none) : ExtF F G H G1 (upd H1 p o) where
  g := e.g
  h := fun b u h n => by
    have nb : b ≠ p := fun q => by
      rcases hp with z | z
      · rw [q, z] at h; cases h
      · exact n (q ▸ z)
    rw [upd_ne nb]; exact e.h b u h n
  live := fun b h => by
    by_cases q : b = p
    · subst q; rw [upd_same]; exact Option.some_ne_none o
    · rw [upd_ne q]; exact e.live b h
  sub := fun b u h => by rw [upd_ne (ne_of_none h hg)]; exact e.sub b u h
  old := e.old
/-- from now on it stands for ever -/
theorem ExtF.freeze (e : ExtF F G H G1 H1) (hp : H p = none) (hl : H1 p = some o) (hg : G1 p = none) : ExtF F G H (upd G1 p o) H1 where
  g := fun b u h => by rw [upd_ne (ne_of_none (e.g b u h) hg)]; exact e.g b u h
  h := e.h
  live := e.live
  sub := fun b u h => by
    by_cases q : b = p
    · subst q; rw [upd_same] at h; rw [hl]; exact h
    · rw [upd_ne q] at h; exact e.sub b u h
  old := fun b h => by rw [upd_ne (none_ne hp h)]; exact e.old b h
end
/-! ### pairs of lists -/
theorem Pd.snoc {α β : Type} {R : α → β → Prop} {xs : List α} {ys : List β} {x : α} {y : β} (h : Paired R xs ys) (r : R x y) : Paired R (xs ++ [x]) (ys ++ [y]) := Paired.snoc h r
theorem Pd.app {α β : Type} {R : α → β → Prop} : ∀ {xs xs' : List α} {ys ys' : List β}, Paired R xs ys → Paired R xs' ys' → Paired R (xs ++ xs') (ys ++ ys')
  | _, _, _, _, .nil, h => h
  | _, _, _, _, .cons r t, h => .cons r (Pd.app t h)
theorem Pd.mono {α β : Type} {R R' : α → β → Prop} (m : ∀ x y, R x y → R' x y) : ∀ {xs : List α} {ys : List β}, Paired R xs ys → Paired R' xs ys
  | _, _, .nil => .nil
  | _, _, .cons r t => .cons (m _ _ r) (Pd.mono m t)
theorem Pd.get {α β : Type} {R : α → β → Prop} : ∀ {xs : List α} {ys : List β} {i : Nat} {y : β}, Paired R xs ys → ys[i]? = some y → ∃ x, xs[i]? = some x ∧ R x y
  | _, _, _, _, .nil, h => by simp at h
  | _, _, 0, y, .cons r _, h => by
    have e := Option.some.inj h
    exact ⟨_, rfl, e ▸ r⟩
  | _, _, i + 1, y, .cons _ t, h => Pd.get (i := i) t h
theorem Pd.get' {α β : Type} {R : α → β → Prop} : ∀ {xs : List α} {ys : List β} {i : Nat} {x : α}, Paired R xs ys → xs[i]? = some x → ∃ y, ys[i]? = some y ∧ R x y
  | _, _, _, _, .nil, h => by simp at h
  | _, _, 0, x, .cons r _, h => by
    have e := Option.some.inj h
    exact ⟨_, rfl, e ▸ r⟩
  | _, _, i + 1, x, .cons _ t, h => Pd.get' (i := i) t h
theorem Pd.set {α β : Type} {R : α → β → Prop} {x : α} {y : β} (r : R x y) : ∀ {xs : List α} {ys : List β} (i : Nat), Paired R xs ys → Paired R (xs.set i x) (ys.set i y)
  | _, _, _, .nil => .nil
  | _, _, 0, .cons _ t => .cons r t
  | _, _, i + 1, .cons q t => .cons q (Pd.set r i t)
theorem Pd.cons_inv {α β : Type} {R : α → β → Prop} {xs : List α} {y : β} {ys : List β} (h : Paired R xs (y :: ys)) : ∃ x r, xs = x :: r ∧ R x y ∧ Paired R r ys := by
  cases h with
  | cons a b => exact ⟨_, _, rfl, a, b⟩
theorem Pd.nil_inv {α β : Type} {R : α → β → Prop} {xs : List α} (h : Paired R xs ([] : List β)) : xs = [] := by
  cases h
  rfl
theorem Pd.len {α β : Type} {R : α → β → Prop} {xs : List α} {ys : List β} (h : Paired R xs ys) : xs.length = ys.length := Paired.length h
/-! ### loops by what is left to walk -/
def ForW (J : It) (g : TG) (tb : TS) (D : Ends) (σ : St) (H : Hp) : Prop := ∃ W : Nat → Nat → St → Hp → Prop, (∃ m, W 0 m σ H) ∧ ∀ i m σ H, W i m σ H →
  (J.stop i H ∧ D.nx σ H) ∨
  (J.go i H ∧ ∃ N : St → Hp → Prop, (∀ σ' H', N σ' H' → ∃ m', m' < m ∧ W (i + 1) m' σ' H') ∧ ∀ x H', J.yld i H x H' → g x σ H' fun σ2 H2 => tb { D with nx := N, ct := N, bk := D.nx } σ2 H2)
theorem for_run {K : PySem.W.Frag} {a : Addr} {xs : List V} {g : TG} {tb : TS} {D : Ends} {σ : St} {H : Hp} (P : List V → St → Hp → Prop) (h0 : P xs σ H) (hl : ∀ r σ H, P r σ H → SqL K H a xs)
    (hs : ∀ x r σ H, P (x :: r) σ H → g x σ H fun σ2 H2 => tb { D with nx := P r, ct := P r, bk := D.nx } σ2 H2) (hd : ∀ σ H, P [] σ H → D.nx σ H) : ForW (Itl K a) g tb D σ H := by
  refine for_list (K := K) (a := a) (xs := xs) (fun i σ H => P (xs.drop i) σ H) h0 (fun i σ H _ p => hl _ σ H p) (fun i x σ H hi p => ?_) (fun σ H p => hd σ H (by rw [List.drop_length] at p; exact p))
  have e : xs.drop i = x :: xs.drop (i + 1) := by
    obtain ⟨hlt, hx⟩ := List.getElem?_eq_some_iff.mp hi
    rw [List.drop_eq_getElem_cons hlt, hx]
  exact hs x (xs.drop (i + 1)) σ H (e ▸ p)
theorem for_runT {K : PySem.W.Frag} {a : Addr} {xs : List V} {g : TG} {tb : TS} {D : Ends} {σ : St} {H : Hp} (P : List V → St → Hp → Prop) (h0 : P xs σ H) (hl : ∀ r σ H, P r σ H → SqT K H a xs)
    (hs : ∀ x r σ H, P (x :: r) σ H → g x σ H fun σ2 H2 => tb { D with nx := P r, ct := P r, bk := D.nx } σ2 H2) (hd : ∀ σ H, P [] σ H → D.nx σ H) : ForW (Itt K a) g tb D σ H := by
  refine for_tup (K := K) (a := a) (xs := xs) (fun i σ H => P (xs.drop i) σ H) h0 (fun i σ H _ p => hl _ σ H p) (fun i x σ H hi p => ?_) (fun σ H p => hd σ H (by rw [List.drop_length] at p; exact p))
  have e : xs.drop i = x :: xs.drop (i + 1) := by
    obtain ⟨hlt, hx⟩ := List.getElem?_eq_some_iff.mp hi
    rw [List.drop_eq_getElem_cons hlt, hx]
  exact hs x (xs.drop (i + 1)) σ H (e ▸ p)
/-- a comprehension, D its list -/
def LcW (J : It) (g : TG) (tt : TT) (te : TE) (vs : List Nat) (σ : St) (H1 : Hp) (D : Addr) (Qd : Hp → Prop) : Prop := ∃ W : Nat → Nat → Hp → Prop, (∃ m, W 0 m (upd H1 D (.lst []))) ∧ ∀ i m H, W i m H →
  (J.stop i H ∧ Qd H) ∨
  (J.go i H ∧ ∃ Nx : Hp → Prop, (∀ H', Nx H' → ∃ m', m' < m ∧ W (i + 1) m' H') ∧ ∀ x H', J.yld i H x H' → g x (wipe σ vs) H' fun σ2 H2 => wipe σ2 vs = wipe σ vs ∧ tt σ2 H2 fun b H3 =>
    if b = true then te σ2 H3 fun y H4 => ∃ acc, H4 D = some (.lst acc) ∧ acc.length < sizeLine ∧ Nx (upd H4 D (.lst (acc ++ [y]))) else Nx H3)
theorem lc_run {K : PySem.W.Frag} {a : Addr} {xs : List V} {g : TG} {tt : TT} {te : TE} {vs : List Nat} {σ : St} {H1 : Hp} {D : Addr} {Qd : Hp → Prop} (P : List V → Hp → Prop) (h0 : P xs (upd H1 D (.lst []))) (hl : ∀ r H, P r H → SqL K H a xs)
    (hs : ∀ x r H, P (x :: r) H → g x (wipe σ vs) H fun σ2 H2 => wipe σ2 vs = wipe σ vs ∧ tt σ2 H2 fun b H3 =>
      if b = true then te σ2 H3 fun y H4 => ∃ acc, H4 D = some (.lst acc) ∧ acc.length < sizeLine ∧ P r (upd H4 D (.lst (acc ++ [y]))) else P r H3)
    (hd : ∀ H, P [] H → Qd H) : LcW (Itl K a) g tt te vs σ H1 D Qd := by
  refine lc_list (K := K) (a := a) (xs := xs) (fun i H => P (xs.drop i) H) h0 (fun i H _ p => hl _ H p) (fun i x H hi p => ?_) (fun H p => hd H (by rw [List.drop_length] at p; exact p))
  have e : xs.drop i = x :: xs.drop (i + 1) := by
    obtain ⟨hlt, hx⟩ := List.getElem?_eq_some_iff.mp hi
    rw [List.drop_eq_getElem_cons hlt, hx]
  exact hs x (xs.drop (i + 1)) H (e ▸ p)
theorem lc_str {x : Str} {g : TG} {tt : TT} {te : TE} {vs : List Nat} {σ : St} {H1 : Hp} {D : Addr} {Qd : Hp → Prop} (P : List Nat → Hp → Prop) (h0 : P x.cps.toList (upd H1 D (.lst [])))
    (hs : ∀ c r H, P (c :: r) H → g (.str ⟨#[c]⟩) (wipe σ vs) H fun σ2 H2 => wipe σ2 vs = wipe σ vs ∧ tt σ2 H2 fun b H3 =>
      if b = true then te σ2 H3 fun y H4 => ∃ acc, H4 D = some (.lst acc) ∧ acc.length < sizeLine ∧ P r (upd H4 D (.lst (acc ++ [y]))) else P r H3)
    (hd : ∀ H, P [] H → Qd H) : LcW (Its x) g tt te vs σ H1 D Qd := by
  refine ⟨fun i m H => m = x.cps.size - i ∧ i ≤ x.cps.size ∧ P (x.cps.toList.drop i) H, ⟨x.cps.size, rfl, Nat.zero_le _, h0⟩, ?_⟩
  rintro i m H ⟨rfl, hi, p⟩
  by_cases hlt : i < x.cps.size
  · refine .inr ⟨hlt, P (x.cps.toList.drop (i + 1)), fun H' p' => ⟨x.cps.size - (i + 1), by omega, rfl, hlt, p'⟩, fun v H' y => ?_⟩
    obtain ⟨e, c, hc, ev⟩ := y
    subst e ev
    refine hs c _ _ ?_
    have e : x.cps.toList.drop i = c :: x.cps.toList.drop (i + 1) := by
      have hlt' : i < x.cps.toList.length := by simpa using hlt
      rw [List.drop_eq_getElem_cons hlt']
      congr 1
      have q := (Array.getElem?_eq_some_iff.mp hc).2
      simpa using q
    exact e ▸ p
  · have e : i = x.cps.size := by omega
    subst e
    refine .inl ⟨Nat.le_refl _, hd H ?_⟩
    have e : x.cps.toList.drop x.cps.size = [] := List.drop_eq_nil_of_le (by simp)
    exact e ▸ p
/-- over 0, 1, .. below n -/
theorem lc_rng {n : Nat} {g : TG} {tt : TT} {te : TE} {vs : List Nat} {σ : St} {H1 : Hp} {D : Addr} {Qd : Hp → Prop} (P : Nat → Hp → Prop) (h0 : P 0 (upd H1 D (.lst [])))
    (hs : ∀ i H, i < n → P i H → g (.int (i : Int)) (wipe σ vs) H fun σ2 H2 => wipe σ2 vs = wipe σ vs ∧ tt σ2 H2 fun b H3 =>
      if b = true then te σ2 H3 fun y H4 => ∃ acc, H4 D = some (.lst acc) ∧ acc.length < sizeLine ∧ P (i + 1) (upd H4 D (.lst (acc ++ [y]))) else P (i + 1) H3)
    (hd : ∀ H, P n H → Qd H) : LcW (Itr 0 n) g tt te vs σ H1 D Qd := by
  refine lc_range (lo := 0) (n := n) P h0 (fun i H hi p => ?_) hd
  have q := hs i H hi p
  rw [Int.zero_add]
  exact q
theorem for_rng {n : Nat} {g : TG} {tb : TS} {D : Ends} {σ : St} {H : Hp} (P : Nat → St → Hp → Prop) (h0 : P 0 σ H)
    (hs : ∀ i σ H, i < n → P i σ H → g (.int (i : Int)) σ H fun σ2 H2 => tb { D with nx := P (i + 1), ct := P (i + 1), bk := D.nx } σ2 H2) (hd : ∀ σ H, P n σ H → D.nx σ H) : ForW (Itr 0 n) g tb D σ H := by
  refine for_range (lo := 0) (n := n) P h0 (fun i σ H hi p => ?_) hd
  have q := hs i σ H hi p
  rw [Int.zero_add]
  exact q
/-! ### rules with the written part named: for what stands in a comprehension -/
section
variable {X : Cx} {K : PySem.W.Frag} {ta : TE} {e : Expr} {f : Str} {pos : Pos}
theorem ix_tupK (h : X.K = K := by rfl) : IxR X (rIxT K) := by subst h; exact ix_tup
theorem ix_listK (h : X.K = K := by rfl) : IxR X (rIxL K) := by subst h; exact ix_list
theorem op_in_seqK (h : X.K = K := by rfl) : OpR X (compareOp .In) (rIn K false) := by subst h; exact op_in_seq
theorem pe_fldK (he : PE X e ta) (hb : attributeBase e f X.env (eval e X.env) = eval e X.env) (h : X.K = K := by rfl) : PE X (.Attribute e f pos) (tFld K ta f) := by subst h; exact pe_fld he hb
end
theorem sz0 : 0 ≤ sizeLine := Nat.zero_le _
theorem sz1 : 1 ≤ sizeLine := by decide
theorem sz2 : 2 ≤ sizeLine := by decide
theorem sz3 : 3 ≤ sizeLine := by decide
theorem sz4 : 4 ≤ sizeLine := by decide
theorem sz8 : 8 ≤ sizeLine := by decide
theorem szK {n : Nat} (h : n ≤ 10000000) : n ≤ sizeLine := Nat.le_trans h (by decide)
theorem szk {n : Nat} (h : n ≤ 10000000) : n < sizeLine := Nat.lt_of_le_of_lt h (by decide)
end Ov
set_option maxHeartbeats 0
/-! M1: the head: what is looked at of the defs, the classes, the constants (printed by mkhead.py). -/
namespace Ov
open PySem PySem.Spec PyProof.Rows L2
abbrev RR : PySem.W.OpenSpec := PySem.Challenge.rw_onevolume_s01_answers
def loose0 : List Str := ["__name__", "Malformed", "Refusal", "WrongKind", "OutOfRange", "NOTHING", "NULL", "FALSE", "TRUE", "INTEGER", "TEXT", "LIST", "RECORD", "nothing", "null", "boolean", "integer", "octets_of", "text", "listing", "integers", "record", "is_boolean", "is_integer", "member", "entry_octets", "change_at", "entry_size", "entry_at", "read_entries"]
def loose1 : List Str := ["read_changes", "change_record", "change_records", "FLUSH", "SHUT", "REPLAY", "VERSIONS", "Node", "Volume", "lock_of", "cached", "entries_under_way", "has_block", "transaction_under_way", "change_under_way", "journal_need", "is_lost", "rules_of", "create_volume", "node_number", "running_node", "block_number", "need_held", "need_alone", "need_still", "need_room", "is_held_against", "lock_block", "is_flushed", "unlock_block"]
def loose2 : List Str := ["read_block", "crash_node", "torn_number", "tear", "shut_node", "index_of", "replay_change", "replay_step", "replay_journal", "free_step", "free_locks", "boot_node", "Recovery", "new_recovery", "told", "free_if_not_refused", "next_of_recovery", "close_of_recovery", "are_octets", "read_journal", "journal_of", "state_record", "last_of", "lock_record", "memory_record", "node_record", "write_record", "state_of", "is_pair", "are_pairs"]
def loose3 : List Str := ["pairs_of", "commit_pairs", "flush_block", "is_needed", "trim_journal", "write_of", "land_write", "Shelf", "slot_number", "volume_in", "recovery_in", "call_create", "call_recover", "call_volume", "call_door", "low_octets", "written_text", "written_members", "written_elements", "written_value", "written_return", "written_refusal", "written_malformed", "GREATEST", "ARGUMENTS", "SLOTS", "octet_at", "number_at", "read_integer", "read_text"]
def loose4 : List Str := ["read_list", "read_record", "read_value", "is_digits", "size_of_record", "size_of", "check_limits", "read_request", "answer_of"]
def looseA : List Str := loose0 ++ (loose1 ++ (loose2 ++ (loose3 ++ (loose4))))
def fnX0 : List He.DefD := [⟨("nothing", none), "nothing", "nothing", defArgs (top 14), defBody (top 14), defScope (top 14), [], []⟩,
  ⟨("null", none), "null", "null", defArgs (top 15), defBody (top 15), defScope (top 15), [], []⟩,
  ⟨("boolean", none), "boolean", "boolean", defArgs (top 16), defBody (top 16), defScope (top 16), [], []⟩,
  ⟨("integer", none), "integer", "integer", defArgs (top 17), defBody (top 17), defScope (top 17), [], []⟩,
  ⟨("octets_of", none), "octets_of", "octets_of", defArgs (top 18), defBody (top 18), defScope (top 18), [], []⟩,
  ⟨("text", none), "text", "text", defArgs (top 19), defBody (top 19), defScope (top 19), [], []⟩,
  ⟨("listing", none), "listing", "listing", defArgs (top 20), defBody (top 20), defScope (top 20), [], []⟩,
  ⟨("integers", none), "integers", "integers", defArgs (top 21), defBody (top 21), defScope (top 21), [], []⟩,
  ⟨("record", none), "record", "record", defArgs (top 22), defBody (top 22), defScope (top 22), [], []⟩,
  ⟨("is_boolean", none), "is_boolean", "is_boolean", defArgs (top 23), defBody (top 23), defScope (top 23), [], []⟩,
  ⟨("is_integer", none), "is_integer", "is_integer", defArgs (top 24), defBody (top 24), defScope (top 24), [], []⟩,
  ⟨("member", none), "member", "member", defArgs (top 25), defBody (top 25), defScope (top 25), [], []⟩,
  ⟨("entry_octets", none), "entry_octets", "entry_octets", defArgs (top 27), defBody (top 27), defScope (top 27), [], []⟩,
  ⟨("change_at", none), "change_at", "change_at", defArgs (top 28), defBody (top 28), defScope (top 28), [], []⟩,
  ⟨("entry_size", none), "entry_size", "entry_size", defArgs (top 29), defBody (top 29), defScope (top 29), [], []⟩,
  ⟨("entry_at", none), "entry_at", "entry_at", defArgs (top 30), defBody (top 30), defScope (top 30), [], []⟩,
  ⟨("read_entries", none), "read_entries", "read_entries", defArgs (top 31), defBody (top 31), defScope (top 31), [], []⟩,
  ⟨("read_changes", none), "read_changes", "read_changes", defArgs (top 32), defBody (top 32), defScope (top 32), [], []⟩,
  ⟨("change_record", none), "change_record", "change_record", defArgs (top 33), defBody (top 33), defScope (top 33), [], []⟩,
  ⟨("change_records", none), "change_records", "change_records", defArgs (top 34), defBody (top 34), defScope (top 34), [], []⟩]
def fnX1 : List He.DefD := [⟨("lock_of", none), "lock_of", "lock_of", defArgs (top 42), defBody (top 42), defScope (top 42), [], []⟩,
  ⟨("cached", none), "cached", "cached", defArgs (top 43), defBody (top 43), defScope (top 43), [], []⟩,
  ⟨("entries_under_way", none), "entries_under_way", "entries_under_way", defArgs (top 44), defBody (top 44), defScope (top 44), [], []⟩,
  ⟨("has_block", none), "has_block", "has_block", defArgs (top 45), defBody (top 45), defScope (top 45), [], []⟩,
  ⟨("transaction_under_way", none), "transaction_under_way", "transaction_under_way", defArgs (top 46), defBody (top 46), defScope (top 46), [], []⟩,
  ⟨("change_under_way", none), "change_under_way", "change_under_way", defArgs (top 47), defBody (top 47), defScope (top 47), [], []⟩,
  ⟨("journal_need", none), "journal_need", "journal_need", defArgs (top 48), defBody (top 48), defScope (top 48), [], []⟩,
  ⟨("is_lost", none), "is_lost", "is_lost", defArgs (top 49), defBody (top 49), defScope (top 49), [], []⟩,
  ⟨("node_number", none), "node_number", "node_number", defArgs (top 54), defBody (top 54), defScope (top 54), [], []⟩,
  ⟨("running_node", none), "running_node", "running_node", defArgs (top 55), defBody (top 55), defScope (top 55), [], []⟩,
  ⟨("block_number", none), "block_number", "block_number", defArgs (top 56), defBody (top 56), defScope (top 56), [], []⟩,
  ⟨("need_held", none), "need_held", "need_held", defArgs (top 57), defBody (top 57), defScope (top 57), [], []⟩,
  ⟨("need_alone", none), "need_alone", "need_alone", defArgs (top 58), defBody (top 58), defScope (top 58), [], []⟩,
  ⟨("need_still", none), "need_still", "need_still", defArgs (top 59), defBody (top 59), defScope (top 59), [], []⟩,
  ⟨("need_room", none), "need_room", "need_room", defArgs (top 60), defBody (top 60), defScope (top 60), [], []⟩,
  ⟨("is_held_against", none), "is_held_against", "is_held_against", defArgs (top 62), defBody (top 62), defScope (top 62), [], []⟩,
  ⟨("lock_block", none), "lock_block", "lock_block", defArgs (top 63), defBody (top 63), defScope (top 63), [], []⟩,
  ⟨("is_flushed", none), "is_flushed", "is_flushed", defArgs (top 64), defBody (top 64), defScope (top 64), [], []⟩,
  ⟨("unlock_block", none), "unlock_block", "unlock_block", defArgs (top 65), defBody (top 65), defScope (top 65), [], []⟩,
  ⟨("read_block", none), "read_block", "read_block", defArgs (top 66), defBody (top 66), defScope (top 66), [], []⟩]
def fnX2 : List He.DefD := [⟨("is_pair", none), "is_pair", "is_pair", defArgs (top 98), defBody (top 98), defScope (top 98), [], []⟩,
  ⟨("are_pairs", none), "are_pairs", "are_pairs", defArgs (top 99), defBody (top 99), defScope (top 99), [], []⟩,
  ⟨("pairs_of", none), "pairs_of", "pairs_of", defArgs (top 100), defBody (top 100), defScope (top 100), [], []⟩,
  ⟨("commit_pairs", none), "commit_pairs", "commit_pairs", defArgs (top 101), defBody (top 101), defScope (top 101), [], []⟩,
  ⟨("flush_block", none), "flush_block", "flush_block", defArgs (top 102), defBody (top 102), defScope (top 102), [], []⟩,
  ⟨("is_needed", none), "is_needed", "is_needed", defArgs (top 103), defBody (top 103), defScope (top 103), [], []⟩,
  ⟨("trim_journal", none), "trim_journal", "trim_journal", defArgs (top 104), defBody (top 104), defScope (top 104), [], []⟩,
  ⟨("write_of", none), "write_of", "write_of", defArgs (top 105), defBody (top 105), defScope (top 105), [], []⟩,
  ⟨("land_write", none), "land_write", "land_write", defArgs (top 106), defBody (top 106), defScope (top 106), [], []⟩,
  ⟨("crash_node", none), "crash_node", "crash_node", defArgs (top 68), defBody (top 68), defScope (top 68), [], []⟩,
  ⟨("torn_number", none), "torn_number", "torn_number", defArgs (top 69), defBody (top 69), defScope (top 69), [], []⟩,
  ⟨("tear", none), "tear", "tear", defArgs (top 70), defBody (top 70), defScope (top 70), [], []⟩,
  ⟨("shut_node", none), "shut_node", "shut_node", defArgs (top 71), defBody (top 71), defScope (top 71), [], []⟩,
  ⟨("index_of", none), "index_of", "index_of", defArgs (top 72), defBody (top 72), defScope (top 72), [], []⟩,
  ⟨("replay_change", none), "replay_change", "replay_change", defArgs (top 73), defBody (top 73), defScope (top 73), [], []⟩,
  ⟨("replay_step", none), "replay_step", "replay_step", defArgs (top 74), defBody (top 74), defScope (top 74), [], []⟩,
  ⟨("replay_journal", none), "replay_journal", "replay_journal", defArgs (top 75), defBody (top 75), defScope (top 75), [], []⟩,
  ⟨("free_step", none), "free_step", "free_step", defArgs (top 76), defBody (top 76), defScope (top 76), [], []⟩,
  ⟨("free_locks", none), "free_locks", "free_locks", defArgs (top 77), defBody (top 77), defScope (top 77), [], []⟩,
  ⟨("boot_node", none), "boot_node", "boot_node", defArgs (top 78), defBody (top 78), defScope (top 78), [], []⟩]
def fnX3 : List He.DefD := [⟨("rules_of", none), "rules_of", "rules_of", defArgs (top 51), defBody (top 51), defScope (top 51), [], []⟩,
  ⟨("create_volume", none), "create_volume", "create_volume", defArgs (top 52), defBody (top 52), defScope (top 52), [], []⟩,
  ⟨("are_octets", none), "are_octets", "are_octets", defArgs (top 87), defBody (top 87), defScope (top 87), [], []⟩,
  ⟨("read_journal", none), "read_journal", "read_journal", defArgs (top 88), defBody (top 88), defScope (top 88), [], []⟩,
  ⟨("journal_of", none), "journal_of", "journal_of", defArgs (top 89), defBody (top 89), defScope (top 89), [], []⟩,
  ⟨("state_record", none), "state_record", "state_record", defArgs (top 90), defBody (top 90), defScope (top 90), [], []⟩,
  ⟨("last_of", none), "last_of", "last_of", defArgs (top 91), defBody (top 91), defScope (top 91), [], []⟩,
  ⟨("lock_record", none), "lock_record", "lock_record", defArgs (top 92), defBody (top 92), defScope (top 92), [], []⟩,
  ⟨("memory_record", none), "memory_record", "memory_record", defArgs (top 93), defBody (top 93), defScope (top 93), [], []⟩,
  ⟨("node_record", none), "node_record", "node_record", defArgs (top 94), defBody (top 94), defScope (top 94), [], []⟩]
def fnXA : List He.DefD := fnX0 ++ (fnX1 ++ (fnX2 ++ (fnX3)))
def fnY0 : List He.DefD := [⟨("write_record", none), "write_record", "write_record", defArgs (top 95), defBody (top 95), defScope (top 95), [], []⟩,
  ⟨("state_of", none), "state_of", "state_of", defArgs (top 96), defBody (top 96), defScope (top 96), [], []⟩,
  ⟨("told", none), "told", "told", defArgs (top 82), defBody (top 82), defScope (top 82), [], []⟩,
  ⟨("new_recovery", none), "new_recovery", "new_recovery", defArgs (top 81), defBody (top 81), defScope (top 81), [], []⟩,
  ⟨("free_if_not_refused", none), "free_if_not_refused", "free_if_not_refused", defArgs (top 83), defBody (top 83), defScope (top 83), [], []⟩,
  ⟨("next_of_recovery", none), "next_of_recovery", "next_of_recovery", defArgs (top 84), defBody (top 84), defScope (top 84), [], []⟩,
  ⟨("close_of_recovery", none), "close_of_recovery", "close_of_recovery", defArgs (top 85), defBody (top 85), defScope (top 85), [], []⟩,
  ⟨("low_octets", none), "low_octets", "low_octets", defArgs (top 117), defBody (top 117), defScope (top 117), [], []⟩,
  ⟨("written_text", none), "written_text", "written_text", defArgs (top 118), defBody (top 118), defScope (top 118), [], []⟩,
  ⟨("written_elements", none), "written_elements", "written_elements", defArgs (top 120), defBody (top 120), defScope (top 120), [], []⟩,
  ⟨("written_members", none), "written_members", "written_members", defArgs (top 119), defBody (top 119), defScope (top 119), [], []⟩,
  ⟨("written_value", none), "written_value", "written_value", defArgs (top 121), defBody (top 121), defScope (top 121), [], []⟩,
  ⟨("written_return", none), "written_return", "written_return", defArgs (top 122), defBody (top 122), defScope (top 122), [], []⟩,
  ⟨("written_refusal", none), "written_refusal", "written_refusal", defArgs (top 123), defBody (top 123), defScope (top 123), [], []⟩,
  ⟨("written_malformed", none), "written_malformed", "written_malformed", defArgs (top 124), defBody (top 124), defScope (top 124), [], []⟩,
  ⟨("octet_at", none), "octet_at", "octet_at", defArgs (top 129), defBody (top 129), defScope (top 129), [], []⟩,
  ⟨("number_at", none), "number_at", "number_at", defArgs (top 130), defBody (top 130), defScope (top 130), [], []⟩,
  ⟨("read_integer", none), "read_integer", "read_integer", defArgs (top 131), defBody (top 131), defScope (top 131), [], []⟩,
  ⟨("read_text", none), "read_text", "read_text", defArgs (top 132), defBody (top 132), defScope (top 132), [], []⟩,
  ⟨("read_list", none), "read_list", "read_list", defArgs (top 133), defBody (top 133), defScope (top 133), [], []⟩]
def fnY1 : List He.DefD := [⟨("read_record", none), "read_record", "read_record", defArgs (top 134), defBody (top 134), defScope (top 134), [], []⟩,
  ⟨("read_value", none), "read_value", "read_value", defArgs (top 135), defBody (top 135), defScope (top 135), [], []⟩,
  ⟨("is_digits", none), "is_digits", "is_digits", defArgs (top 136), defBody (top 136), defScope (top 136), [], []⟩,
  ⟨("size_of", none), "size_of", "size_of", defArgs (top 138), defBody (top 138), defScope (top 138), [], []⟩,
  ⟨("size_of_record", none), "size_of_record", "size_of_record", defArgs (top 137), defBody (top 137), defScope (top 137), [], []⟩,
  ⟨("check_limits", none), "check_limits", "check_limits", defArgs (top 139), defBody (top 139), defScope (top 139), [], []⟩,
  ⟨("read_request", none), "read_request", "read_request", defArgs (top 140), defBody (top 140), defScope (top 140), [], []⟩,
  ⟨("call_volume", none), "call_volume", "call_volume", defArgs (top 114), defBody (top 114), defScope (top 114), [], []⟩,
  ⟨("slot_number", none), "slot_number", "slot_number", defArgs (top 109), defBody (top 109), defScope (top 109), [], []⟩,
  ⟨("volume_in", none), "volume_in", "volume_in", defArgs (top 110), defBody (top 110), defScope (top 110), [], []⟩,
  ⟨("recovery_in", none), "recovery_in", "recovery_in", defArgs (top 111), defBody (top 111), defScope (top 111), [], []⟩,
  ⟨("call_create", none), "call_create", "call_create", defArgs (top 112), defBody (top 112), defScope (top 112), [], []⟩,
  ⟨("call_recover", none), "call_recover", "call_recover", defArgs (top 113), defBody (top 113), defScope (top 113), [], []⟩,
  ⟨("call_door", none), "call_door", "call_door", defArgs (top 115), defBody (top 115), defScope (top 115), [], []⟩,
  ⟨("answer_of", none), "answer_of", "answer_of", defArgs (top 142), defBody (top 142), defScope (top 142), [], []⟩,
  ⟨("answers", none), "answers", "answers", defArgs (top 143), defBody (top 143), defScope (top 143), [], []⟩,
  ⟨("Node", some "lose"), "lose", "Node.lose", defArgs (inClass (top 40) 1), defBody (inClass (top 40) 1), defScope (inClass (top 40) 1), [], []⟩,
  ⟨("Node", some "close_out"), "close_out", "Node.close_out", defArgs (inClass (top 40) 2), defBody (inClass (top 40) 2), defScope (inClass (top 40) 2), [], []⟩,
  ⟨("Node", some "begin"), "begin", "Node.begin", defArgs (inClass (top 40) 3), defBody (inClass (top 40) 3), defScope (inClass (top 40) 3), [], []⟩,
  ⟨("Node", some "keep"), "keep", "Node.keep", defArgs (inClass (top 40) 4), defBody (inClass (top 40) 4), defScope (inClass (top 40) 4), [], []⟩]
def fnY2 : List He.DefD := [⟨("Node", some "renew"), "renew", "Node.renew", defArgs (inClass (top 40) 5), defBody (inClass (top 40) 5), defScope (inClass (top 40) 5), [], []⟩,
  ⟨("Node", some "leave"), "leave", "Node.leave", defArgs (inClass (top 40) 6), defBody (inClass (top 40) 6), defScope (inClass (top 40) 6), [], []⟩,
  ⟨("Node", some "arrive"), "arrive", "Node.arrive", defArgs (inClass (top 40) 7), defBody (inClass (top 40) 7), defScope (inClass (top 40) 7), [], []⟩,
  ⟨("Node", some "empty"), "empty", "Node.empty", defArgs (inClass (top 40) 8), defBody (inClass (top 40) 8), defScope (inClass (top 40) 8), [], []⟩,
  ⟨("Node", some "remember"), "remember", "Node.remember", defArgs (inClass (top 40) 9), defBody (inClass (top 40) 9), defScope (inClass (top 40) 9), [], []⟩,
  ⟨("Node", some "told_replayed"), "told_replayed", "Node.told_replayed", defArgs (inClass (top 40) 10), defBody (inClass (top 40) 10), defScope (inClass (top 40) 10), [], []⟩,
  ⟨("Node", some "told_freed"), "told_freed", "Node.told_freed", defArgs (inClass (top 40) 11), defBody (inClass (top 40) 11), defScope (inClass (top 40) 11), [], []⟩,
  ⟨("Volume", some "node_at"), "node_at", "Volume.node_at", defArgs (inClass (top 41) 1), defBody (inClass (top 41) 1), defScope (inClass (top 41) 1), [], []⟩,
  ⟨("Volume", some "give_lock"), "give_lock", "Volume.give_lock", defArgs (inClass (top 41) 2), defBody (inClass (top 41) 2), defScope (inClass (top 41) 2), [], []⟩,
  ⟨("Volume", some "drop_lock"), "drop_lock", "Volume.drop_lock", defArgs (inClass (top 41) 3), defBody (inClass (top 41) 3), defScope (inClass (top 41) 3), [], []⟩,
  ⟨("Volume", some "drop_locks"), "drop_locks", "Volume.drop_locks", defArgs (inClass (top 41) 4), defBody (inClass (top 41) 4), defScope (inClass (top 41) 4), [], []⟩,
  ⟨("Volume", some "put"), "put", "Volume.put", defArgs (inClass (top 41) 5), defBody (inClass (top 41) 5), defScope (inClass (top 41) 5), [], []⟩,
  ⟨("Volume", some "start_write"), "start_write", "Volume.start_write", defArgs (inClass (top 41) 6), defBody (inClass (top 41) 6), defScope (inClass (top 41) 6), [], []⟩,
  ⟨("Volume", some "start_transaction"), "start_transaction", "Volume.start_transaction", defArgs (inClass (top 41) 7), defBody (inClass (top 41) 7), defScope (inClass (top 41) 7), [], []⟩,
  ⟨("Volume", some "settle"), "settle", "Volume.settle", defArgs (inClass (top 41) 8), defBody (inClass (top 41) 8), defScope (inClass (top 41) 8), [], []⟩,
  ⟨("Volume", some "end_write"), "end_write", "Volume.end_write", defArgs (inClass (top 41) 9), defBody (inClass (top 41) 9), defScope (inClass (top 41) 9), [], []⟩,
  ⟨("Volume", some "lose_writes"), "lose_writes", "Volume.lose_writes", defArgs (inClass (top 41) 10), defBody (inClass (top 41) 10), defScope (inClass (top 41) 10), [], []⟩,
  ⟨("Recovery", some "end"), "end", "Recovery.end", defArgs (inClass (top 80) 1), defBody (inClass (top 80) 1), defScope (inClass (top 80) 1), [], []⟩,
  ⟨("Shelf", some "fill_volume"), "fill_volume", "Shelf.fill_volume", defArgs (inClass (top 108) 1), defBody (inClass (top 108) 1), defScope (inClass (top 108) 1), [], []⟩,
  ⟨("Shelf", some "fill_recovery"), "fill_recovery", "Shelf.fill_recovery", defArgs (inClass (top 108) 2), defBody (inClass (top 108) 2), defScope (inClass (top 108) 2), [], []⟩]
def fnY3 : List He.DefD := [⟨("Node", some "__init__"), "__init__", "Node.__init__", defArgs (inClass (top 40) 0), defBody (inClass (top 40) 0), defScope (inClass (top 40) 0), [], []⟩,
  ⟨("Volume", some "__init__"), "__init__", "Volume.__init__", defArgs (inClass (top 41) 0), defBody (inClass (top 41) 0), defScope (inClass (top 41) 0), [], []⟩,
  ⟨("Recovery", some "__init__"), "__init__", "Recovery.__init__", defArgs (inClass (top 80) 0), defBody (inClass (top 80) 0), defScope (inClass (top 80) 0), [], []⟩,
  ⟨("Shelf", some "__init__"), "__init__", "Shelf.__init__", defArgs (inClass (top 108) 0), defBody (inClass (top 108) 0), defScope (inClass (top 108) 0), [], []⟩,
  ⟨("Refusal", some "__init__"), "__init__", "Refusal.__init__", defArgs (inClass (top 2) 0), defBody (inClass (top 2) 0), defScope (inClass (top 2) 0), [], []⟩]
def fnYA : List He.DefD := fnY0 ++ (fnY1 ++ (fnY2 ++ (fnY3)))
def fnLA : List He.DefD := fnXA ++ fnYA
def faL0 : List He.Fa := [.glo "nothing",
  .glo "null",
  .glo "boolean",
  .glo "integer",
  .glo "octets_of",
  .glo "text",
  .glo "listing",
  .glo "integers",
  .glo "record",
  .glo "is_boolean",
  .glo "is_integer",
  .glo "member",
  .glo "entry_octets",
  .glo "change_at",
  .glo "entry_size",
  .glo "entry_at",
  .glo "read_entries",
  .glo "read_changes",
  .glo "change_record",
  .glo "change_records"]
def faL1 : List He.Fa := [.glo "lock_of",
  .glo "cached",
  .glo "entries_under_way",
  .glo "has_block",
  .glo "transaction_under_way",
  .glo "change_under_way",
  .glo "journal_need",
  .glo "is_lost",
  .glo "node_number",
  .glo "running_node",
  .glo "block_number",
  .glo "need_held",
  .glo "need_alone",
  .glo "need_still",
  .glo "need_room",
  .glo "is_held_against",
  .glo "lock_block",
  .glo "is_flushed",
  .glo "unlock_block",
  .glo "read_block"]
def faL2 : List He.Fa := [.glo "is_pair",
  .glo "are_pairs",
  .glo "pairs_of",
  .glo "commit_pairs",
  .glo "flush_block",
  .glo "is_needed",
  .glo "trim_journal",
  .glo "write_of",
  .glo "land_write",
  .glo "crash_node",
  .glo "torn_number",
  .glo "tear",
  .glo "shut_node",
  .glo "index_of",
  .glo "replay_change",
  .glo "replay_step",
  .glo "replay_journal",
  .glo "free_step",
  .glo "free_locks",
  .glo "boot_node"]
def faL3 : List He.Fa := [.glo "rules_of",
  .glo "create_volume",
  .glo "are_octets",
  .glo "read_journal",
  .glo "journal_of",
  .glo "state_record",
  .glo "last_of",
  .glo "lock_record",
  .glo "memory_record",
  .glo "node_record",
  .glo "write_record",
  .glo "state_of",
  .glo "told",
  .glo "new_recovery",
  .glo "free_if_not_refused",
  .glo "next_of_recovery",
  .glo "close_of_recovery",
  .glo "low_octets",
  .glo "written_text",
  .glo "written_elements"]
def faL4 : List He.Fa := [.glo "written_members",
  .glo "written_value",
  .glo "written_return",
  .glo "written_refusal",
  .glo "written_malformed",
  .glo "octet_at",
  .glo "number_at",
  .glo "read_integer",
  .glo "read_text",
  .glo "read_list",
  .glo "read_record",
  .glo "read_value",
  .glo "is_digits",
  .glo "size_of",
  .glo "size_of_record",
  .glo "check_limits",
  .glo "read_request",
  .glo "call_volume",
  .glo "slot_number",
  .glo "volume_in"]
def faL5 : List He.Fa := [.glo "recovery_in",
  .glo "call_create",
  .glo "call_recover",
  .glo "call_door",
  .glo "answer_of",
  .glo "answers",
  .glo "Node",
  .cls "Node",
  .mkr "Node",
  .glo "Volume",
  .cls "Volume",
  .mkr "Volume",
  .glo "Recovery",
  .cls "Recovery",
  .mkr "Recovery",
  .glo "Shelf",
  .cls "Shelf",
  .mkr "Shelf",
  .meth "Node" "lose",
  .meth "Node" "close_out"]
def faL6 : List He.Fa := [.meth "Node" "begin",
  .meth "Node" "keep",
  .meth "Node" "renew",
  .meth "Node" "leave",
  .meth "Node" "arrive",
  .meth "Node" "empty",
  .meth "Node" "remember",
  .meth "Node" "told_replayed",
  .meth "Node" "told_freed",
  .meth "Volume" "node_at",
  .meth "Volume" "give_lock",
  .meth "Volume" "drop_lock",
  .meth "Volume" "drop_locks",
  .meth "Volume" "put",
  .meth "Volume" "start_write",
  .meth "Volume" "start_transaction",
  .meth "Volume" "settle",
  .meth "Volume" "end_write",
  .meth "Volume" "lose_writes",
  .meth "Recovery" "end"]
def faL7 : List He.Fa := [.meth "Shelf" "fill_volume",
  .meth "Shelf" "fill_recovery",
  .glo "Malformed",
  .glo "Refusal",
  .glo "WrongKind",
  .glo "OutOfRange",
  .glo "ARGUMENTS",
  .glo "SLOTS",
  .free "len",
  .free "range",
  .free "ord",
  .free "list",
  .free "tuple",
  .int "NOTHING" 0,
  .int "NULL" 1,
  .int "FALSE" 2,
  .int "TRUE" 3,
  .int "INTEGER" 4,
  .int "TEXT" 6,
  .int "LIST" 7]
def faL8 : List He.Fa := [.int "RECORD" 8,
  .int "FLUSH" 0,
  .int "SHUT" 1,
  .int "REPLAY" 2,
  .int "VERSIONS" 3,
  .int "GREATEST" 9007199254740991,
  .exm "WrongKind" "Malformed" false,
  .exm "OutOfRange" "Malformed" false,
  .exm "WrongKind" "WrongKind" true,
  .exm "OutOfRange" "WrongKind" false,
  .exm "OutOfRange" "OutOfRange" true,
  .exm "WrongKind" "Refusal" true,
  .exm "OutOfRange" "Refusal" true,
  .keep "WrongKind",
  .keep "OutOfRange",
  .noat "Node" "running",
  .noat "Node" "shut",
  .noat "Node" "replayed",
  .noat "Node" "freed",
  .noat "Node" "life"]
def faL9 : List He.Fa := [.noat "Node" "cache",
  .noat "Node" "journal",
  .noat "Node" "memory",
  .noat "Volume" "blocks",
  .noat "Volume" "rules",
  .noat "Volume" "disk",
  .noat "Volume" "last",
  .noat "Volume" "nodes",
  .noat "Volume" "locks",
  .noat "Volume" "writes",
  .noat "Volume" "committed",
  .noat "Volume" "many_writes",
  .noat "Volume" "many_transactions",
  .noat "Recovery" "volume",
  .noat "Recovery" "by",
  .noat "Recovery" "lost",
  .noat "Recovery" "ended",
  .noat "Shelf" "volumes",
  .noat "Shelf" "recoveries"]
def faLA : List He.Fa := faL0 ++ (faL1 ++ (faL2 ++ (faL3 ++ (faL4 ++ (faL5 ++ (faL6 ++ (faL7 ++ (faL8 ++ (faL9)))))))))
/-! ### the Hook -/
def extIn (K : PySem.W.Frag) (C : Addr) : Bool := match K.lookup C with
  | some ⟨.type "type", _, .cls cd, sl⟩ => (match cd.mro, sl.toList with
    | [.ref C', .ref _, .type a, .type b, .type c], [_, _, _, _, some (.builtin n), _] => C' == C && (a == "Exception" && (b == "BaseException" && (c == "object" && (n == "Exception.__new__" && (!cd.hasDel && cd.hasDict)))))
    | _, _ => false)
  | _ => false
theorem extIn_ok {K : PySem.W.Frag} {C : Addr} (q : extIn K C = true) : ∃ nm q N bs R sn sub ab col dd k0 k1 k2 k3 k5, K.lookup C = some (excClassObj nm q C N bs (.ref R :: PySem.ESX.exTail) true sn sub ab col dd k0 k1 k2 k3 k5 "Exception.__new__") := by
  unfold extIn at q
  split at q
  · rename_i dd cd sl ho
    split at q
    · rename_i C' R a b c k0 k1 k2 k3 n k5 hm hs
      simp only [Bool.and_eq_true, beq_iff_eq, Bool.not_eq_true'] at q
      obtain ⟨rfl, rfl, rfl, rfl, rfl, hdel, hdic⟩ := q
      obtain ⟨nm, bs, mro, ns, qn, hd, sn, sub, ab, col, del⟩ := cd
      dsimp only at hm hdel hdic
      subst hm hdel hdic
      have hsl : sl = #[k0, k1, k2, k3, some (.builtin "Exception.__new__"), k5] := by
        obtain ⟨l⟩ := sl
        simp only at hs
        rw [hs]
      subst hsl
      exact ⟨nm, qn, ns, bs, R, sn, sub, ab, col, dd, k0, k1, k2, k3, k5, ho⟩
    · cases q
  · cases q
def extB (K : PySem.W.Frag) (C : Addr) : Bool := extIn K C && (He.eqO (PySem.W.findIn K (.ref C) "__setattr__") (some (some (.builtin "object.__setattr__"))) && (xfB K C && (He.eqO (PySem.W.findIn K (.ref C) "words") (some none) &&
  (He.eqO (PySem.W.findIn K (.ref C) "__init__") (some (some (.ref (He.fAd K ("Refusal", some "__init__"))))) && (decide (PySem.W.typeIn K (.ref (He.fAd K ("Refusal", some "__init__"))) = some (.type "function")) && decide (PySem.W.typeIn K (.ref C) = some (.type "type")))))))
def tupA : List Int := [2, 4, 4, 3, 3, 3, 3, 2, 2, 2, 3, 3, 2, 2, 2, 2, 1, 4, 1, 2]
def tupS : List Int := [0, 1, 1, 1, 1, 1, 1, 1, 1, 1, 1, 1, 1, 1, 1, 1, 1, 2, 1, 1]
abbrev AlM : Type := Bool × List He.FnW
def obsM (K : PySem.W.Frag) : AlM := ((faLA.all fun f => f.ok K) && ((fnLA.all fun d => d.ok K) && (He.tupB K "ARGUMENTS" (tupA.map He.Dv.int) && (He.tupB K "SLOTS" (tupS.map He.Dv.int) && (extB K (He.ga K "WrongKind") && extB K (He.ga K "OutOfRange"))))), fnLA.map fun d => He.fnW K d.at_)
def valM : AlM := (true, fnLA.map He.DefD.val)
def SaysM (K : PySem.W.Frag) : Prop := obsM K = valM
/-- what an object names, as far as the facts go -/
def kidsM (o : Obj) : List Addr := match o.data with
  | .func fd => He.refV fd.code
  | .cls cd => [cd.ns]
  | _ => []
def valsM (o : Obj) : List Addr := match o.data with
  | .dict es _ => es.toList.flatMap fun e => He.refV e.val
  | _ => []
def overM (f : Obj → List Addr) (g : Addr → Option Obj) (as : List Addr) : List Addr := as.flatMap fun a => match g a with
  | some o => f o
  | none => []
def asM1 (g : Addr → Option Obj) : List Addr := overM valsM g [mainGlobals]
def asM2 (g : Addr → Option Obj) (l1 : List Addr) : List Addr := overM kidsM g l1
def asM3 (g : Addr → Option Obj) (l2 : List Addr) : List Addr := overM valsM g l2
def asM4 (g : Addr → Option Obj) (l1 l2 l3 : List Addr) : List Addr := mainGlobals :: (l1 ++ (l2 ++ (l3 ++ overM kidsM g l3)))
def asM (g : Addr → Option Obj) : List Addr := asM4 g (asM1 g) (asM2 g (asM1 g)) (asM3 g (asM2 g (asM1 g)))
def obsMG (g : Addr → Option Obj) : AlM := obsM (He.frG g (asM g))
abbrev hkM : PySem.W.Hook where
  α := AlM
  obs := fun s => obsMG s.heap.get?
  val := fun _ => valM
  says := fun _ h => ∃ K : PySem.W.Frag, K.In h ∧ SaysM K
  of := fun _ _ e => ⟨_, He.frG_in, e⟩
  keeps := fun _ _ _ ⟨K, hK, c⟩ k => ⟨K, PySem.W.Frag.In.keeps hK k, c⟩
def obM (s : PySem.W.SharedT) : AlM := obsMG (HandSHeadRun.getT s)
theorem obM_eq (s : PySem.W.SharedT) : obM s = hkM.obs s.abs := by
  have e : HandSHeadRun.getT s = s.abs.heap.get? := funext fun a => HandSHeadRun.getT_eq s a
  show obsMG (HandSHeadRun.getT s) = obsMG s.abs.heap.get?
  rw [e]
end Ov
set_option maxHeartbeats 0
/-! M2: the top is run, once for each part of what is looked at. -/
namespace Ov
open PySem PySem.Spec PyProof.Rows L2
def forceL {α : Type} : List Addr → (List Addr → α) → α
  | [], k => k []
  | a :: r, k => HandSHeadRun.frNat a fun a => forceL r fun r => k (a :: r)
theorem forceL_eq {α : Type} : ∀ (l : List Addr) (k : List Addr → α), forceL l k = k l
  | [], k => rfl
  | a :: r, k => by rw [forceL, HandSHeadRun.frNat_eq, forceL_eq r]
def frO {α : Type} (o : Obj) (k : Obj → α) : α := match o with
  | ⟨c, d, dt, sl⟩ => k ⟨c, d, dt, sl⟩
def forceK {α : Type} (g : Addr → Option Obj) : List Addr → (PySem.W.Frag → α) → α
  | [], k => k []
  | a :: r, k => match g a with
    | some o => frO o fun o => forceK g r fun K => k ((a, o) :: K)
    | none => forceK g r k
theorem forceK_eq {α : Type} (g : Addr → Option Obj) : ∀ (l : List Addr) (k : PySem.W.Frag → α), forceK g l k = k (He.frG g l)
  | [], k => rfl
  | a :: r, k => by
    rw [forceK]
    cases h : g a with
    | none =>
      have e : He.frG g (a :: r) = He.frG g r := by
        unfold He.frG
        rw [List.filterMap_cons, h]
        rfl
      rw [e]
      exact forceK_eq g r k
    | some o =>
      have e : He.frG g (a :: r) = (a, o) :: He.frG g r := by
        unfold He.frG
        rw [List.filterMap_cons, h]
        rfl
      rw [e]
      show frO o (fun o => forceK g r fun K => k ((a, o) :: K)) = _
      obtain ⟨c, d, dt, sl⟩ := o
      exact forceK_eq g r _
def lookM {α : Type} (f : PySem.W.Frag → α) (s : PySem.W.SharedT) : α := (fun g => forceL (asM g) fun as => forceK g as f) (HandSHeadRun.getT s)
theorem lookM_eq {α : Type} (f : PySem.W.Frag → α) (s : PySem.W.SharedT) : lookM f s = f (He.frG (HandSHeadRun.getT s) (asM (HandSHeadRun.getT s))) := by
  show forceL (asM (HandSHeadRun.getT s)) (fun as => forceK (HandSHeadRun.getT s) as f) = _
  rw [forceL_eq, forceK_eq]
noncomputable abbrev endM (w : World) (os : OsState) : Option PySem.W.SharedT := HandSHeadRun.endF (HandSHeadRun.stepQ (HandSHeadRun.denQ HandSHeadRun.tabQ) RR.prog w) 20000 RR.prog w os
def b1 (K : PySem.W.Frag) : Bool := faLA.all fun f => f.ok K
def b3 (K : PySem.W.Frag) : Bool := He.tupB K "ARGUMENTS" (tupA.map He.Dv.int) && (He.tupB K "SLOTS" (tupS.map He.Dv.int) && (extB K (He.ga K "WrongKind") && extB K (He.ga K "OutOfRange")))
def b13 (K : PySem.W.Frag) : Bool := b1 K && b3 K
def bX (K : PySem.W.Frag) : Bool × List He.FnW := (fnXA.all fun d => d.ok K, fnXA.map fun d => He.fnW K d.at_)
def bY (K : PySem.W.Frag) : Bool × List He.FnW := (fnYA.all fun d => d.ok K, fnYA.map fun d => He.fnW K d.at_)
abbrev viewM : Program := PySem.W.view RR.prog [143]
theorem runL (w : World) (os : OsState) : (endM w os).map (fun s => HandSHeadRun.looksF RR.prog (PySem.W.boot_heap w.params) s.abs) = some true := by kernel_rfl
theorem runS (w : World) (os : OsState) : (endM w os).map (fun s => HandSHeadRun.seenQ viewM looseA (importedModules RR.prog.main.body) (fun s => PySem.W.xlAt viewM [] s && PySem.W.recOk [] s) s.abs) = some (PySem.W.openGood viewM looseA) := by kernel_rfl
theorem run1 (w : World) (os : OsState) : (endM w os).map (lookM b13) = some true := by kernel_rfl
theorem runX (w : World) (os : OsState) : (endM w os).map (lookM bX) = some (true, fnXA.map He.DefD.val) := by kernel_rfl
theorem runY (w : World) (os : OsState) : (endM w os).map (lookM bY) = some (true, fnYA.map He.DefD.val) := by kernel_rfl
theorem at_of {α : Type} {f : PySem.W.SharedT → α} {v : α} {o : Option PySem.W.SharedT} {s : PySem.W.SharedT} (r : o.map f = some v) (h : o = some s) : f s = v := by
  rw [h] at r
  exact Option.some.inj r
theorem obs_of {s : PySem.W.SharedT} (e1 : lookM b13 s = true) (eX : lookM bX s = (true, fnXA.map He.DefD.val)) (eY : lookM bY s = (true, fnYA.map He.DefD.val)) : obM s = valM := by
  rw [lookM_eq] at e1 eX eY
  obtain ⟨k1, k3⟩ := He.ba e1
  obtain ⟨x1, x2⟩ := Prod.mk.inj eX
  obtain ⟨y1, y2⟩ := Prod.mk.inj eY
  have k2 : ∀ K, (fnLA.all fun d => d.ok K) = ((fnXA.all fun d => d.ok K) && fnYA.all fun d => d.ok K) := fun K => List.all_append
  have k4 : ∀ K, (fnLA.map fun d => He.fnW K d.at_) = (fnXA.map fun d => He.fnW K d.at_) ++ fnYA.map fun d => He.fnW K d.at_ := fun K => List.map_append
  have k5 : fnLA.map He.DefD.val = fnXA.map He.DefD.val ++ fnYA.map He.DefD.val := List.map_append
  refine Prod.ext ?_ ?_
  · show (b1 _ && ((fnLA.all fun d => d.ok _) && b3 _)) = true
    rw [k1, k3, k2, x1, y1]
    rfl
  · show (fnLA.map fun d => He.fnW _ d.at_) = fnLA.map He.DefD.val
    rw [k4, k5, x2, y2]
theorem run (w : World) : HandSHeadRun.RunEqS RR viewM hkM obM 20000 looseA w := by
  intro os
  obtain ⟨s, hs, hv⟩ := Option.map_eq_some_iff.mp (runL w os)
  refine Option.map_eq_some_iff.mpr ⟨s, hs, ?_⟩
  exact Prod.ext hv (Prod.ext (at_of (runS w os) hs) (obs_of (at_of (run1 w os) hs) (at_of (runX w os) hs) (at_of (runY w os) hs)))
end Ov
set_option maxHeartbeats 0
/-! M3: the looks at the program's text, each by itself. -/
namespace Ov
open PySem PySem.W PySem.Calls PyProof.Rows
theorem well : RR.wellSaid = true := by
  unfold OpenSpec.wellSaid looksOpen
  simp only [Bool.and_eq_true]
  refine ⟨⟨⟨⟨⟨⟨⟨⟨⟨⟨?_, ?_⟩, ?_⟩, ?_⟩, ?_⟩, ?_⟩, ?_⟩, ?_⟩, ?_⟩, ?_⟩, ?_⟩
  · (decide +kernel)
  · (decide +kernel)
  · (decide +kernel)
  · (decide +kernel)
  · (decide +kernel)
  · (decide +kernel)
  · (decide +kernel)
  · (decide +kernel)
  · (decide +kernel)
  · (decide +kernel)
  · (decide +kernel)
abbrev dM : DefRec := HandSHeadRun.topDef RR.prog 143
theorem h_open : opening RR.prog = plainProg RR.prog.main.scope.names := by kernel_rfl
theorem h_fence (s : Shared) : fenceModules? RR.prog s = some s := by kernel_rfl
theorem h_def : defOf viewM RR.name = some (dM, []) := by kernel_rfl
theorem h_the : RR.prog.theDef RR.name = some (dM.params, dM.body, dM.scope) := by kernel_rfl
theorem h_kw : kwWritten? dM.params.kwonlyargs dM.params.kw_defaults = some [] := by kernel_rfl
theorem h_chains : chainsOk viewM = true := by decide +kernel
theorem h_opens : opensWell RR.prog = true := by decide +kernel
theorem h_both : (chainsOk viewM && opensWell RR.prog) = true := by
  rw [h_chains, h_opens]
  rfl
theorem h_bare : RR.prog.bare := ⟨rfl, rfl, rfl, rfl, rfl, by decide +kernel⟩
def witM : List WData := [.list [.int 0, .int 17, .int 0, .int 0, .int 2, .int 4, .int 0, .int 0, .int 0, .int 0, .int 0, .int 0, .int 0, .int 0, .int 7, .int 0, .int 0, .int 0, .int 0]]
theorem h_wit : ∃ args, RR.pre args = true ∧ WData.layableAll args = true := ⟨witM, by decide +kernel, by decide +kernel⟩
end Ov
set_option maxHeartbeats 2000000
/-! B2: what the top has written (Txt); values as they lie in the heap. -/
namespace Ov
open PySem PySem.Spec PyProof.Rows L2
open R7237f.Spec (Plain Units Item Cell Lock Replay Op Way Entry)
abbrev cNode (K : PySem.W.Frag) : Addr := He.ga K "Node"
abbrev cVol (K : PySem.W.Frag) : Addr := He.ga K "Volume"
abbrev cRec (K : PySem.W.Frag) : Addr := He.ga K "Recovery"
abbrev cShelf (K : PySem.W.Frag) : Addr := He.ga K "Shelf"
/-- the module's numbers, the built-ins, the classes -/
structure Txt (K : PySem.W.Frag) (mg : Str → Option Value) : Prop where
  i_NOTHING : ∃ t, mg "NOTHING" = some (.int 0 t)
  i_NULL : ∃ t, mg "NULL" = some (.int 1 t)
  i_FALSE : ∃ t, mg "FALSE" = some (.int 2 t)
  i_TRUE : ∃ t, mg "TRUE" = some (.int 3 t)
  i_INTEGER : ∃ t, mg "INTEGER" = some (.int 4 t)
  i_TEXT : ∃ t, mg "TEXT" = some (.int 6 t)
  i_LIST : ∃ t, mg "LIST" = some (.int 7 t)
  i_RECORD : ∃ t, mg "RECORD" = some (.int 8 t)
  i_FLUSH : ∃ t, mg "FLUSH" = some (.int 0 t)
  i_SHUT : ∃ t, mg "SHUT" = some (.int 1 t)
  i_REPLAY : ∃ t, mg "REPLAY" = some (.int 2 t)
  i_VERSIONS : ∃ t, mg "VERSIONS" = some (.int 3 t)
  i_GREATEST : ∃ t, mg "GREATEST" = some (.int 9007199254740991 t)
  g_ARGUMENTS : mg "ARGUMENTS" = some (.ref (He.ga K "ARGUMENTS"))
  g_SLOTS : mg "SLOTS" = some (.ref (He.ga K "SLOTS"))
  t_ARGUMENTS : ∀ H : Hp, SqT K H (He.ga K "ARGUMENTS") (([2, 4, 4, 3, 3, 3, 3, 2, 2, 2, 3, 3, 2, 2, 2, 2, 1, 4, 1, 2] : List Int).map V.int)
  t_SLOTS : ∀ H : Hp, SqT K H (He.ga K "SLOTS") (([0, 1, 1, 1, 1, 1, 1, 1, 1, 1, 1, 1, 1, 1, 1, 1, 1, 2, 1, 1] : List Int).map V.int)
  z_len : mg "len" = none
  z_range : mg "range" = none
  z_ord : mg "ord" = none
  z_list : mg "list" = none
  z_tuple : mg "tuple" = none
  c_Node : Cls K (cNode K)
  c_Volume : Cls K (cVol K)
  c_Recovery : Cls K (cRec K)
  c_Shelf : Cls K (cShelf K)
  n_Node : ∀ f ∈ (["running", "shut", "replayed", "freed", "life", "cache", "journal", "memory"] : List Str), NoAttr K (cNode K) f
  n_Volume : ∀ f ∈ (["blocks", "rules", "disk", "last", "nodes", "locks", "writes", "committed", "many_writes", "many_transactions"] : List Str), NoAttr K (cVol K) f
  n_Recovery : ∀ f ∈ (["volume", "by", "lost", "ended"] : List Str), NoAttr K (cRec K) f
  n_Shelf : ∀ f ∈ (["volumes", "recoveries"] : List Str), NoAttr K (cShelf K) f
/-! ### making -/
section
variable (P : Program) (w : World) (K : PySem.W.Frag) (mg : Str → Option Value) (base : Heap)
def Mks (x qual : Str) (st : Stmt) : Prop := ∃ f fd, FnP K "__init__" qual st f fd ∧ Mk K (He.ga K x) f ∧ mg x = some (.ref (He.ga K x))
def MkOk (k : Nat) (x : Str) (ps : List Str) (sp : Sp) : Prop := ∃ f fd, FnOk P w K mg base CX0 k f fd ps sp ∧ Mk K (He.ga K x) f ∧ mg x = some (.ref (He.ga K x)) ∧ Binds K fd ps []
end
section
variable {P : Program} {w : World} {K : PySem.W.Frag} {mg : Str → Option Value} {base : Heap} {x m qual : Str} {C : Addr} {st : Stmt} {N ps : List Str} {k n : Nat} {sp : Sp}
theorem mk_C [Ar sp n] (F : Mks K mg x qual st) (S : FnScope N ps (defScope st)) (hb : Bd "__init__" qual st ps) (b : BodyC P w K mg base k qual st N sp) (hn : n = ps.length := by rfl) : MkOk P w K mg base (k + 1) x ps sp := by
  obtain ⟨f, fd, F, M, g⟩ := F
  exact ⟨f, fd, fn_C F S hn b, M, g, F.bindsN hb⟩
end
section
variable {X : Cx} {k : Nat} {x : Str} {ps : List Str} {sp : Sp} {E : XK} {p pos : Pos} {e : Expr} {es : List Expr} {t : TA}
theorem pe_mk (D : MkOk X.prog X.w X.K X.mg X.base k x ps sp) (hr : Room (k + 1) X.A) (hx : Passes CX0 X E) (ha : PA X (e :: es) t) (hg : Gl X x := by rfl) (hdb : (x == ("__debug__" : Str)) = false := by decide)
    (he : starEach (e :: es) X.env = (false, eval e X.env) :: starEach es X.env := by rfl) (hpl : (backTo pos (starEach es X.env)).any (·.1) = false := by rfl) : PE X (.Call (.Name x p) (e :: es) [] pos) (tMake (He.ga X.K x) sp [] E t) := by
  obtain ⟨f, fd, F, M, hm, hb⟩ := D
  exact pe_make M F hr hg hm hb .nil hx ha hdb he hpl
theorem pe_mk0 (D : MkOk X.prog X.w X.K X.mg X.base k x ps sp) (hr : Room (k + 1) X.A) (hx : Passes CX0 X E) (hg : Gl X x := by rfl) (hdb : (x == ("__debug__" : Str)) = false := by decide) : PE X (.Call (.Name x p) [] [] pos) (tMake (He.ga X.K x) sp [] E tNil) := by
  obtain ⟨f, fd, F, M, hm, hb⟩ := D
  exact pe_make0 M F hr hg hm hb .nil hx hdb
end
/-! ### values in the heap -/
/-- the octets of a text, the numbers of a list -/
def ulst (s : Units) : List V := s.map fun u => V.int (u.toNat : Int)
def nlst (l : List Nat) : List V := l.map fun (n : Nat) => V.int (n : Int)
def kindOf : Plain → Int
  | .undef => 0
  | .null => 1
  | .bool b => if b then 3 else 2
  | .num _ => 4
  | .str _ => 6
  | .arr _ => 7
  | .obj _ => 8
  | .big _ => 5
mutual
/-- the pair at v stands for the value; G: what stands for ever -/
def AtV (G : Hp) : Plain → V → Prop
  | .undef, v => ∃ a, v = .ref a ∧ G a = some (.tup [.int 0, .int 0])
  | .null, v => ∃ a, v = .ref a ∧ G a = some (.tup [.int 1, .int 0])
  | .bool b, v => ∃ a, v = .ref a ∧ G a = some (.tup [.int (if b then 3 else 2), .int 0])
  | .num x, v => ∃ a i, v = .ref a ∧ x = some i ∧ G a = some (.tup [.int 4, .int i])
  | .str s, v => ∃ a l, v = .ref a ∧ G a = some (.tup [.int 6, .ref l]) ∧ G l = some (.lst (ulst s))
  | .arr xs, v => ∃ a l vs, v = .ref a ∧ G a = some (.tup [.int 7, .ref l]) ∧ G l = some (.lst vs) ∧ AtL G xs vs
  | .obj fs, v => ∃ a l vs, v = .ref a ∧ G a = some (.tup [.int 8, .ref l]) ∧ G l = some (.lst vs) ∧ AtM G fs vs
  | .big _, _ => False
def AtL (G : Hp) : List Plain → List V → Prop
  | [], vs => vs = []
  | p :: r, vs => ∃ v t, vs = v :: t ∧ AtV G p v ∧ AtL G r t
/-- members: pairs of a name's octets and a value -/
def AtM (G : Hp) : List (Units × Plain) → List V → Prop
  | [], vs => vs = []
  | m :: r, vs => ∃ a l v t, vs = .ref a :: t ∧ G a = some (.tup [.ref l, v]) ∧ G l = some (.lst (ulst m.1)) ∧ AtV G m.2 v ∧ AtM G r t
end
mutual
theorem AtV.mono {G G' : Hp} (s : Same G G') : ∀ {p : Plain} {v : V}, AtV G p v → AtV G' p v
  | .undef, _, ⟨a, e, h⟩ => ⟨a, e, s _ _ h⟩
  | .null, _, ⟨a, e, h⟩ => ⟨a, e, s _ _ h⟩
  | .bool _, _, ⟨a, e, h⟩ => ⟨a, e, s _ _ h⟩
  | .num _, _, ⟨a, i, e, x, h⟩ => ⟨a, i, e, x, s _ _ h⟩
  | .str _, _, ⟨a, l, e, h1, h2⟩ => ⟨a, l, e, s _ _ h1, s _ _ h2⟩
  | .arr _, _, ⟨a, l, vs, e, h1, h2, h3⟩ => ⟨a, l, vs, e, s _ _ h1, s _ _ h2, AtL.mono s h3⟩
  | .obj _, _, ⟨a, l, vs, e, h1, h2, h3⟩ => ⟨a, l, vs, e, s _ _ h1, s _ _ h2, AtM.mono s h3⟩
  | .big _, _, h => h
theorem AtL.mono {G G' : Hp} (s : Same G G') : ∀ {ps : List Plain} {vs : List V}, AtL G ps vs → AtL G' ps vs
  | [], _, h => h
  | _ :: _, _, ⟨v, t, e, h1, h2⟩ => ⟨v, t, e, AtV.mono s h1, AtL.mono s h2⟩
theorem AtM.mono {G G' : Hp} (s : Same G G') : ∀ {fs : List (Units × Plain)} {vs : List V}, AtM G fs vs → AtM G' fs vs
  | [], _, h => h
  | _ :: _, _, ⟨a, l, v, t, e, h1, h2, h3, h4⟩ => ⟨a, l, v, t, e, s _ _ h1, s _ _ h2, AtV.mono s h3, AtM.mono s h4⟩
end
theorem AtL.pd {G : Hp} : ∀ {ps : List Plain} {vs : List V}, AtL G ps vs → Paired (AtV G) ps vs
  | [], _, h => by
    have e : _ = [] := h
    subst e
    exact .nil
  | p :: r, _, ⟨v, t, e, h1, h2⟩ => by
    subst e
    exact .cons h1 h2.pd
theorem AtL.of {G : Hp} : ∀ {ps : List Plain} {vs : List V}, Paired (AtV G) ps vs → AtL G ps vs
  | _, _, .nil => rfl
  | _, _, .cons a b => ⟨_, _, rfl, a, AtL.of b⟩
/-- one member as a pair -/
def MemAt (G : Hp) (m : Units × Plain) (v : V) : Prop := ∃ a l x, v = .ref a ∧ G a = some (.tup [.ref l, x]) ∧ G l = some (.lst (ulst m.1)) ∧ AtV G m.2 x
theorem MemAt.mono {G G' : Hp} (s : Same G G') {m : Units × Plain} {v : V} (h : MemAt G m v) : MemAt G' m v := by
  obtain ⟨a, l, x, e, h1, h2, h3⟩ := h
  exact ⟨a, l, x, e, s _ _ h1, s _ _ h2, h3.mono s⟩
theorem AtM.pd {G : Hp} : ∀ {fs : List (Units × Plain)} {vs : List V}, AtM G fs vs → Paired (MemAt G) fs vs
  | [], _, h => by
    have e : _ = [] := h
    subst e
    exact .nil
  | m :: r, _, ⟨a, l, v, t, e, h1, h2, h3, h4⟩ => by
    subst e
    exact .cons ⟨a, l, v, rfl, h1, h2, h3⟩ h4.pd
theorem AtM.of {G : Hp} : ∀ {fs : List (Units × Plain)} {vs : List V}, Paired (MemAt G) fs vs → AtM G fs vs
  | _, _, .nil => rfl
  | _, _, .cons ⟨a, l, x, e, h1, h2, h3⟩ b => by
    subst e
    exact ⟨a, l, x, _, rfl, h1, h2, h3, AtM.of b⟩
/-- every value is a pair of its kind and something -/
theorem AtV.pair {G : Hp} : ∀ {p : Plain} {v : V}, AtV G p v → ∃ a c, v = .ref a ∧ G a = some (.tup [.int (kindOf p), c])
  | .undef, _, ⟨a, e, h⟩ => ⟨a, _, e, h⟩
  | .null, _, ⟨a, e, h⟩ => ⟨a, _, e, h⟩
  | .bool b, _, ⟨a, e, h⟩ => ⟨a, _, e, h⟩
  | .num _, _, ⟨a, i, e, _, h⟩ => ⟨a, _, e, h⟩
  | .str _, _, ⟨a, l, e, h, _⟩ => ⟨a, _, e, h⟩
  | .arr _, _, ⟨a, l, vs, e, h, _⟩ => ⟨a, _, e, h⟩
  | .obj _, _, ⟨a, l, vs, e, h, _⟩ => ⟨a, _, e, h⟩
theorem AtV.int_of {G : Hp} {i : Int} {a : Addr} (h : G a = some (.tup [.int 4, .int i])) : AtV G (R7237f.Spec.int i) (.ref a) := ⟨a, i, rfl, rfl, h⟩
theorem AtV.nat_of {G : Hp} {n : Nat} {a : Addr} (h : G a = some (.tup [.int 4, .int (n : Int)])) : AtV G (R7237f.Spec.nat n) (.ref a) := ⟨a, (n : Int), rfl, rfl, h⟩
end Ov
set_option maxHeartbeats 2000000
/-! B3: comprehensions as maps and filters. -/
namespace Ov
open PySem PySem.Spec PyProof.Rows L2
open R7237f.Spec (Plain Units Item Cell Lock Replay Op Way Entry)
theorem len_cut {α : Type} {a b c : List α} (h : a ++ b = c) : a.length + b.length = c.length := by rw [← h, List.length_append]
theorem ExtF.gnone {F : Addr → Prop} {G H G' H' : Hp} (e : ExtF F G H G' H') {D : Addr} (hl : H D ≠ none) (hg : G D = none) : G' D = none := (e.old D hl).trans hg
/-- one turn of a comprehension: Y where an item is kept, N where not -/
def Turn (g : TG) (tt : TT) (te : TE) (vs : List Nat) (σ : St) (x : V) (H : Hp) (Y : VK) (N : Hp → Prop) : Prop :=
  g x (wipe σ vs) H fun σ2 H2 => wipe σ2 vs = wipe σ vs ∧ tt σ2 H2 fun b H3 => if b = true then te σ2 H3 Y else N H3
/-- what is walked hands out the items xs, as long as all that stood in H stands -/
def Src (J : It) (xs : List V) (H : Hp) : Prop := ∀ (g : TG) (tt : TT) (te : TE) (vs : List Nat) (σ : St) (D : Addr) (Qd : Hp → Prop) (P : List V → Hp → Prop), P xs (upd H D (.lst [])) → (∀ r H', P r H' → Same H H') →
  (∀ x r H', P (x :: r) H' → Turn g tt te vs σ x H' (fun y H4 => ∃ acc, H4 D = some (.lst acc) ∧ acc.length < sizeLine ∧ P r (upd H4 D (.lst (acc ++ [y])))) (P r)) → (∀ H', P [] H' → Qd H') → LcW J g tt te vs σ H D Qd
theorem Same.seqT {K : PySem.W.Frag} {H H' : Hp} {a : Addr} {xs : List V} (e : Same H H') (h : SqT K H a xs) : SqT K H' a xs := by
  rcases h with (h | ⟨o, h⟩) | h
  · exact .inl (.inl (e _ _ h))
  · exact .inl (.inr ⟨o, e _ _ h⟩)
  · exact .inr h
theorem Src.lst {K : PySem.W.Frag} {l : Addr} {xs : List V} {H : Hp} (hl : SqL K H l xs) : Src (Itl K l) xs H := fun g tt te vs σ D Qd P h0 hs ht hd =>
  lc_run (K := K) (a := l) (xs := xs) P h0 (fun r H' p => Same.seq (hs r H' p) hl) ht hd
theorem Src.tup {K : PySem.W.Frag} {l : Addr} {xs : List V} {H : Hp} (hl : SqT K H l xs) : Src (Itt K l) xs H := fun g tt te vs σ D Qd P h0 hs ht hd => by
  refine lc_tup (K := K) (a := l) (xs := xs) (fun i H => P (xs.drop i) H) h0 (fun i H _ p => Ov.Same.seqT (hs _ H p) hl) (fun i x H hi p => ?_) (fun H p => hd H (by rw [List.drop_length] at p; exact p))
  have e : xs.drop i = x :: xs.drop (i + 1) := by
    obtain ⟨hlt, hx⟩ := List.getElem?_eq_some_iff.mp hi
    rw [List.drop_eq_getElem_cons hlt, hx]
  exact ht x (xs.drop (i + 1)) H (e ▸ p)
def rngV (i n : Nat) : List V := (List.range' i (n - i)).map fun (k : Nat) => V.int (k : Int)
theorem rngV_end {n : Nat} : rngV n n = [] := by
  unfold rngV
  rw [Nat.sub_self]
  rfl
theorem rngV_cons {i n : Nat} (h : i < n) : rngV i n = V.int (i : Int) :: rngV (i + 1) n := by
  unfold rngV
  have e : n - i = (n - (i + 1)) + 1 := by omega
  rw [e, List.range'_succ]
  rfl
theorem Src.rng {n : Nat} {H : Hp} : Src (Itr 0 n) (rngV 0 n) H := fun g tt te vs σ D Qd P h0 hs ht hd => by
  refine lc_rng (n := n) (fun i H => P (rngV i n) H) h0 (fun i H hi p => ?_) (fun H p => hd H (by rw [rngV_end] at p; exact p))
  exact ht _ _ H (by rw [rngV_cons hi] at p; exact p)
def sgnV (l : List Nat) : List V := l.map fun c => V.str ⟨#[c]⟩
theorem Src.str {x : Str} {H : Hp} : Src (Its x) (sgnV x.cps.toList) H := fun g tt te vs σ D Qd P h0 hs ht hd =>
  lc_str (x := x) (fun r H => P (sgnV r) H) h0 (fun c r H p => ht _ _ H p) hd
/-- [elt for t in xs]: each turn lays what it lays; D holds the values, not frozen -/
theorem lc_map {α : Type} {J : It} {xs : List V} {G H : Hp} {D : Addr} {ms : List α} {S : α → V → Prop} {R : Hp → α → V → Prop} {g : TG} {tt : TT} {te : TE} {vs : List Nat} {σ : St} {Qd : Hp → Prop}
    (w : Src J xs H) (hs : Same G H) (hD : H D = none) (src : Paired S ms xs) (hz : ms.length ≤ 10000000) (mono : ∀ G G' m v, Same G G' → R G m v → R G' m v)
    (elt : ∀ m x G1 H1 (Y : VK) (N : Hp → Prop), S m x → m ∈ ms → Ext G H G1 H1 → (∀ G2 H2 v, Ext G1 H1 G2 H2 → R G2 m v → Y v H2) → Turn g tt te vs σ x H1 Y N)
    (done : ∀ G' H' ys, Ext G H G' H' → G' D = none → H' D = some (.lst ys) → Paired (R G') ms ys → Qd H') : LcW J g tt te vs σ H D Qd := by
  refine w g tt te vs σ D Qd (fun r H' => ∃ pre rest ys G1, pre ++ rest = ms ∧ Paired S rest r ∧ Ext G H G1 H' ∧ G1 D = none ∧ H' D = some (.lst ys) ∧ Paired (R G1) pre ys) ?_ ?_ ?_ ?_
  · exact ⟨[], ms, [], G, rfl, src, (ExtF.refl hs).mut hD, Same.none hs hD, upd_same, .nil⟩
  · rintro r H' ⟨pre, rest, ys, G1, _, _, e, _, _, _⟩
    exact e.same
  · rintro x r H' ⟨pre, rest, ys, G1, e0, sr, e, g1, h1, pd⟩
    cases sr with
    | cons sx sr =>
    rename_i m rest
    have lD : H' D ≠ none := by rw [h1]; exact Option.some_ne_none _
    refine elt m x G1 H' _ _ sx (by rw [← e0]; simp) e fun G2 H2 v e2 hv => ?_
    refine ⟨ys, e2.same _ _ h1, szk ?_, pre ++ [m], rest, ys ++ [v], G2, by rw [List.append_assoc]; exact e0, sr, (e.trans e2).write (.inl hD) (e2.live D lD) (e2.gnone lD g1), e2.gnone lD g1, upd_same, (Pd.mono (fun _ _ z => mono _ _ _ _ e2.g z) pd).snoc hv⟩
    have z := len_cut e0
    rw [← Pd.len pd]
    omega
  · rintro H' ⟨pre, rest, ys, G1, e0, sr, e, g1, h1, pd⟩
    have er : rest = [] := by cases sr; rfl
    subst er
    rw [List.append_nil] at e0
    subst e0
    exact done G1 H' ys e g1 h1 pd
/-- [t for t in xs if ..]: nothing is laid but D -/
theorem lc_filter {α : Type} {J : It} {xs : List V} {H : Hp} {D : Addr} {ms : List α} {S : α → V → Prop} {p : α → Bool} {g : TG} {tt : TT} {te : TE} {vs : List Nat} {σ : St} {Qd : Hp → Prop}
    (w : Src J xs H) (hD : H D = none) (src : Paired S ms xs) (hz : ms.length ≤ 10000000)
    (elt : ∀ m x H1 (Y : VK) (N : Hp → Prop), S m x → m ∈ ms → Same H H1 → (p m = true → Y x H1) → (p m = false → N H1) → Turn g tt te vs σ x H1 Y N)
    (done : ∀ ys, Paired S (ms.filter p) ys → Qd (upd H D (.lst ys))) : LcW J g tt te vs σ H D Qd := by
  refine w g tt te vs σ D Qd (fun r H' => ∃ pre rest ys, pre ++ rest = ms ∧ Paired S rest r ∧ H' = upd H D (.lst ys) ∧ Paired S (pre.filter p) ys) ?_ ?_ ?_ ?_
  · exact ⟨[], ms, [], rfl, src, rfl, .nil⟩
  · rintro r H' ⟨pre, rest, ys, _, _, rfl, _⟩
    exact fun b o h => by rw [upd_ne (ne_of_none h hD)]; exact h
  · rintro x r H' ⟨pre, rest, ys, e0, sr, rfl, pd⟩
    cases sr with
    | cons sx sr =>
    rename_i m rest
    refine elt m x _ _ _ sx (by rw [← e0]; simp) (fun b o h => by rw [upd_ne (ne_of_none h hD)]; exact h) (fun y => ?_) (fun n => ?_)
    · refine ⟨ys, upd_same, szk ?_, pre ++ [m], rest, ys ++ [x], by rw [List.append_assoc]; exact e0, sr, upd_upd, ?_⟩
      · have z := len_cut e0
        have z2 := List.length_filter_le p pre
        rw [← Pd.len pd]
        omega
      · rw [List.filter_append, List.filter_cons, y]
        exact pd.snoc sx
    · refine ⟨pre ++ [m], rest, ys, by rw [List.append_assoc]; exact e0, sr, rfl, ?_⟩
      rw [List.filter_append, List.filter_cons, n]
      simpa using pd
  · rintro H' ⟨pre, rest, ys, e0, sr, rfl, pd⟩
    have er : rest = [] := by cases sr; rfl
    subst er
    rw [List.append_nil] at e0
    subst e0
    exact done ys pd
theorem pdMap {α β : Type} {f : α → β} : ∀ {l : List α}, Paired (fun a b => b = f a) l (l.map f)
  | [] => .nil
  | _ :: _ => .cons rfl pdMap
theorem pdMap' {α β : Type} {f : α → β} : ∀ {l : List α} {ys : List β}, Paired (fun a b => b = f a) l ys → ys = l.map f
  | _, _, .nil => rfl
  | _, _, .cons a b => by rw [a, pdMap' b]; rfl
theorem pdRng {n : Nat} : Paired (fun (i : Nat) v => v = V.int (i : Int)) (List.range n) (rngV 0 n) := by
  unfold rngV
  rw [List.range_eq_range', Nat.sub_zero]
  exact pdMap
end Ov
set_option maxHeartbeats 2000000
/-! V1: the defs of the chapter on values. -/
namespace Ov
open PySem PySem.Spec PyProof.Rows L2
open R7237f.Spec (Plain Units Item Cell Lock Replay Op Way Entry)
/-- a value comes back, laid by this call at most -/
def Ret (G H : Hp) (p : Plain) (Q : VK) : Prop := ∀ G' H' v, Ext G H G' H' → AtV G' p v → Q v H'
theorem Ret.mk {G H : Hp} {p : Plain} {Q : VK} {xs : List V} (s : Same G H) (r : Ret G H p Q) {a : Addr} (ha : H a = none) (h : ∀ G', G' a = some (.tup xs) → Same G G' → AtV G' p (.ref a)) : Q (.ref a) (upd H a (.tup xs)) :=
  r (upd G a (.tup xs)) _ _ ((ExtF.refl s).imm ha) (h _ upd_same ((ExtF.refl (F := NoF) s).imm ha).g)
/-- a pair of a kind and a list that this call laid -/
theorem Ret.pair {G H G1 H1 : Hp} {p : Plain} {Q : VK} {k : Int} {D a : Addr} {ys : List V} (r : Ret G H p Q) (e : Ext G H G1 H1) (hD : H D = none) (h1 : H1 D = some (.lst ys)) (g1 : G1 D = none) (ha : H1 a = none)
    (h : ∀ G', Same G1 G' → G' a = some (.tup [.int k, .ref D]) → G' D = some (.lst ys) → AtV G' p (.ref a)) : Q (.ref a) (upd H1 a (.tup [.int k, .ref D])) := by
  have e2 := (e.freeze hD h1 g1).imm (o := .tup [.int k, .ref D]) ha
  refine r _ _ _ e2 (h _ (fun b o hb => ?_) upd_same ?_)
  · rw [upd_ne (ne_of_none (e.sub b o hb) ha), upd_ne (ne_of_none hb g1)]; exact hb
  · rw [upd_ne (ne_of_none h1 ha), upd_same]
theorem Pd.map_left {α β γ : Type} {f : α → β} {R : β → γ → Prop} : ∀ {xs : List α} {ys : List γ}, Paired (fun a v => R (f a) v) xs ys → Paired R (xs.map f) ys
  | _, _, .nil => .nil
  | _, _, .cons a b => .cons a (Pd.map_left b)
section
variable {P : Program} {w : World} {K : PySem.W.Frag} {mg : Str → Option Value} {base : Heap}
abbrev s_nothing : Stmt := top 14
theorem sc_nothing : FnScope [] [] (defScope s_nothing) := ⟨rfl, rfl, rfl, by decide +kernel, rfl, by decide +kernel, by decide +kernel⟩
theorem bd_nothing : Bd "nothing" "nothing" s_nothing [] := fun _ _ _ _ _ _ us hl => match us, hl with | [], _ => rfl
abbrev s_null : Stmt := top 15
theorem sc_null : FnScope [] [] (defScope s_null) := ⟨rfl, rfl, rfl, by decide +kernel, rfl, by decide +kernel, by decide +kernel⟩
theorem bd_null : Bd "null" "null" s_null [] := fun _ _ _ _ _ _ us hl => match us, hl with | [], _ => rfl
abbrev s_boolean : Stmt := top 16
theorem sc_boolean : FnScope ["flag"] ["flag"] (defScope s_boolean) := ⟨rfl, rfl, rfl, by decide +kernel, rfl, by decide +kernel, by decide +kernel⟩
theorem bd_boolean : Bd "boolean" "boolean" s_boolean ["flag"] := fun _ _ _ _ _ _ us hl => match us, hl with | [_], _ => rfl
abbrev s_integer : Stmt := top 17
theorem sc_integer : FnScope ["number"] ["number"] (defScope s_integer) := ⟨rfl, rfl, rfl, by decide +kernel, rfl, by decide +kernel, by decide +kernel⟩
theorem bd_integer : Bd "integer" "integer" s_integer ["number"] := fun _ _ _ _ _ _ us hl => match us, hl with | [_], _ => rfl
abbrev s_octets_of : Stmt := top 18
theorem sc_octets_of : FnScope ["words", "sign"] ["words"] (defScope s_octets_of) := ⟨rfl, rfl, rfl, by decide +kernel, rfl, by decide +kernel, by decide +kernel⟩
theorem bd_octets_of : Bd "octets_of" "octets_of" s_octets_of ["words"] := fun _ _ _ _ _ _ us hl => match us, hl with | [_], _ => rfl
abbrev s_text : Stmt := top 19
theorem sc_text : FnScope ["words"] ["words"] (defScope s_text) := ⟨rfl, rfl, rfl, by decide +kernel, rfl, by decide +kernel, by decide +kernel⟩
theorem bd_text : Bd "text" "text" s_text ["words"] := fun _ _ _ _ _ _ us hl => match us, hl with | [_], _ => rfl
abbrev s_listing : Stmt := top 20
theorem sc_listing : FnScope ["values"] ["values"] (defScope s_listing) := ⟨rfl, rfl, rfl, by decide +kernel, rfl, by decide +kernel, by decide +kernel⟩
theorem bd_listing : Bd "listing" "listing" s_listing ["values"] := fun _ _ _ _ _ _ us hl => match us, hl with | [_], _ => rfl
abbrev s_integers : Stmt := top 21
theorem sc_integers : FnScope ["numbers", "number"] ["numbers"] (defScope s_integers) := ⟨rfl, rfl, rfl, by decide +kernel, rfl, by decide +kernel, by decide +kernel⟩
theorem bd_integers : Bd "integers" "integers" s_integers ["numbers"] := fun _ _ _ _ _ _ us hl => match us, hl with | [_], _ => rfl
abbrev s_record : Stmt := top 22
theorem sc_record : FnScope ["members", "name", "value"] ["members"] (defScope s_record) := ⟨rfl, rfl, rfl, by decide +kernel, rfl, by decide +kernel, by decide +kernel⟩
theorem bd_record : Bd "record" "record" s_record ["members"] := fun _ _ _ _ _ _ us hl => match us, hl with | [_], _ => rfl
abbrev s_is_boolean : Stmt := top 23
theorem sc_is_boolean : FnScope ["value"] ["value"] (defScope s_is_boolean) := ⟨rfl, rfl, rfl, by decide +kernel, rfl, by decide +kernel, by decide +kernel⟩
theorem bd_is_boolean : Bd "is_boolean" "is_boolean" s_is_boolean ["value"] := fun _ _ _ _ _ _ us hl => match us, hl with | [_], _ => rfl
abbrev s_is_integer : Stmt := top 24
theorem sc_is_integer : FnScope ["value", "low", "high"] ["value", "low", "high"] (defScope s_is_integer) := ⟨rfl, rfl, rfl, by decide +kernel, rfl, by decide +kernel, by decide +kernel⟩
theorem bd_is_integer : Bd "is_integer" "is_integer" s_is_integer ["value", "low", "high"] := fun _ _ _ _ _ _ us hl => match us, hl with | [_, _, _], _ => rfl
abbrev s_member : Stmt := top 25
theorem sc_member : FnScope ["value", "words", "wanted", "name", "found"] ["value", "words"] (defScope s_member) := ⟨rfl, rfl, rfl, by decide +kernel, rfl, by decide +kernel, by decide +kernel⟩
theorem bd_member : Bd "member" "member" s_member ["value", "words"] := fun _ _ _ _ _ _ us hl => match us, hl with | [_, _], _ => rfl
def fNothing : Hp → VK → XK → Prop := fun H Q _ => ∃ G, Same G H ∧ Ret G H .undef Q
theorem d_nothing (T : Txt K mg) (F : Fs K mg "nothing" s_nothing) : DefOk P w K mg base CX0 1 "nothing" [] (Sp0 fNothing) :=
  def_C F sc_nothing bd_nothing fun f cdv A outer s H vs Q E hr h => by
    obtain ⟨rfl, G, hs, q⟩ := h
    refine ⟨_, (pss_one (ps_ret (pe_tup (pa_cons (pe_gi T.i_NOTHING) (pa_cons pe_int pa_nil))))), ?_⟩
    exact ⟨sz2, fun p hp => q.mk hs hp fun G' h _ => ⟨p, rfl, h⟩⟩
def fNull : Hp → VK → XK → Prop := fun H Q _ => ∃ G, Same G H ∧ Ret G H .null Q
theorem d_null (T : Txt K mg) (F : Fs K mg "null" s_null) : DefOk P w K mg base CX0 1 "null" [] (Sp0 fNull) :=
  def_C F sc_null bd_null fun f cdv A outer s H vs Q E hr h => by
    obtain ⟨rfl, G, hs, q⟩ := h
    refine ⟨_, (pss_one (ps_ret (pe_tup (pa_cons (pe_gi T.i_NULL) (pa_cons pe_int pa_nil))))), ?_⟩
    exact ⟨sz2, fun p hp => q.mk hs hp fun G' h _ => ⟨p, rfl, h⟩⟩
def fBoolean : V → Hp → VK → XK → Prop := fun a H Q _ => ∃ G b, a = .bl b ∧ Same G H ∧ Ret G H (.bool b) Q
theorem d_boolean (T : Txt K mg) (F : Fs K mg "boolean" s_boolean) : DefOk P w K mg base CX0 1 "boolean" ["flag"] (Sp1 fBoolean) :=
  def_C F sc_boolean bd_boolean fun f cdv A outer s H vs Q E hr h => by
    obtain ⟨_, rfl, G, b, rfl, hs, q⟩ := h
    refine ⟨_, (pss_cons (ps_if (pt_val (pv 0)) (pss_one (ps_ret (pe_tup (pa_cons (pe_gi T.i_TRUE) (pa_cons pe_int pa_nil))))) pss_nil) (pss_one (ps_ret (pe_tup (pa_cons (pe_gi T.i_FALSE) (pa_cons pe_int pa_nil)))))), ?_⟩
    refine ⟨_, rfl, b, rfl, ?_⟩
    cases b with
    | true => exact iteT ⟨sz2, fun p hp => q.mk hs hp fun G' h _ => ⟨p, rfl, h⟩⟩
    | false => exact iteF ⟨sz2, fun p hp => q.mk hs hp fun G' h _ => ⟨p, rfl, h⟩⟩
def fInteger : V → Hp → VK → XK → Prop := fun a H Q _ => ∃ G i, a = .int i ∧ Same G H ∧ Ret G H (R7237f.Spec.int i) Q
theorem d_integer (T : Txt K mg) (F : Fs K mg "integer" s_integer) : DefOk P w K mg base CX0 1 "integer" ["number"] (Sp1 fInteger) :=
  def_C F sc_integer bd_integer fun f cdv A outer s H vs Q E hr h => by
    obtain ⟨_, rfl, G, i, rfl, hs, q⟩ := h
    refine ⟨_, (pss_one (ps_ret (pe_tup (pa_cons (pe_gi T.i_INTEGER) (pa_cons (pv 0) pa_nil))))), ?_⟩
    exact ⟨_, rfl, sz2, fun p hp => q.mk hs hp fun G' h _ => AtV.int_of h⟩
def fOctets : V → Hp → VK → XK → Prop := fun a H Q _ => ∃ x : Str, a = .str x ∧ x.cps.size ≤ 1000 ∧ ∀ p, H p = none → Q (.ref p) (upd H p (.lst (nlst x.cps.toList)))
theorem d_octets_of (T : Txt K mg) (F : Fs K mg "octets_of" s_octets_of) : DefOk P w K mg base CX0 1 "octets_of" ["words"] (Sp1 fOctets) :=
  def_C F sc_octets_of bd_octets_of fun f cdv A outer s H vs Q E hr h => by
    obtain ⟨_, rfl, x, rfl, hz, q⟩ := h
    refine ⟨_, (pss_one (ps_ret (pe_lc (own := [("sign", 1)]) (g := (gName 1)) (tt := tYes) rfl sc_octets_of.nd (pi_str (pv 0)) (blkOk_by (N := ["words", "sign"]) (sc := defScope s_octets_of) (by decide +kernel)) (fun _ _ _ _ _ => (pg_name (i := 1) sc_octets_of.nd rfl (Or.inl rfl))) (fun _ _ _ _ _ => pts_nil) (fun _ _ _ _ _ => (pe_callB call_ord (by rfl) T.z_ord (by decide +kernel) (pa_cons (pv 1) pa_nil)))))), ?_⟩
    refine ⟨_, rfl, x, rfl, fun D hD => lc_str (fun r H' => ∃ pre, pre ++ r = x.cps.toList ∧ H' = upd H D (.lst (nlst pre))) ⟨[], rfl, rfl⟩ (fun c r H' p => ?_) (fun H' p => ?_)⟩
    · obtain ⟨pre, e, rfl⟩ := p
      refine ⟨rfl, _, rfl, ⟨#[c]⟩, rfl, rfl, _, upd_same, szk ?_, pre ++ [c], by rw [List.append_assoc]; exact e, ?_⟩
      · have z := congrArg List.length e
        simp only [List.length_append, List.length_cons, Array.length_toList] at z
        rw [nlst, List.length_map]
        omega
      · rw [upd_upd, nlst, nlst, List.map_append]
        rfl
    · obtain ⟨pre, e, rfl⟩ := p
      rw [List.append_nil] at e
      subst e
      exact q D hD
/-- a text that the program writes, as octets -/
def unitsOf (x : Str) : Units := x.cps.toList.map UInt16.ofNat
def narrow16 (x : Str) : Bool := x.cps.toList.all fun c => Nat.blt c 65536
theorem ulst_of {x : Str} (h : narrow16 x = true) : nlst x.cps.toList = ulst (unitsOf x) := by
  unfold nlst ulst unitsOf
  rw [List.map_map]
  refine List.map_congr_left fun c hc => ?_
  have z : Nat.blt c 65536 = true := List.all_eq_true.mp h c hc
  have z' : c < 65536 := Nat.le_of_ble_eq_true z
  show V.int (c : Int) = V.int ((UInt16.ofNat c).toNat : Int)
  rw [UInt16.toNat_ofNat', Nat.mod_eq_of_lt (by omega)]
def fText : V → Hp → VK → XK → Prop := fun a H Q _ => ∃ G x, a = .str x ∧ x.cps.size ≤ 1000 ∧ narrow16 x = true ∧ Same G H ∧ Ret G H (.str (unitsOf x)) Q
theorem d_text (T : Txt K mg) (D_octets_of : DefOk P w K mg base CX0 1 "octets_of" ["words"] (Sp1 fOctets)) (F : Fs K mg "text" s_text) : DefOk P w K mg base CX0 2 "text" ["words"] (Sp1 fText) :=
  def_C F sc_text bd_text fun f cdv A outer s H vs Q E hr h => by
    obtain ⟨_, rfl, G, x, rfl, hz, hn, hs, q⟩ := h
    refine ⟨_, (pss_one (ps_ret (pe_tup (pa_cons (pe_gi T.i_TEXT) (pa_cons (pe_d D_octets_of (hr.mono (by decide)) pass0 (pa_cons (pv 0) pa_nil)) pa_nil))))), ?_⟩
    refine ⟨_, rfl, _, rfl, x, rfl, hz, fun l hl => ⟨sz2, fun p hp => ?_⟩⟩
    have e1 := (ExtF.refl (F := NoF) hs).imm (o := .lst (nlst x.cps.toList)) hl
    have e2 := e1.imm (o := .tup [.int 6, .ref l]) hp
    refine q _ _ _ e2 ⟨p, l, rfl, upd_same, ?_⟩
    rw [upd_ne (ne_of_none (upd_same (H := H)) hp), upd_same, ulst_of hn]
def fListing : V → Hp → VK → XK → Prop := fun a H Q _ => ∃ G l vs ps, a = .ref l ∧ H l = some (.lst vs) ∧ Same G H ∧ AtL G ps vs ∧ Ret G H (.arr ps) Q
theorem d_listing (T : Txt K mg) (F : Fs K mg "listing" s_listing) : DefOk P w K mg base CX0 1 "listing" ["values"] (Sp1 fListing) :=
  def_C F sc_listing bd_listing fun f cdv A outer s H vs Q E hr h => by
    obtain ⟨_, rfl, G, l, xs, ps, rfl, hl, hs, ha, q⟩ := h
    refine ⟨_, (pss_one (ps_ret (pe_tup (pa_cons (pe_gi T.i_LIST) (pa_cons (pe_callTy call_list_of (by rfl) T.z_list (by decide +kernel) (pa_cons (pv 0) pa_nil)) pa_nil))))), ?_⟩
    refine ⟨_, rfl, l, xs, rfl, .inl (SqL.of hl), fun m hm => ⟨sz2, fun p hp => ?_⟩⟩
    have e1 := (ExtF.refl (F := NoF) hs).imm (o := .lst xs) hm
    have e2 := e1.imm (o := .tup [.int 7, .ref m]) hp
    refine q _ _ _ e2 ⟨p, m, xs, rfl, upd_same, ?_, ha.mono e2.g⟩
    rw [upd_ne (ne_of_none (upd_same (H := H)) hp), upd_same]
def fIntegers : V → Hp → VK → XK → Prop := fun a H Q _ => ∃ G l ns, a = .ref l ∧ H l = some (.lst (nlst ns)) ∧ ns.length ≤ 1000000 ∧ Same G H ∧ Ret G H (R7237f.Spec.nats ns) Q
theorem d_integers (T : Txt K mg) (D_integer : DefOk P w K mg base CX0 1 "integer" ["number"] (Sp1 fInteger)) (F : Fs K mg "integers" s_integers) : DefOk P w K mg base CX0 2 "integers" ["numbers"] (Sp1 fIntegers) :=
  def_C F sc_integers bd_integers fun f cdv A outer s H vs Q E hr h => by
    obtain ⟨_, rfl, G, l, ns, rfl, hl, hz, hs, q⟩ := h
    refine ⟨_, (pss_one (ps_ret (pe_tup (pa_cons (pe_gi T.i_LIST) (pa_cons (pe_lc (own := [("number", 1)]) (g := (gName 1)) (tt := tYes) rfl sc_integers.nd (pi_list (pv 0)) (blkOk_by (N := ["numbers", "number"]) (sc := defScope s_integers) (by decide +kernel)) (fun _ _ _ _ _ => (pg_name (i := 1) sc_integers.nd rfl (Or.inl rfl))) (fun _ _ _ _ _ => pts_nil) (fun _ _ _ _ _ => (pe_d D_integer (hr.mono (by decide)) pass0 (pa_cons (pv 1) pa_nil)))) pa_nil))))), ?_⟩
    refine ⟨_, rfl, l, rfl, ⟨_, SqL.of hl⟩, fun D hD => lc_map (S := fun (n : Nat) v => v = V.int (n : Int)) (R := fun G n v => AtV G (R7237f.Spec.nat n) v) (.lst (SqL.of hl)) hs hD pdMap (Nat.le_trans hz (by decide)) (fun _ _ _ _ s h => h.mono s) ?_ ?_⟩
    · rintro n _ G1 H1 Y N rfl - e y
      exact ⟨rfl, _, rfl, _, rfl, G1, (n : Int), rfl, e.sub, fun G2 H2 v e2 hv => y _ _ _ e2 hv⟩
    · intro G1 H1 ys e g1 h1 pd
      refine ⟨sz2, fun p hp => q.pair e hD h1 g1 hp fun G' g' hp' hD' => ⟨p, D, ys, rfl, hp', hD', AtL.of (Pd.map_left (Pd.mono (fun _ _ z => z.mono g') pd))⟩⟩
/-- members as the callers hand them in: names as texts, values -/
def NmAt (G : Hp) (m : Str × Plain) (v : V) : Prop := ∃ t x, v = .ref t ∧ G t = some (.tup [.str m.1, x]) ∧ AtV G m.2 x ∧ m.1.cps.size ≤ 1000 ∧ narrow16 m.1 = true
theorem NmAt.mono {G G' : Hp} (s : Same G G') {m : Str × Plain} {v : V} (h : NmAt G m v) : NmAt G' m v := by
  obtain ⟨t, x, e, h1, h2, h3⟩ := h
  exact ⟨t, x, e, s _ _ h1, h2.mono s, h3⟩
def recOf (ms : List (Str × Plain)) : Plain := .obj (ms.map fun m => (unitsOf m.1, m.2))
def fRecord : V → Hp → VK → XK → Prop := fun a H Q _ => ∃ G l vs ms, a = .ref l ∧ H l = some (.lst vs) ∧ Same G H ∧ ms.length ≤ 1000 ∧ Paired (NmAt G) ms vs ∧ Ret G H (recOf ms) Q
theorem d_record (T : Txt K mg) (D_octets_of : DefOk P w K mg base CX0 1 "octets_of" ["words"] (Sp1 fOctets)) (F : Fs K mg "record" s_record) : DefOk P w K mg base CX0 2 "record" ["members"] (Sp1 fRecord) :=
  def_C F sc_record bd_record fun f cdv A outer s H vs Q E hr h => by
    obtain ⟨_, rfl, G, l, xs, ms, rfl, hl, hs, hz, ha, q⟩ := h
    refine ⟨_, (pss_one (ps_ret (pe_tup (pa_cons (pe_gi T.i_RECORD) (pa_cons (pe_lc (own := [("name", 1), ("value", 2)]) (g := (gTup K 2 (gCons (gName 1) (gCons (gName 2) gNil)))) (tt := tYes) rfl sc_record.nd (pi_list (pv 0)) (blkOk_by (N := ["members", "name", "value"]) (sc := defScope s_record) (by decide +kernel)) (fun _ _ _ _ _ => (pg_tup rfl (pgs_cons (pg_name (i := 1) sc_record.nd rfl (Or.inl rfl)) (pgs_cons (pg_name (i := 2) sc_record.nd rfl (Or.inl rfl)) pgs_nil)))) (fun _ _ _ _ _ => pts_nil) (fun _ _ _ _ _ => (pe_tup (pa_cons (pe_d D_octets_of (hr.mono (by decide)) pass0 (pa_cons (pv 1) pa_nil)) (pa_cons (pv 2) pa_nil))))) pa_nil))))), ?_⟩
    refine ⟨_, rfl, l, rfl, ⟨_, SqL.of hl⟩, fun D hD => lc_map (S := NmAt G) (R := fun G m v => MemAt G (unitsOf m.1, m.2) v) (.lst (SqL.of hl)) hs hD ha (Nat.le_trans hz (by decide)) (fun _ _ _ _ s h => h.mono s) ?_ ?_⟩
    · rintro m _ G1 H1 Y N ⟨t, x, rfl, h1, h2, h3, h4⟩ - e y
      refine ⟨t, _, rfl, SqT.of (e.sub _ _ (e.g _ _ h1)), rfl, _, _, rfl, ⟨_, _, rfl, rfl, rfl, _, rfl, _, rfl, m.1, rfl, h3, fun l hl => ⟨_, rfl, sz2, fun p hp => ?_⟩⟩⟩
      have e1 := (ExtF.refl (F := NoF) e.sub).imm (o := .lst (nlst m.1.cps.toList)) hl
      have e2 := e1.imm (o := .tup [.ref l, x]) hp
      refine y _ _ _ e2 ⟨p, l, x, rfl, upd_same, ?_, (h2.mono e.g).mono e2.g⟩
      rw [upd_ne (ne_of_none (upd_same (H := H1)) hp), upd_same, ulst_of h4]
    · intro G1 H1 ys e g1 h1 pd
      exact ⟨sz2, fun p hp => q.pair e hD h1 g1 hp fun G' g' hp' hD' => ⟨p, D, ys, rfl, hp', hD', AtM.of (Pd.map_left (Pd.mono (fun _ _ z => z.mono g') pd))⟩⟩
def isB : Plain → Bool
  | .bool _ => true
  | _ => false
/-- a whole number from lo to hi -/
def inR (p : Plain) (lo hi : Int) : Bool := match p with
  | .num (some i) => decide (lo ≤ i) && decide (i ≤ hi)
  | _ => false
def fIsBoolean : V → Hp → VK → XK → Prop := fun a H Q _ => ∃ G p, Same G H ∧ AtV G p a ∧ Q (.bl (isB p)) H
theorem d_is_boolean (T : Txt K mg) (F : Fs K mg "is_boolean" s_is_boolean) : DefOk P w K mg base CX0 1 "is_boolean" ["value"] (Sp1 fIsBoolean) :=
  def_C F sc_is_boolean bd_is_boolean fun f cdv A outer s H vs Q E hr h => by
    obtain ⟨_, rfl, G, p, hs, ha, q⟩ := h
    obtain ⟨a, c, rfl, h1⟩ := ha.pair
    have hT := SqT.of (K := K) (hs _ _ h1)
    refine ⟨_, (pss_one (ps_ret (pe_or (pe_cmpR op_eq (pe_ix ix_tup (pv 0) pe_int (fun _ _ => rfl)) (pe_gi T.i_TRUE) (nomark _)) (pe_one (pe_cmpR op_eq (pe_ix ix_tup (pv 0) pe_int (fun _ _ => rfl)) (pe_gi T.i_FALSE) (nomark _)))))), ?_⟩
    refine ⟨_, rfl, a, _, _, _, rfl, rfl, hT, rfl, rfl, _, rfl, ?_⟩
    cases p with
    | bool b => cases b with
      | true => exact q
      | false => exact ⟨_, rfl, a, _, _, _, rfl, rfl, hT, rfl, rfl, q⟩
    | num _ => exact ⟨_, rfl, a, _, _, _, rfl, rfl, hT, rfl, rfl, q⟩
    | _ => exact ⟨_, rfl, a, _, _, _, rfl, rfl, hT, rfl, rfl, q⟩
def fIsInteger : V → V → V → Hp → VK → XK → Prop := fun a b c H Q _ => ∃ G p lo hi, b = .int lo ∧ c = .int hi ∧ Same G H ∧ AtV G p a ∧ Q (.bl (inR p lo hi)) H
theorem d_is_integer (T : Txt K mg) (F : Fs K mg "is_integer" s_is_integer) : DefOk P w K mg base CX0 1 "is_integer" ["value", "low", "high"] (Sp3 fIsInteger) :=
  def_C F sc_is_integer bd_is_integer fun f cdv A outer s H vs Q E hr h => by
    obtain ⟨_, _, _, rfl, G, p, lo, hi, rfl, rfl, hs, ha, q⟩ := h
    obtain ⟨a, c, rfl, h1⟩ := ha.pair
    have hT := SqT.of (K := K) (hs _ _ h1)
    refine ⟨_, (pss_one (ps_ret (pe_and (pe_cmpR op_eq (pe_ix ix_tup (pv 0) pe_int (fun _ _ => rfl)) (pe_gi T.i_INTEGER) (nomark _)) (pe_and (pe_cmpR op_ge (pe_ix ix_tup (pv 0) pe_int (fun _ _ => rfl)) (pv 1) (nomark _)) (pe_one (pe_cmpR op_le (pe_ix ix_tup (pv 0) pe_int (fun _ _ => rfl)) (pv 2) (nomark _))))))), ?_⟩
    refine ⟨_, rfl, a, _, _, _, rfl, rfl, hT, rfl, rfl, _, rfl, ?_⟩
    cases p with
    | num z =>
      obtain ⟨_, i, e, rfl, h2⟩ := ha
      cases e
      have hc : c = .int i := by
        have := h1.symm.trans h2
        injection this with this
        injection this with this
        injection this with _ this
        injection this with this
      subst hc
      refine iteT ⟨_, rfl, a, _, _, _, rfl, rfl, hT, rfl, _, rfl, _, _, rfl, rfl, _, rfl, ?_⟩
      by_cases h3 : lo ≤ i
      · have e3 : decide (i ≥ lo) = true := decide_eq_true h3
        rw [e3]
        refine iteT ⟨_, rfl, a, _, _, _, rfl, rfl, hT, rfl, _, rfl, _, _, rfl, rfl, ?_⟩
        have q' := q
        unfold inR at q'
        simp only [decide_eq_true h3, Bool.true_and] at q'
        exact q'
      · have e3 : decide (i ≥ lo) = false := decide_eq_false h3
        rw [e3]
        refine iteF ?_
        have q' := q
        unfold inR at q'
        simp only [decide_eq_false h3, Bool.false_and] at q'
        exact q'
    | bool b => cases b <;> exact q
    | _ => exact q
def ulD (s : Units) : PyData := .list (s.map fun u => .int (u.toNat : Int))
theorem dp_all {K : PySem.W.Frag} {H : Hp} : ∀ s : Units, DpAll K H (ulst s) (s.map fun u => .int (u.toNat : Int))
  | [] => .nil
  | _ :: r => .cons (.int _) (dp_all r)
theorem dp_ul {K : PySem.W.Frag} {H : Hp} {l : Addr} {s : Units} (h : H l = some (.lst (ulst s))) : Dp K H (.ref l) (ulD s) := .lst (SqL.of h) (dp_all s)
theorem eqv_ul : ∀ s t : Units, PyData.eqv (ulD s) (ulD t) = decide (s = t) := by
  intro s t
  show PyData.eqv (.list _) (.list _) = _
  rw [PyData.eqv]
  induction s generalizing t with
  | nil => cases t <;> simp [PyData.eqvAll]
  | cons x r ih => cases t with
    | nil => simp [PyData.eqvAll]
    | cons y t =>
      rw [List.map_cons, List.map_cons, PyData.eqvAll, ih t, PyData.eqv]
      by_cases e : x = y
      · subst e; simp
      · have n : ¬ ((x.toNat : Int) = (y.toNat : Int)) := fun h => e (UInt16.toNat_inj.mp (by omega))
        simp [e, n]
theorem depth_ul : ∀ s : Units, PyData.depthAll (s.map fun u => PyData.int (u.toNat : Int)) ≤ 1 ∧ PyData.canLayAll0 (s.map fun u => PyData.int (u.toNat : Int)) = true
  | [] => by simp [PyData.depthAll, PyData.canLayAll0]
  | x :: r => by
    have q := depth_ul r
    simp only [List.map_cons, PyData.depthAll, PyData.canLayAll0, PyData.canLay0, PyData.depth]
    refine ⟨?_, by simp [q.2]⟩
    have := q.1
    omega
theorem shaped_ul (s : Units) : SeqAt.shaped (ulD s) = true := by
  have q := depth_ul s
  unfold SeqAt.shaped ulD
  rw [Bool.and_eq_true, decide_eq_true_iff]
  refine ⟨by rw [PyData.canLay0]; exact q.2, ?_⟩
  rw [PyData.depth]
  omega
def fieldOf (fs : List (Units × Plain)) (x : Str) : Plain := match fs.find? fun f => f.1 == unitsOf x with
  | some f => f.2
  | none => .undef
def fMember : V → V → Hp → VK → XK → Prop := fun a b H Q _ => ∃ G fs x, b = .str x ∧ x.cps.size ≤ 1000 ∧ narrow16 x = true ∧ Same G H ∧ AtV G (.obj fs) a ∧ Ret G H (fieldOf fs x) Q
theorem d_member (T : Txt K mg) (D_octets_of : DefOk P w K mg base CX0 1 "octets_of" ["words"] (Sp1 fOctets)) (D_nothing : DefOk P w K mg base CX0 1 "nothing" [] (Sp0 fNothing)) (F : Fs K mg "member" s_member) : DefOk P w K mg base CX0 2 "member" ["value", "words"] (Sp2 fMember) :=
  def_C F sc_member bd_member fun f cdv A outer s H vs Q E hr h => by
    obtain ⟨_, _, rfl, G, fs, x, rfl, hz, hn, hs, ⟨a, l, vs, rfl, h1, h2, h3⟩, q⟩ := h
    refine ⟨_, (pss_cons (ps_set (i := 2) sc_member.nd rfl (Or.inl rfl) (pe_d D_octets_of (hr.mono (by decide)) pass0 (pa_cons (pv 1) pa_nil))) (pss_cons (ps_for PassesOwn.never rfl (pi_list (pe_ix ix_tup (pv 0) pe_int (fun _ _ => rfl))) (pg_tup rfl (pgs_cons (pg_name (i := 3) sc_member.nd rfl (Or.inl rfl)) (pgs_cons (pg_name (i := 4) sc_member.nd rfl (Or.inl rfl)) pgs_nil))) (pss_one (ps_if (pt_cmpR (op_eqD hr.units) (pv 3) (pv 2) (nomark _)) (pss_one (ps_ret (pv 4))) pss_nil))) (pss_one (ps_ret (pe_d0 D_nothing (hr.mono (by decide)) pass0))))), ?_⟩
    refine ⟨_, rfl, _, rfl, x, rfl, hz, fun lw hlw => ?_⟩
    have e1 := (ExtF.refl (F := NoF) hs).imm (o := .lst (nlst x.cps.toList)) hlw
    have hw : upd H lw (.lst (nlst x.cps.toList)) lw = some (.lst (ulst (unitsOf x))) := by rw [upd_same, ulst_of hn]
    have up : ∀ b o, G b = some o → upd H lw (.lst (nlst x.cps.toList)) b = some o := fun b o z => e1.same _ _ (hs _ _ z)
    refine ⟨_, rfl, a, _, _, _, rfl, rfl, SqT.of (up _ _ h1), rfl, l, rfl, ⟨_, SqL.of (up _ _ h2)⟩, for_run (K := K) (a := l) (xs := vs)
      (fun r σ H' => H' = upd H lw (.lst (nlst x.cps.toList)) ∧ (∃ x3 x4, σ = [some (.ref a), some (.str x), some (.ref lw), x3, x4]) ∧ ∃ rest, Paired (MemAt G) rest r ∧ fieldOf fs x = fieldOf rest x) ⟨rfl, ⟨_, _, rfl⟩, fs, h3.pd, rfl⟩ ?_ ?_ ?_⟩
    · rintro r σ H' ⟨rfl, _⟩
      exact SqL.of (up _ _ h2)
    · rintro v r σ H' ⟨rfl, ⟨x3, x4, rfl⟩, rest, pr, ef⟩
      cases pr with
      | cons hm pr =>
      rename_i m rest
      obtain ⟨t, ln, z, rfl, m1, m2, m3⟩ := hm
      refine ⟨t, _, rfl, SqT.of (up _ _ m1), rfl, _, _, rfl, _, _, rfl, rfl, _, rfl, _, rfl, _, _, dp_ul (up _ _ m2), dp_ul hw, shaped_ul _, shaped_ul _, _, rfl, ?_⟩
      rw [eqv_ul]
      by_cases c : m.1 = unitsOf x
      · have e3 : fieldOf (m :: rest) x = m.2 := by
          unfold fieldOf
          rw [List.find?_cons]
          simp [c]
        rw [decide_eq_true c]
        refine iteT ⟨_, rfl, q _ _ _ e1 ?_⟩
        rw [ef, e3]
        exact m3.mono e1.g
      · have e3 : fieldOf (m :: rest) x = fieldOf rest x := by
          unfold fieldOf
          rw [List.find?_cons]
          have c' : (m.1 == unitsOf x) = false := by simpa using c
          simp [c']
        rw [decide_eq_false c]
        exact iteF ⟨rfl, ⟨_, _, rfl⟩, rest, pr, ef.trans e3⟩
    · rintro σ H' ⟨rfl, _, rest, pr, ef⟩
      cases pr
      refine ⟨rfl, _, e1.sub, fun G2 H2 v e2 hv => q _ _ _ (e1.trans e2) ?_⟩
      rw [ef]
      exact hv
end
end Ov
/-! S1: the plain law of journals. -/
namespace Ov
open R7237f.Spec (Item itemBytes entryBytes readItems readEntry readAll readJournal)
def itAt (ns : List Nat) (at_ : Nat) : Item := ⟨ns.getD at_ 0, ns.getD (at_ + 1) 0 * 65536 + ns.getD (at_ + 2) 0 * 256 + ns.getD (at_ + 3) 0, ns.getD (at_ + 4) 0⟩
theorem getD_drop (ns : List Nat) (k i : Nat) : (ns.drop k).getD i 0 = ns.getD (k + i) 0 := by
  rw [List.getD_eq_getElem?_getD, List.getElem?_drop, ← List.getD_eq_getElem?_getD]
theorem itAt_drop (ns : List Nat) (k i : Nat) : itAt (ns.drop k) i = itAt ns (k + i) := by
  unfold itAt
  simp only [getD_drop, Nat.add_assoc]
theorem items_cut : ∀ (b n : Nat) (l : List Nat), (5 * n ≤ l.length ∧ ∀ i, i < n → l.getD (5 * i) 0 < b) → readItems b n l = some ((List.range n).map fun i => itAt l (5 * i), l.drop (5 * n))
  | b, 0, l, _ => by
    rw [readItems]
    rfl
  | b, n + 1, l, ⟨h1, h2⟩ => by
    match l, h1, h2 with
    | a :: x :: c :: d :: v :: r, h1, h2 =>
      have ha : a < b := h2 0 (by omega)
      have ih := items_cut b n r ⟨by simp only [List.length_cons] at h1; omega, fun i hi => by
        have := h2 (i + 1) (by omega)
        have e : 5 * (i + 1) = 5 * i + 1 + 1 + 1 + 1 + 1 := by omega
        rw [e] at this
        simpa only [List.getD_cons_succ] using this⟩
      rw [readItems, if_pos ha, ih]
      simp only
      rw [List.range_succ_eq_map, List.map_cons, List.map_map]
      congr 2
      congr 1
      show (⟨a, 65536 * x + 256 * c + d, v⟩ : Item) = ⟨a, x * 65536 + c * 256 + d, v⟩
      rw [Nat.mul_comm 65536, Nat.mul_comm 256]
    | [], h1, _ => simp at h1
    | [_], h1, _ => simp at h1; omega
    | [_, _], h1, _ => simp at h1; omega
    | [_, _, _], h1, _ => simp at h1; omega
    | [_, _, _, _], h1, _ => simp at h1; omega
theorem items_inv : ∀ (b n : Nat) (l : List Nat) (e : List Item) (r : List Nat), readItems b n l = some (e, r) → 5 * n ≤ l.length ∧ ∀ i, i < n → l.getD (5 * i) 0 < b
  | b, 0, l, _, _, _ => ⟨by omega, fun i hi => absurd hi (Nat.not_lt_zero i)⟩
  | b, n + 1, l, e, r, h => by
    match l, h with
    | a :: x :: c :: d :: v :: t, h =>
      rw [readItems] at h
      by_cases ha : a < b
      · rw [if_pos ha] at h
        cases q : readItems b n t with
        | none => rw [q] at h; cases h
        | some z =>
          obtain ⟨e', r'⟩ := z
          obtain ⟨h1, h2⟩ := items_inv b n t e' r' q
          refine ⟨by simp only [List.length_cons]; omega, fun i hi => ?_⟩
          cases i with
          | zero => exact ha
          | succ i =>
            have e : 5 * (i + 1) = 5 * i + 1 + 1 + 1 + 1 + 1 := by omega
            rw [e]
            simpa only [List.getD_cons_succ] using h2 i (by omega)
      · rw [if_neg ha] at h; cases h
    | [], h => simp [readItems] at h
    | [_], h => simp [readItems] at h
    | [_, _], h => simp [readItems] at h
    | [_, _, _], h => simp [readItems] at h
    | [_, _, _, _], h => simp [readItems] at h
/-- an entry stands at a place -/
structure EntHere (b : Nat) (ns : List Nat) (k : Nat) : Prop where
  lt : k < ns.length
  lo : 1 ≤ ns.getD k 0
  hi : ns.getD k 0 ≤ 8
  fit : k + 1 + 5 * ns.getD k 0 ≤ ns.length
  blk : ∀ i, i < ns.getD k 0 → ns.getD (k + 1 + 5 * i) 0 < b
theorem drop_cons {ns : List Nat} {k : Nat} (h : k < ns.length) : ns.drop k = ns.getD k 0 :: ns.drop (k + 1) := by
  rw [List.drop_eq_getElem_cons h, List.getD_eq_getElem?_getD, List.getElem?_eq_getElem h]
  rfl
def entAt (ns : List Nat) (k : Nat) : List Item := (List.range (ns.getD k 0)).map fun i => itAt ns (k + 1 + 5 * i)
theorem entAt_len (ns : List Nat) (k : Nat) : (entAt ns k).length = ns.getD k 0 := by
  unfold entAt
  rw [List.length_map, List.length_range]
theorem ent_yes {b : Nat} {ns : List Nat} {k : Nat} (h : EntHere b ns k) : readEntry b (ns.drop k) = some (entAt ns k, ns.drop (k + (1 + 5 * ns.getD k 0))) := by
  rw [drop_cons h.lt, readEntry, if_pos ⟨h.lo, h.hi⟩, items_cut b _ _ ⟨by rw [List.length_drop]; have := h.fit; omega, fun i hi => by rw [getD_drop]; exact h.blk i hi⟩]
  unfold entAt
  congr 2
  · refine List.map_congr_left fun i _ => ?_
    rw [itAt_drop]
  · rw [List.drop_drop]
    congr 1
    omega
theorem ent_no {b : Nat} {ns : List Nat} {k : Nat} (h : ¬ EntHere b ns k) : readEntry b (ns.drop k) = none := by
  by_cases hl : k < ns.length
  · rw [drop_cons hl, readEntry]
    by_cases hc : 1 ≤ ns.getD k 0 ∧ ns.getD k 0 ≤ R7237f.Spec.maxItems
    · rw [if_pos hc]
      cases q : readItems b (ns.getD k 0) (ns.drop (k + 1)) with
      | none => rfl
      | some z =>
        obtain ⟨e, r⟩ := z
        obtain ⟨h1, h2⟩ := items_inv _ _ _ _ _ q
        rw [List.length_drop] at h1
        refine absurd ⟨hl, hc.1, hc.2, by omega, fun i hi => ?_⟩ h
        have := h2 i hi
        rwa [getD_drop] at this
    · rw [if_neg hc]
  · rw [List.drop_eq_nil_of_le (by omega), readEntry]
/-- how long the entry at a place is: 0, if there is none -/
def eSize (b : Nat) (ns : List Nat) (k : Nat) : Nat := match readEntry b (ns.drop k) with
  | some (e, _) => 1 + 5 * e.length
  | none => 0
theorem eSize_yes {b : Nat} {ns : List Nat} {k : Nat} (h : EntHere b ns k) : eSize b ns k = 1 + 5 * ns.getD k 0 := by
  unfold eSize
  rw [ent_yes h]
  simp only
  rw [entAt_len]
theorem eSize_no {b : Nat} {ns : List Nat} {k : Nat} (h : ¬ EntHere b ns k) : eSize b ns k = 0 := by
  unfold eSize
  rw [ent_no h]
theorem eSize_pos {b : Nat} {ns : List Nat} {k : Nat} (h : 0 < eSize b ns k) : EntHere b ns k := Classical.byContradiction fun n => by
  rw [eSize_no n] at h
  exact absurd h (Nat.lt_irrefl 0)
theorem readAll_fuel (b : Nat) : ∀ (f g : Nat) (l : List Nat), l.length ≤ f → l.length ≤ g → readAll b f l = readAll b g l
  | 0, 0, _, _, _ => rfl
  | 0, g + 1, l, h, _ => by
    have e : l = [] := List.eq_nil_of_length_eq_zero (by omega)
    subst e
    rw [readAll, readAll, readEntry]
  | f + 1, 0, l, _, h => by
    have e : l = [] := List.eq_nil_of_length_eq_zero (by omega)
    subst e
    rw [readAll, readAll, readEntry]
  | f + 1, g + 1, l, hf, hg => by
    rw [readAll, readAll]
    cases q : readEntry b l with
    | none => rfl
    | some z =>
      obtain ⟨e, r⟩ := z
      have hr : r.length < l.length := by
        by_cases c : EntHere b l 0
        · have y := ent_yes c
          rw [List.drop_zero, q] at y
          cases y
          rw [List.length_drop]
          have := c.lt
          omega
        · have y := ent_no c
          rw [List.drop_zero, q] at y
          cases y
      simp only
      rw [readAll_fuel b f g r (by omega) (by omega)]
/-- what is read from a place on -/
def restAt (b : Nat) (ns : List Nat) (k : Nat) : List (List Item) := readJournal b (ns.drop k)
theorem rest_no {b : Nat} {ns : List Nat} {k : Nat} (h : ¬ EntHere b ns k) : restAt b ns k = [] := by
  unfold restAt readJournal
  cases q : (ns.drop k).length with
  | zero => rw [readAll]
  | succ n => rw [readAll, ent_no h]
theorem rest_yes {b : Nat} {ns : List Nat} {k : Nat} (h : EntHere b ns k) : restAt b ns k = entAt ns k :: restAt b ns (k + (1 + 5 * ns.getD k 0)) := by
  unfold restAt readJournal
  have e : (ns.drop k).length = (ns.length - k - 1) + 1 := by
    rw [List.length_drop]
    have := h.lt
    omega
  rw [e, readAll, ent_yes h]
  simp only
  rw [readAll_fuel b _ (ns.drop (k + (1 + 5 * ns.getD k 0))).length _ (by rw [List.length_drop]; omega) (Nat.le_refl _)]
theorem ent_blk {b : Nat} {ns : List Nat} {k : Nat} (h : EntHere b ns k) : ∀ x ∈ entAt ns k, x.block < b := by
  intro x hx
  unfold entAt at hx
  obtain ⟨i, hi, rfl⟩ := List.mem_map.mp hx
  exact h.blk i (List.mem_range.mp hi)
/-- every change that is read is of a block below the bound; the entries are few and short -/
theorem rest_blk (b : Nat) (ns : List Nat) : ∀ (n k : Nat), ns.length ≤ k + n → ∀ e ∈ restAt b ns k, ∀ x ∈ e, x.block < b
  | 0, k, hk => by
    have h : ¬ EntHere b ns k := fun h => by have := h.lt; omega
    rw [rest_no h]
    intro e he
    cases he
  | n + 1, k, hk => by
    by_cases h : EntHere b ns k
    · rw [rest_yes h]
      intro e he
      rcases List.mem_cons.mp he with rfl | he
      · exact ent_blk h
      · exact rest_blk b ns n _ (by omega) e he
    · rw [rest_no h]
      intro e he
      cases he
theorem rest_len (b : Nat) (ns : List Nat) : ∀ (n k : Nat), ns.length ≤ k + n → (restAt b ns k).length + (restAt b ns k).flatten.length ≤ n
  | 0, k, hk => by
    have h : ¬ EntHere b ns k := fun h => by have := h.lt; omega
    rw [rest_no h]
    exact Nat.le_refl 0
  | n + 1, k, hk => by
    by_cases h : EntHere b ns k
    · rw [rest_yes h, List.flatten_cons, List.length_cons, List.length_append, entAt_len]
      have h1 := h.fit
      have ih := rest_len b ns (n - 5 * ns.getD k 0) (k + (1 + 5 * ns.getD k 0)) (by omega)
      omega
    · rw [rest_no h]
      exact Nat.zero_le _
theorem journal_blk {b : Nat} {ns : List Nat} : ∀ e ∈ readJournal b ns, ∀ x ∈ e, x.block < b := rest_blk b ns ns.length 0 (by omega)
theorem journal_len {b : Nat} {ns : List Nat} : (readJournal b ns).length + (readJournal b ns).flatten.length ≤ ns.length := rest_len b ns ns.length 0 (by omega)
end Ov
set_option maxHeartbeats 2000000
/-! V2: records by their members; the defs of the chapter on journals. -/
namespace Ov
open PySem PySem.Spec PyProof.Rows L2
open R7237f.Spec (Plain Units Item Cell Lock Replay Op Way entryBytes itemBytes readItems readEntry readAll readJournal)
/-- a written row of named values -/
def mems : List (Str × TE) → TA
  | [] => tNil
  | m :: r => tCons (tTup (tCons (tC (.str m.1)) (tCons m.2 tNil))) (mems r)
inductive MemsOk (σ : St) (G H : Hp) : List (Str × TE) → List (Str × Plain) → Prop
  | nil : MemsOk σ G H [] []
  | cons {n : Str} {te : TE} {p : Plain} {r : List (Str × TE)} {ps : List (Str × Plain)} : (∀ G1 H1 Q, Ext G H G1 H1 → Ret G1 H1 p Q → te σ H1 Q) → (Nat.ble n.cps.size 1000 && narrow16 n) = true → MemsOk σ G H r ps → MemsOk σ G H ((n, te) :: r) ((n, p) :: ps)
theorem mems_run {σ : St} {G H : Hp} : ∀ {ms : List (Str × TE)} {ps : List (Str × Plain)}, MemsOk σ G H ms ps → ∀ {G1 H1 : Hp} {Q : List V → Hp → Prop}, Ext G H G1 H1 → (∀ G2 H2 vs, Ext G1 H1 G2 H2 → Paired (NmAt G2) ps vs → Q vs H2) → mems ms σ H1 Q
  | _, _, .nil, _, _, _, e, q => q _ _ _ (ExtF.refl e.sub) .nil
  | _, _, .cons (n := n) f hn r, G1, H1, Q, e, q => by
    rw [Bool.and_eq_true] at hn
    refine f G1 H1 _ e fun G2 H2 v e2 hv => ⟨sz2, fun p hp => ?_⟩
    have e3 := e2.imm (o := .tup [.str n, v]) hp
    refine mems_run r (e.trans e3) fun G4 H4 vs e4 pd => q _ _ _ (e3.trans e4) (.cons ?_ pd)
    have s2 := (ExtF.refl (F := NoF) e2.sub).imm (o := .tup [.str n, v]) hp
    exact ⟨p, v, rfl, e4.g _ _ upd_same, (hv.mono s2.g).mono e4.g, Nat.le_of_ble_eq_true hn.1, hn.2⟩
theorem ev_record {σ : St} {G H : Hp} {Q : VK} {E : XK} {ms : List (Str × TE)} {ps : List (Str × Plain)} (m : MemsOk σ G H ms ps) (hs : Same G H) (hz : ps.length ≤ 1000) (q : Ret G H (recOf ps) Q) : tCall (Sp1 fRecord) [] E (tCons (tLst (mems ms)) tNil) σ H Q := by
  refine mems_run m (ExtF.refl hs) fun G2 H2 vs e2 pd => ⟨?_, fun l hl => ?_⟩
  · have := Pd.len pd
    exact szK (by omega)
  · have e3 := e2.mut (o := .lst vs) hl
    exact ⟨_, rfl, G2, l, vs, ps, rfl, upd_same, e3.sub, hz, pd, fun G4 H4 v e4 hv => q _ _ _ (e3.trans e4) hv⟩
def recS (fs : List (String × Plain)) : List (Str × Plain) := fs.map fun f => (Str.ofString f.1, f.2)
/-- the names of all members that are written -/
def theNames : List String := ["block", "version", "value", "written", "done", "node", "alone", "life", "index", "running", "shutOut", "replayed", "freed", "cache", "journal", "replays", "write", "kind", "transaction", "changes", "disk", "locks", "nodes", "underWay", "committed"]
theorem names_ok : (theNames.all fun n => decide (unitsOf (Str.ofString n) = R7237f.Spec.units n)) = true := by decide +kernel
theorem rec_spec {fs : List (String × Plain)} (h : (fs.all fun f => theNames.contains f.1) = true) : recOf (recS fs) = R7237f.Spec.record fs := by
  unfold recOf recS R7237f.Spec.record
  rw [List.map_map]
  congr 1
  refine List.map_congr_left fun f hf => ?_
  have h1 := List.all_eq_true.mp h f hf
  have h2 := List.all_eq_true.mp names_ok f.1 (by simpa using h1)
  show (unitsOf (Str.ofString f.1), f.2) = _
  rw [of_decide_eq_true h2]
/-! ### entries -/
def ItemAt (G : Hp) (x : Item) (v : V) : Prop := ∃ a, v = .ref a ∧ G a = some (.tup [.int (x.block : Int), .int (x.version : Int), .int (x.value : Int)])
theorem ItemAt.mono {G G' : Hp} (s : Same G G') {x : Item} {v : V} (h : ItemAt G x v) : ItemAt G' x v := by
  obtain ⟨a, e, h⟩ := h
  exact ⟨a, e, s _ _ h⟩
def EntAt (G : Hp) (e : List Item) (v : V) : Prop := ∃ l vs, v = .ref l ∧ G l = some (.lst vs) ∧ Paired (ItemAt G) e vs
theorem EntAt.mono {G G' : Hp} (s : Same G G') {x : List Item} {v : V} (h : EntAt G x v) : EntAt G' x v := by
  obtain ⟨l, vs, e, h, p⟩ := h
  exact ⟨l, vs, e, s _ _ h, Pd.mono (fun _ _ z => z.mono s) p⟩
theorem bytes_len : ∀ e : List Item, (e.flatMap itemBytes).length = 5 * e.length
  | [] => rfl
  | x :: r => by
    rw [List.flatMap_cons, List.length_append, bytes_len r, List.length_cons]
    show 5 + _ = _
    omega
theorem eb_len (e : List Item) : (entryBytes e).length = 1 + 5 * e.length := by
  unfold entryBytes
  rw [List.length_cons, bytes_len]
  omega
theorem nlst_app (a b : List Nat) : nlst (a ++ b) = nlst a ++ nlst b := List.map_append
theorem nlst_len (a : List Nat) : (nlst a).length = a.length := List.length_map _
theorem and255 (n : Nat) : ((n : Int)) % 2 ^ 8 = ((n % 256 : Nat) : Int) := by
  have e : (2 : Int) ^ 8 = 256 := rfl
  rw [e]
  omega
/-- what a list of numbers has at a place -/
theorem nlst_at {ns : List Nat} {i : Nat} {k : Int} (h : i < ns.length) (hk : k = (i : Int)) : atI (nlst ns) k = some (.int ((ns.getD i 0 : Nat) : Int)) := by
  subst hk
  refine atI_nat ?_
  unfold nlst
  rw [List.getElem?_map, List.getElem?_eq_getElem h, List.getD_eq_getElem?_getD, List.getElem?_eq_getElem h]
  rfl
section
variable {P : Program} {w : World} {K : PySem.W.Frag} {mg : Str → Option Value} {base : Heap}
abbrev s_entry_octets : Stmt := top 27
theorem sc_entry_octets : FnScope ["changes", "octets", "block", "version", "value"] ["changes"] (defScope s_entry_octets) := ⟨rfl, rfl, rfl, by decide +kernel, rfl, by decide +kernel, by decide +kernel⟩
theorem bd_entry_octets : Bd "entry_octets" "entry_octets" s_entry_octets ["changes"] := fun _ _ _ _ _ _ us hl => match us, hl with | [_], _ => rfl
abbrev s_change_at : Stmt := top 28
theorem sc_change_at : FnScope ["octets", "at", "version"] ["octets", "at"] (defScope s_change_at) := ⟨rfl, rfl, rfl, by decide +kernel, rfl, by decide +kernel, by decide +kernel⟩
theorem bd_change_at : Bd "change_at" "change_at" s_change_at ["octets", "at"] := fun _ _ _ _ _ _ us hl => match us, hl with | [_, _], _ => rfl
abbrev s_entry_size : Stmt := top 29
theorem sc_entry_size : FnScope ["blocks", "octets", "at", "many", "turn"] ["blocks", "octets", "at"] (defScope s_entry_size) := ⟨rfl, rfl, rfl, by decide +kernel, rfl, by decide +kernel, by decide +kernel⟩
theorem bd_entry_size : Bd "entry_size" "entry_size" s_entry_size ["blocks", "octets", "at"] := fun _ _ _ _ _ _ us hl => match us, hl with | [_, _, _], _ => rfl
abbrev s_entry_at : Stmt := top 30
theorem sc_entry_at : FnScope ["octets", "at", "turn"] ["octets", "at"] (defScope s_entry_at) := ⟨rfl, rfl, rfl, by decide +kernel, rfl, by decide +kernel, by decide +kernel⟩
theorem bd_entry_at : Bd "entry_at" "entry_at" s_entry_at ["octets", "at"] := fun _ _ _ _ _ _ us hl => match us, hl with | [_, _], _ => rfl
abbrev s_read_entries : Stmt := top 31
theorem sc_read_entries : FnScope ["blocks", "octets", "entries", "at", "size"] ["blocks", "octets"] (defScope s_read_entries) := ⟨rfl, rfl, rfl, by decide +kernel, rfl, by decide +kernel, by decide +kernel⟩
theorem bd_read_entries : Bd "read_entries" "read_entries" s_read_entries ["blocks", "octets"] := fun _ _ _ _ _ _ us hl => match us, hl with | [_, _], _ => rfl
abbrev s_read_changes : Stmt := top 32
theorem sc_read_changes : FnScope ["blocks", "octets", "changes", "entry"] ["blocks", "octets"] (defScope s_read_changes) := ⟨rfl, rfl, rfl, by decide +kernel, rfl, by decide +kernel, by decide +kernel⟩
theorem bd_read_changes : Bd "read_changes" "read_changes" s_read_changes ["blocks", "octets"] := fun _ _ _ _ _ _ us hl => match us, hl with | [_, _], _ => rfl
abbrev s_change_record : Stmt := top 33
theorem sc_change_record : FnScope ["change", "block", "version", "value"] ["change"] (defScope s_change_record) := ⟨rfl, rfl, rfl, by decide +kernel, rfl, by decide +kernel, by decide +kernel⟩
theorem bd_change_record : Bd "change_record" "change_record" s_change_record ["change"] := fun _ _ _ _ _ _ us hl => match us, hl with | [_], _ => rfl
abbrev s_change_records : Stmt := top 34
theorem sc_change_records : FnScope ["changes", "change"] ["changes"] (defScope s_change_records) := ⟨rfl, rfl, rfl, by decide +kernel, rfl, by decide +kernel, by decide +kernel⟩
theorem bd_change_records : Bd "change_records" "change_records" s_change_records ["changes"] := fun _ _ _ _ _ _ us hl => match us, hl with | [_], _ => rfl
def fEntryOctets : V → Hp → VK → XK → Prop := fun a H Q _ => ∃ G l vs e, a = .ref l ∧ SqL K H l vs ∧ Same G H ∧ Paired (ItemAt G) e vs ∧ e.length ≤ 1000 ∧ ∀ D, H D = none → Q (.ref D) (upd H D (.lst (nlst (entryBytes e))))
theorem d_entry_octets (T : Txt K mg) (F : Fs K mg "entry_octets" s_entry_octets) : DefOk P w K mg base CX0 1 "entry_octets" ["changes"] (Sp1 (fEntryOctets (K := K))) :=
  def_C F sc_entry_octets bd_entry_octets fun f cdv A outer s H vs Q E hr h => by
    obtain ⟨_, rfl, G, l, xs, e, rfl, hl, hs, pd, hz, q⟩ := h
    refine ⟨_, (pss_cons (ps_set (i := 1) sc_entry_octets.nd rfl (Or.inl rfl) (pe_lst (pa_cons (pe_callB call_len_seq (by rfl) T.z_len PySem.boot_len (pa_cons (pv 0) pa_nil)) pa_nil))) (pss_cons (ps_for PassesOwn.never rfl (pi_list (pv 0)) (pg_tup rfl (pgs_cons (pg_name (i := 2) sc_entry_octets.nd rfl (Or.inl rfl)) (pgs_cons (pg_name (i := 3) sc_entry_octets.nd rfl (Or.inl rfl)) (pgs_cons (pg_name (i := 4) sc_entry_octets.nd rfl (Or.inl rfl)) pgs_nil)))) (pss_cons (ps_expr (pe_bm PySem.F.plainAttrs_list PySem.F.slot_list_append PySem.F.type_list_append mt_append (pv 1) (pa_cons (pv 2) pa_nil))) (pss_cons (ps_expr (pe_bm PySem.F.plainAttrs_list PySem.F.slot_list_append PySem.F.type_list_append mt_append (pv 1) (pa_cons (pe_op op_fdivNN (pv 3) pe_int) pa_nil))) (pss_cons (ps_expr (pe_bm PySem.F.plainAttrs_list PySem.F.slot_list_append PySem.F.type_list_append mt_append (pv 1) (pa_cons (pe_op op_andM (pe_op op_fdivNN (pv 3) pe_int) pe_int) pa_nil))) (pss_cons (ps_expr (pe_bm PySem.F.plainAttrs_list PySem.F.slot_list_append PySem.F.type_list_append mt_append (pv 1) (pa_cons (pe_op op_andM (pv 3) pe_int) pa_nil))) (pss_one (ps_expr (pe_bm PySem.F.plainAttrs_list PySem.F.slot_list_append PySem.F.type_list_append mt_append (pv 1) (pa_cons (pv 4) pa_nil))))))))) (pss_one (ps_ret (pv 1))))), ?_⟩
    refine ⟨_, rfl, l, _, rfl, .inl hl, sz1, fun D hD => ?_⟩
    have old : ∀ y b o, G b = some o → upd H D y b = some o := fun y b o z => by rw [upd_ne (ne_of_none (hs _ _ z) hD)]; exact hs _ _ z
    have oldS : ∀ y, SqL K (upd H D y) l xs := fun y => Same.seq (fun b o z => by rw [upd_ne (ne_of_none z hD)]; exact z) hl
    refine ⟨_, rfl, l, rfl, ⟨_, oldS _⟩, for_run (K := K) (a := l) (xs := xs)
      (fun r σ H' => (∃ x2 x3 x4, σ = [some (.ref l), some (.ref D), x2, x3, x4]) ∧ ∃ pre rest, pre ++ rest = e ∧ Paired (ItemAt G) rest r ∧ H' = upd H D (.lst (nlst (e.length :: pre.flatMap itemBytes)))) ?_ ?_ ?_ ?_⟩
    · refine ⟨⟨_, _, _, rfl⟩, [], e, rfl, pd, ?_⟩
      rw [← Pd.len pd]
      rfl
    · rintro r σ H' ⟨_, pre, rest, _, _, rfl⟩
      exact oldS _
    · rintro v r σ H' ⟨⟨x2, x3, x4, rfl⟩, pre, rest, e0, pr, rfl⟩
      cases pr with
      | cons hm pr =>
      rename_i x rest
      obtain ⟨t, rfl, ht⟩ := hm
      have ln : (nlst (e.length :: pre.flatMap itemBytes)).length ≤ 5001 := by
        have z := len_cut e0
        rw [nlst_len, List.length_cons, bytes_len]
        omega
      generalize hB : nlst (e.length :: pre.flatMap itemBytes) = B at *
      have step : ∀ {xs : List V} {y : V}, upd (upd H D (.lst xs)) D (.lst (xs ++ [y])) = upd H D (.lst (xs ++ [y])) := upd_upd
      refine ⟨t, _, rfl, SqT.of (old _ _ _ ht), rfl, _, _, rfl, _, _, rfl, _, _, rfl, rfl, ?_⟩
      refine ⟨_, rfl, .inl ⟨rfl, _, SqL.of upd_same⟩, _, rfl, D, _, _, rfl, rfl, upd_same, szk (by omega), ?_⟩
      rw [step]
      refine ⟨_, rfl, .inl ⟨rfl, _, SqL.of upd_same⟩, _, rfl, x.version, 65536, rfl, rfl, by decide, D, _, _, rfl, rfl, upd_same, szk (by rw [List.length_append]; simp only [List.length_cons, List.length_nil]; omega), ?_⟩
      rw [step]
      refine ⟨_, rfl, .inl ⟨rfl, _, SqL.of upd_same⟩, _, rfl, x.version, 256, rfl, rfl, by decide, _, 8, rfl, rfl, D, _, _, rfl, rfl, upd_same, szk (by simp only [List.length_append, List.length_cons, List.length_nil]; omega), ?_⟩
      rw [step]
      refine ⟨_, rfl, .inl ⟨rfl, _, SqL.of upd_same⟩, _, rfl, _, 8, rfl, rfl, D, _, _, rfl, rfl, upd_same, szk (by simp only [List.length_append, List.length_cons, List.length_nil]; omega), ?_⟩
      rw [step]
      refine ⟨_, rfl, .inl ⟨rfl, _, SqL.of upd_same⟩, _, rfl, D, _, _, rfl, rfl, upd_same, szk (by simp only [List.length_append, List.length_cons, List.length_nil]; omega), ?_⟩
      rw [step]
      refine ⟨⟨_, _, _, rfl⟩, pre ++ [x], rest, by rw [List.append_assoc]; exact e0, pr, ?_⟩
      rw [and255, and255]
      subst hB
      congr 2
      rw [List.flatMap_append, ← List.cons_append, nlst_app]
      simp only [List.append_assoc]
      rfl
    · rintro σ H' ⟨⟨x2, x3, x4, rfl⟩, pre, rest, e0, pr, rfl⟩
      cases pr
      rw [List.append_nil] at e0
      subst e0
      exact ⟨_, rfl, q D hD⟩
def fChangeAt : V → V → Hp → VK → XK → Prop := fun a b H Q _ => ∃ l ns, ∃ k : Nat, a = .ref l ∧ b = .int (k : Int) ∧ SqL K H l (nlst ns) ∧ k + 4 < ns.length ∧
  ∀ p, H p = none → Q (.ref p) (upd H p (.tup [.int ((itAt ns k).block : Int), .int ((itAt ns k).version : Int), .int ((itAt ns k).value : Int)]))
theorem d_change_at (T : Txt K mg) (F : Fs K mg "change_at" s_change_at) : DefOk P w K mg base CX0 1 "change_at" ["octets", "at"] (Sp2 (fChangeAt (K := K))) :=
  def_C F sc_change_at bd_change_at fun f cdv A outer s H vs Q E hr h => by
    obtain ⟨_, _, rfl, l, ns, k, rfl, rfl, hl, hk, q⟩ := h
    refine ⟨_, (pss_cons (ps_set (i := 2) sc_change_at.nd rfl (Or.inl rfl) (pe_op op_add (pe_op op_add (pe_op op_mul (pe_ix ix_list (pv 0) (pe_op op_add (pv 1) pe_int) (fun _ _ => rfl)) pe_int) (pe_op op_mul (pe_ix ix_list (pv 0) (pe_op op_add (pv 1) pe_int) (fun _ _ => rfl)) pe_int)) (pe_ix ix_list (pv 0) (pe_op op_add (pv 1) pe_int) (fun _ _ => rfl)))) (pss_one (ps_ret (pe_tup (pa_cons (pe_ix ix_list (pv 0) (pv 1) (fun _ _ => rfl)) (pa_cons (pv 2) (pa_cons (pe_ix ix_list (pv 0) (pe_op op_add (pv 1) pe_int) (fun _ _ => rfl)) pa_nil))))))), ?_⟩
    refine ⟨_, rfl, _, rfl, _, _, rfl, rfl, l, _, _, _, rfl, rfl, hl, nlst_at (i := k + 1) (by omega) (by omega), _, _, rfl, rfl, .inr (by decide), ?_⟩
    refine ⟨_, rfl, _, rfl, _, _, rfl, rfl, l, _, _, _, rfl, rfl, hl, nlst_at (i := k + 2) (by omega) (by omega), _, _, rfl, rfl, .inr (by decide), _, _, rfl, rfl, ?_⟩
    refine ⟨_, rfl, _, rfl, _, _, rfl, rfl, l, _, _, _, rfl, rfl, hl, nlst_at (i := k + 3) (by omega) (by omega), _, _, rfl, rfl, ?_⟩
    refine ⟨_, rfl, _, rfl, l, _, _, _, rfl, rfl, hl, nlst_at (i := k) (by omega) rfl, _, rfl, ?_⟩
    refine ⟨_, rfl, _, rfl, _, _, rfl, rfl, l, _, _, _, rfl, rfl, hl, nlst_at (i := k + 4) (by omega) (by omega), sz3, fun p hp => ?_⟩
    have z := q p hp
    have e : ((itAt ns k).version : Int) = (ns.getD (k + 1) 0 : Nat) * 65536 + (ns.getD (k + 2) 0 : Nat) * 256 + (ns.getD (k + 3) 0 : Nat) := by
      unfold itAt
      simp only
      omega
    rw [e] at z
    exact z
def fEntrySize : V → V → V → Hp → VK → XK → Prop := fun a b c H Q _ => ∃ l ns, ∃ n k : Nat, a = .int (n : Int) ∧ b = .ref l ∧ c = .int (k : Int) ∧ SqL K H l (nlst ns) ∧ Q (.int (eSize n ns k : Int)) H
theorem d_entry_size (T : Txt K mg) (F : Fs K mg "entry_size" s_entry_size) : DefOk P w K mg base CX0 1 "entry_size" ["blocks", "octets", "at"] (Sp3 (fEntrySize (K := K))) :=
  def_C F sc_entry_size bd_entry_size fun f cdv A outer s H vs Q E hr h => by
    obtain ⟨_, _, _, rfl, l, ns, n, k, rfl, rfl, rfl, hl, q⟩ := h
    have no : ¬ EntHere n ns k → Q (.int 0) H := fun h => by
      rw [eSize_no h] at q
      exact q
    refine ⟨_, (pss_cons (ps_if (pt_cmpR op_ge (pv 2) (pe_callB call_len_seq (by rfl) T.z_len PySem.boot_len (pa_cons (pv 1) pa_nil)) (nomark _)) (pss_one (ps_ret pe_int)) pss_nil) (pss_cons (ps_set (i := 3) sc_entry_size.nd rfl (Or.inl rfl) (pe_ix ix_list (pv 1) (pv 2) (fun _ _ => rfl))) (pss_cons (ps_if (PW.pt (pw_or (pt_cmpR op_lt (pv 3) pe_int (nomark _)) (pw_or1 (pt_cmpR op_gt (pv 3) pe_int (nomark _))))) (pss_one (ps_ret pe_int)) pss_nil) (pss_cons (ps_if (pt_cmpR op_gt (pe_op op_add (pe_op op_add (pv 2) pe_int) (pe_op op_mul pe_int (pv 3))) (pe_callB call_len_seq (by rfl) T.z_len PySem.boot_len (pa_cons (pv 1) pa_nil)) (nomark _)) (pss_one (ps_ret pe_int)) pss_nil) (pss_cons (ps_for PassesOwn.never rfl (pi_range1 rfl T.z_range (pa_cons (pv 3) pa_nil)) (pg_name (i := 4) sc_entry_size.nd rfl (Or.inl rfl)) (pss_one (ps_if (pt_cmpR op_ge (pe_ix ix_list (pv 1) (pe_op op_add (pe_op op_add (pv 2) pe_int) (pe_op op_mul pe_int (pv 4))) (fun _ _ => rfl)) (pv 0) (nomark _)) (pss_one (ps_ret pe_int)) pss_nil))) (pss_one (ps_ret (pe_op op_add pe_int (pe_op op_mul pe_int (pv 3)))))))))), ?_⟩
    refine ⟨_, rfl, _, rfl, l, _, rfl, .inl hl, _, _, rfl, rfl, _, rfl, ?_⟩
    rw [nlst_len]
    by_cases c1 : k < ns.length
    case neg =>
      rw [decide_eq_true (by omega : (k : Int) ≥ (ns.length : Int))]
      exact iteT (no fun h => c1 h.lt)
    rw [decide_eq_false (by omega : ¬ (k : Int) ≥ (ns.length : Int))]
    refine iteF ⟨_, rfl, _, rfl, l, _, _, _, rfl, rfl, hl, nlst_at c1 rfl, ?_⟩
    refine ⟨_, rfl, _, _, rfl, rfl, _, rfl, ?_⟩
    by_cases c2 : ns.getD k 0 < 1
    case pos =>
      rw [decide_eq_true (by omega : ((ns.getD k 0 : Nat) : Int) < 1)]
      exact iteT (iteT (no fun h => by have := h.lo; omega))
    rw [decide_eq_false (by omega : ¬ ((ns.getD k 0 : Nat) : Int) < 1)]
    refine iteF ⟨_, rfl, _, _, rfl, rfl, _, rfl, ?_⟩
    by_cases c3 : 8 < ns.getD k 0
    case pos =>
      rw [decide_eq_true (by omega : ((ns.getD k 0 : Nat) : Int) > 8)]
      exact iteT (no fun h => by have := h.hi; omega)
    rw [decide_eq_false (by omega : ¬ ((ns.getD k 0 : Nat) : Int) > 8)]
    refine iteF ⟨_, rfl, _, _, rfl, rfl, _, rfl, _, _, rfl, rfl, .inl (by decide), _, _, rfl, rfl, _, rfl, l, _, rfl, .inl hl, _, _, rfl, rfl, _, rfl, ?_⟩
    rw [nlst_len]
    by_cases c4 : k + 1 + 5 * ns.getD k 0 ≤ ns.length
    case neg =>
      rw [decide_eq_true (by omega : (k : Int) + 1 + 5 * ((ns.getD k 0 : Nat) : Int) > (ns.length : Int))]
      exact iteT (no fun h => c4 h.fit)
    rw [decide_eq_false (by omega : ¬ (k : Int) + 1 + 5 * ((ns.getD k 0 : Nat) : Int) > (ns.length : Int))]
    refine iteF ⟨_, rfl, _, rfl, by omega, by omega, for_rng (n := ns.getD k 0) (fun i σ H' => H' = H ∧ (∃ x, σ = [some (.int (n : Int)), some (.ref l), some (.int (k : Int)), some (.int ((ns.getD k 0 : Nat) : Int)), x]) ∧ ∀ j, j < i → ns.getD (k + 1 + 5 * j) 0 < n) ⟨rfl, ⟨_, rfl⟩, fun j hj => absurd hj (Nat.not_lt_zero j)⟩ ?_ ?_⟩
    · rintro i σ H' hi ⟨rfl, ⟨x, rfl⟩, hb⟩
      refine ⟨_, rfl, _, rfl, _, _, rfl, rfl, _, rfl, _, _, rfl, rfl, .inl (by decide), _, _, rfl, rfl, l, _, _, _, rfl, rfl, hl, nlst_at (i := k + 1 + 5 * i) (by omega) (by omega), _, rfl, _, _, rfl, rfl, _, rfl, ?_⟩
      by_cases c5 : ns.getD (k + 1 + 5 * i) 0 < n
      · rw [decide_eq_false (by omega : ¬ ((ns.getD (k + 1 + 5 * i) 0 : Nat) : Int) ≥ (n : Int))]
        refine iteF ⟨rfl, ⟨_, rfl⟩, fun j hj => ?_⟩
        by_cases e : j = i
        · exact e ▸ c5
        · exact hb j (by omega)
      · rw [decide_eq_true (by omega : ((ns.getD (k + 1 + 5 * i) 0 : Nat) : Int) ≥ (n : Int))]
        exact iteT (no fun h => c5 (h.blk i hi))
    · rintro σ H' ⟨rfl, ⟨x, rfl⟩, hb⟩
      refine ⟨_, rfl, _, _, rfl, rfl, .inl (by decide), _, _, rfl, rfl, ?_⟩
      have z := q
      rw [eSize_yes ⟨c1, by omega, by omega, c4, hb⟩] at z
      have e : ((1 + 5 * ns.getD k 0 : Nat) : Int) = 1 + 5 * ((ns.getD k 0 : Nat) : Int) := by omega
      rw [e] at z
      exact z
/-- a new list of items that stand -/
def fEntryAt : V → V → Hp → VK → XK → Prop := fun a b H Q _ => ∃ G l ns, ∃ n k : Nat, a = .ref l ∧ b = .int (k : Int) ∧ Same G H ∧ SqL K H l (nlst ns) ∧ EntHere n ns k ∧
  ∀ G' H' D ys, Ext G H G' H' → G' D = some (.lst ys) → H D = none → Paired (ItemAt G') (entAt ns k) ys → Q (.ref D) H'
theorem d_entry_at (T : Txt K mg) (D_change_at : DefOk P w K mg base CX0 1 "change_at" ["octets", "at"] (Sp2 (fChangeAt (K := K)))) (F : Fs K mg "entry_at" s_entry_at) : DefOk P w K mg base CX0 2 "entry_at" ["octets", "at"] (Sp2 (fEntryAt (K := K))) :=
  def_C F sc_entry_at bd_entry_at fun f cdv A outer s H vs Q E hr h => by
    obtain ⟨_, _, rfl, G, l, ns, n, k, rfl, rfl, hs, hl, ht, q⟩ := h
    have h8 := ht.hi
    refine ⟨_, (pss_one (ps_ret (pe_lc (own := [("turn", 2)]) (g := (gName 2)) (tt := tYes) rfl sc_entry_at.nd (pi_range1 rfl T.z_range (pa_cons (pe_ix ix_list (pv 0) (pv 1) (fun _ _ => rfl)) pa_nil)) (blkOk_by (N := ["octets", "at", "turn"]) (sc := defScope s_entry_at) (by decide +kernel)) (fun _ _ _ _ _ => (pg_name (i := 2) sc_entry_at.nd rfl (Or.inl rfl))) (fun _ _ _ _ _ => pts_nil) (fun _ _ _ _ _ => (pe_d D_change_at (hr.mono (by decide)) pass0 (pa_cons (pv 0) (pa_cons (pe_op op_add (pe_op op_add (pv 1) pe_int) (pe_op op_mul pe_int (pv 2))) pa_nil))))))), ?_⟩
    refine ⟨_, rfl, _, rfl, l, _, _, _, rfl, rfl, hl, nlst_at ht.lt rfl, _, rfl, by omega, by omega, fun D hD => lc_map (ms := List.range (ns.getD k 0)) (S := fun (n : Nat) v => v = V.int (n : Int)) (R := fun G i v => ItemAt G (itAt ns (k + 1 + 5 * i)) v) (Src.rng (n := ns.getD k 0)) hs hD pdRng (by rw [List.length_range]; omega) (fun _ _ _ _ s h => h.mono s) ?_ ?_⟩
    · rintro i _ G1 H1 Y N rfl hi e y
      have hi' := List.mem_range.mp hi
      have h5 := ht.fit
      refine ⟨rfl, _, rfl, _, rfl, _, _, rfl, rfl, _, rfl, _, _, rfl, rfl, .inl (by decide), _, _, rfl, rfl, _, _, rfl, l, ns, k + 1 + 5 * i, rfl, ?_, Same.seq e.same hl, by omega, fun p hp => y _ _ _ ((ExtF.refl (F := NoF) e.sub).imm hp) ⟨p, rfl, upd_same⟩⟩
      congr 1
    · intro G1 H1 ys e g1 h1 pd
      refine q _ _ D ys (e.freeze hD h1 g1) upd_same hD (Pd.map_left (Pd.mono (fun _ _ z => z.mono fun b o hb => ?_) pd))
      rw [upd_ne (ne_of_none hb g1)]
      exact hb
def fReadEntries : V → V → Hp → VK → XK → Prop := fun a b H Q _ => ∃ G l ns, ∃ n : Nat, a = .int (n : Int) ∧ b = .ref l ∧ Same G H ∧ SqL K H l (nlst ns) ∧ ns.length ≤ 1000000 ∧
  ∀ G' H' D ys, Ext G H G' H' → G' D = some (.lst ys) → Paired (EntAt G') (readJournal n ns) ys → Q (.ref D) H'
theorem d_read_entries (T : Txt K mg) (D_entry_size : DefOk P w K mg base CX0 1 "entry_size" ["blocks", "octets", "at"] (Sp3 (fEntrySize (K := K)))) (D_entry_at : DefOk P w K mg base CX0 2 "entry_at" ["octets", "at"] (Sp2 (fEntryAt (K := K)))) (F : Fs K mg "read_entries" s_read_entries) : DefOk P w K mg base CX0 3 "read_entries" ["blocks", "octets"] (Sp2 (fReadEntries (K := K))) :=
  def_C F sc_read_entries bd_read_entries fun f cdv A outer s H vs Q E hr h => by
    obtain ⟨_, _, rfl, G, l, ns, n, rfl, rfl, hs, hl, hz, q⟩ := h
    refine ⟨_, (pss_cons (ps_set (i := 2) sc_read_entries.nd rfl (Or.inl rfl) (pe_lst pa_nil)) (pss_cons (ps_set (i := 3) sc_read_entries.nd rfl (Or.inl rfl) pe_int) (pss_cons (ps_set (i := 4) sc_read_entries.nd rfl (Or.inl rfl) (pe_d D_entry_size (hr.mono (by decide)) pass0 (pa_cons (pv 0) (pa_cons (pv 1) (pa_cons pe_int pa_nil))))) (pss_cons (ps_while PassesOwn.never (pt_cmpR op_gt (pv 4) pe_int (nomark _)) (pss_cons (ps_expr (pe_bm PySem.F.plainAttrs_list PySem.F.slot_list_append PySem.F.type_list_append mt_append (pv 2) (pa_cons (pe_d D_entry_at (hr.mono (by decide)) pass0 (pa_cons (pv 1) (pa_cons (pv 3) pa_nil))) pa_nil))) (pss_cons (ps_aug (i := 3) sc_read_entries.nd rfl (Or.inl rfl) (pv 4) ip_add) (pss_one (ps_set (i := 4) sc_read_entries.nd rfl (Or.inl rfl) (pe_d D_entry_size (hr.mono (by decide)) pass0 (pa_cons (pv 0) (pa_cons (pv 1) (pa_cons (pv 3) pa_nil))))))))) (pss_one (ps_ret (pv 2))))))), ?_⟩
    refine ⟨sz0, fun D hD => ⟨_, rfl, _, rfl, _, _, _, rfl, l, ns, n, 0, rfl, rfl, rfl, Same.seq (fun b o z => by rw [upd_ne (ne_of_none z hD)]; exact z) hl, ?_⟩⟩
    refine ⟨fun m σ H' => ∃ k G1 pre ys, m = ns.length - k ∧ σ = [some (.int (n : Int)), some (.ref l), some (.ref D), some (.int (k : Int)), some (.int (eSize n ns k : Int))] ∧ Ext G H G1 H' ∧ G1 D = none ∧ H' D = some (.lst ys) ∧ Paired (EntAt G1) pre ys ∧ pre ++ restAt n ns k = readJournal n ns, ⟨ns.length, 0, G, [], [], rfl, rfl, (ExtF.refl hs).mut hD, Same.none hs hD, upd_same, .nil, rfl⟩, ?_⟩
    rintro m σ H' ⟨k, G1, pre, ys, rfl, rfl, e, g1, h1, pd, er⟩
    refine ⟨_, rfl, _, _, rfl, rfl, _, rfl, ?_⟩
    by_cases c : 0 < eSize n ns k
    · have he := eSize_pos c
      have lD : H' D ≠ none := by rw [h1]; exact Option.some_ne_none _
      rw [decide_eq_true (by omega : (eSize n ns k : Int) > 0)]
      refine iteT ⟨_, fun _ _ z => z, ?_⟩
      refine ⟨_, rfl, .inl ⟨rfl, _, SqL.of h1⟩, _, rfl, _, rfl, _, _, rfl, G1, l, ns, n, k, rfl, rfl, e.sub, Same.seq e.same hl, he, fun G2 H2 D2 zs e2 g2 _ pd2 => ⟨D, ys, _, rfl, rfl, e2.same _ _ h1, szk ?_, ?_⟩⟩
      · have z1 := Pd.len pd
        have z2 := congrArg List.length er
        rw [List.length_append] at z2
        have z3 := journal_len (b := n) (ns := ns)
        omega
      have el := (e.trans e2).write (o := .lst (ys ++ [.ref D2])) (.inl hD) (e2.live D lD) (e2.gnone lD g1)
      refine ⟨_, rfl, _, rfl, _, _, rfl, rfl, _, rfl, _, rfl, _, rfl, _, _, _, rfl, l, ns, n, k + eSize n ns k, rfl, rfl, by rw [Int.natCast_add], Same.seq el.same hl, ?_⟩
      refine ⟨ns.length - (k + eSize n ns k), by have := he.lt; omega, k + eSize n ns k, G2, pre ++ [entAt ns k], ys ++ [.ref D2], rfl, ?_, el, e2.gnone lD g1, upd_same, (Pd.mono (fun _ _ z => z.mono e2.g) pd).snoc ⟨D2, zs, rfl, g2, pd2⟩, ?_⟩
      · rw [Int.natCast_add]
        rfl
      · rw [List.append_assoc, ← er, rest_yes he, eSize_yes he]
        rfl
    · have c0 : eSize n ns k = 0 := by omega
      rw [decide_eq_false (by omega : ¬ (eSize n ns k : Int) > 0)]
      refine iteF ⟨_, rfl, ?_⟩
      refine q _ _ D ys (e.freeze hD h1 g1) upd_same ?_
      have hn : ¬ EntHere n ns k := fun h => by
        have := eSize_yes h
        omega
      rw [rest_no hn, List.append_nil] at er
      subst er
      exact Pd.mono (fun _ _ z => z.mono fun b o hb => by rw [upd_ne (ne_of_none hb g1)]; exact hb) pd
def fReadChanges : V → V → Hp → VK → XK → Prop := fun a b H Q _ => ∃ G l ns, ∃ n : Nat, a = .int (n : Int) ∧ b = .ref l ∧ Same G H ∧ SqL K H l (nlst ns) ∧ ns.length ≤ 1000000 ∧
  ∀ G' H' D ys, Ext G H G' H' → G' D = some (.lst ys) → Paired (ItemAt G') (readJournal n ns).flatten ys → Q (.ref D) H'
theorem d_read_changes (T : Txt K mg) (D_read_entries : DefOk P w K mg base CX0 3 "read_entries" ["blocks", "octets"] (Sp2 (fReadEntries (K := K)))) (F : Fs K mg "read_changes" s_read_changes) : DefOk P w K mg base CX0 4 "read_changes" ["blocks", "octets"] (Sp2 (fReadChanges (K := K))) :=
  def_C F sc_read_changes bd_read_changes fun f cdv A outer s H vs Q E hr h => by
    obtain ⟨_, _, rfl, G, l, ns, n, rfl, rfl, hs, hl, hz, q⟩ := h
    refine ⟨_, (pss_cons (ps_set (i := 2) sc_read_changes.nd rfl (Or.inl rfl) (pe_lst pa_nil)) (pss_cons (ps_for PassesOwn.never rfl (pi_list (pe_d D_read_entries (hr.mono (by decide)) pass0 (pa_cons (pv 0) (pa_cons (pv 1) pa_nil)))) (pg_name (i := 3) sc_read_changes.nd rfl (Or.inl rfl)) (pss_one (ps_expr (pe_bm PySem.F.plainAttrs_list PySem.F.slot_list_extend PySem.F.type_list_extend mt_extend (pv 2) (pa_cons (pv 3) pa_nil))))) (pss_one (ps_ret (pv 2))))), ?_⟩
    refine ⟨sz0, fun D hD => ?_⟩
    have e0 := (ExtF.refl (F := NoF) hs).mut (o := .lst []) hD
    refine ⟨_, rfl, _, rfl, _, _, rfl, G, l, ns, n, rfl, rfl, e0.sub, Same.seq e0.same hl, hz, fun G1 H1 L ls e1 gL pL => ?_⟩
    have hD1 : H1 D = some (.lst []) := e1.same _ _ upd_same
    have lD : upd H D (.lst []) D ≠ none := by rw [upd_same]; exact Option.some_ne_none _
    have gD1 : G1 D = none := e1.gnone lD (Same.none hs hD)
    refine ⟨L, rfl, ⟨_, SqL.of (e1.sub _ _ gL)⟩, for_run (K := K) (a := L) (xs := ls) (fun r σ H' => (∃ x, σ = [some (.int (n : Int)), some (.ref l), some (.ref D), x]) ∧ ∃ pre rest ys, pre ++ rest = readJournal n ns ∧ Paired (EntAt G1) rest r ∧ H' = upd H1 D (.lst ys) ∧ Paired (ItemAt G1) pre.flatten ys) ?_ ?_ ?_ ?_⟩
    · refine ⟨⟨_, rfl⟩, [], _, [], rfl, pL, ?_, .nil⟩
      funext b
      by_cases c : b = D
      · subst c; rw [upd_same]; exact hD1
      · rw [upd_ne c]
    · rintro r σ H' ⟨_, pre, rest, ys, _, _, rfl, _⟩
      exact SqL.of (by rw [upd_ne (ne_of_none gL gD1)]; exact e1.sub _ _ gL)
    · rintro v r σ H' ⟨⟨x, rfl⟩, pre, rest, ys, er, pr, rfl, pd⟩
      cases pr with
      | cons hm pr =>
      rename_i m rest
      obtain ⟨l2, zs, rfl, h2, p2⟩ := hm
      refine ⟨_, rfl, .inl ⟨rfl, _, SqL.of upd_same⟩, _, rfl, D, l2, ys, zs, rfl, rfl, upd_same, by rw [upd_ne (ne_of_none h2 gD1)]; exact e1.sub _ _ h2, szK ?_, ?_⟩
      · have z1 := Pd.len pd
        have z2 := congrArg List.length (congrArg List.flatten er)
        have z3 := journal_len (b := n) (ns := ns)
        have z4 := Pd.len p2
        rw [List.flatten_append, List.length_append, List.flatten_cons, List.length_append] at z2
        omega
      · rw [upd_upd]
        refine ⟨⟨_, rfl⟩, pre ++ [m], rest, ys ++ zs, by rw [List.append_assoc]; exact er, pr, rfl, ?_⟩
        rw [List.flatten_append, List.flatten_singleton]
        exact Pd.app pd p2
    · rintro σ H' ⟨⟨x, rfl⟩, pre, rest, ys, er, pr, rfl, pd⟩
      cases pr
      rw [List.append_nil] at er
      subst er
      have ew := (e0.trans e1).write (o := .lst ys) (.inl hD) (by rw [hD1]; exact Option.some_ne_none _) gD1
      exact ⟨_, rfl, q _ _ D ys (ew.freeze hD upd_same gD1) upd_same (Pd.mono (fun _ _ z => z.mono fun b o hb => by rw [upd_ne (ne_of_none hb gD1)]; exact hb) pd)⟩
def fChangeRecord : V → Hp → VK → XK → Prop := fun a H Q _ => ∃ G x, Same G H ∧ ItemAt G x a ∧ Ret G H (R7237f.Spec.itemPlain x) Q
theorem d_change_record (T : Txt K mg) (D_integer : DefOk P w K mg base CX0 1 "integer" ["number"] (Sp1 fInteger)) (D_record : DefOk P w K mg base CX0 2 "record" ["members"] (Sp1 fRecord)) (F : Fs K mg "change_record" s_change_record) : DefOk P w K mg base CX0 3 "change_record" ["change"] (Sp1 fChangeRecord) :=
  def_C F sc_change_record bd_change_record fun f cdv A outer s H vs Q E hr h => by
    obtain ⟨_, rfl, G, x, hs, ⟨a, rfl, ha⟩, q⟩ := h
    refine ⟨_, (pss_cons (ps_asg (pv 0) (pg_tup rfl (pgs_cons (pg_name (i := 1) sc_change_record.nd rfl (Or.inl rfl)) (pgs_cons (pg_name (i := 2) sc_change_record.nd rfl (Or.inl rfl)) (pgs_cons (pg_name (i := 3) sc_change_record.nd rfl (Or.inl rfl)) pgs_nil))))) (pss_one (ps_ret (pe_d D_record (hr.mono (by decide)) pass0 (pa_cons (pe_lst (pa_cons (pe_tup (pa_cons pe_str (pa_cons (pe_d D_integer (hr.mono (by decide)) pass0 (pa_cons (pv 1) pa_nil)) pa_nil))) (pa_cons (pe_tup (pa_cons pe_str (pa_cons (pe_d D_integer (hr.mono (by decide)) pass0 (pa_cons (pv 2) pa_nil)) pa_nil))) (pa_cons (pe_tup (pa_cons pe_str (pa_cons (pe_d D_integer (hr.mono (by decide)) pass0 (pa_cons (pv 3) pa_nil)) pa_nil))) pa_nil)))) pa_nil))))), ?_⟩
    refine ⟨_, rfl, a, _, rfl, SqT.of (hs _ _ ha), rfl, _, _, rfl, _, _, rfl, _, _, rfl, rfl, ?_⟩
    refine ev_record (G := G) (ps := recS [("block", R7237f.Spec.nat x.block), ("version", R7237f.Spec.nat x.version), ("value", R7237f.Spec.nat x.value)]) (.cons ?_ (by kernel_rfl) (.cons ?_ (by kernel_rfl) (.cons ?_ (by kernel_rfl) .nil))) hs (Nat.le_of_ble_eq_true rfl) ?_
    · exact fun G1 H1 Q e r => ⟨_, rfl, _, rfl, G1, _, rfl, e.sub, r⟩
    · exact fun G1 H1 Q e r => ⟨_, rfl, _, rfl, G1, _, rfl, e.sub, r⟩
    · exact fun G1 H1 Q e r => ⟨_, rfl, _, rfl, G1, _, rfl, e.sub, r⟩
    · rw [rec_spec (by kernel_rfl)]
      exact q
def fChangeRecords : V → Hp → VK → XK → Prop := fun a H Q _ => ∃ G l vs e, a = .ref l ∧ Same G H ∧ SqL K H l vs ∧ Paired (ItemAt G) e vs ∧ e.length ≤ 1000000 ∧ Ret G H (.arr (e.map R7237f.Spec.itemPlain)) Q
theorem d_change_records (T : Txt K mg) (D_change_record : DefOk P w K mg base CX0 3 "change_record" ["change"] (Sp1 fChangeRecord)) (D_listing : DefOk P w K mg base CX0 1 "listing" ["values"] (Sp1 fListing)) (F : Fs K mg "change_records" s_change_records) : DefOk P w K mg base CX0 4 "change_records" ["changes"] (Sp1 (fChangeRecords (K := K))) :=
  def_C F sc_change_records bd_change_records fun f cdv A outer s H vs Q E hr h => by
    obtain ⟨_, rfl, G, l, xs, e, rfl, hs, hl, pd, hz, q⟩ := h
    refine ⟨_, (pss_one (ps_ret (pe_d D_listing (hr.mono (by decide)) pass0 (pa_cons (pe_lc (own := [("change", 1)]) (g := (gName 1)) (tt := tYes) rfl sc_change_records.nd (pi_list (pv 0)) (blkOk_by (N := ["changes", "change"]) (sc := defScope s_change_records) (by decide +kernel)) (fun _ _ _ _ _ => (pg_name (i := 1) sc_change_records.nd rfl (Or.inl rfl))) (fun _ _ _ _ _ => pts_nil) (fun _ _ _ _ _ => (pe_d D_change_record (hr.mono (by decide)) pass0 (pa_cons (pv 1) pa_nil)))) pa_nil)))), ?_⟩
    refine ⟨_, rfl, l, rfl, ⟨_, hl⟩, fun D hD => lc_map (S := ItemAt G) (R := fun G x v => AtV G (R7237f.Spec.itemPlain x) v) (.lst hl) hs hD pd (Nat.le_trans hz (by decide)) (fun _ _ _ _ s h => h.mono s) ?_ ?_⟩
    · rintro x v G1 H1 Y N hx - e y
      exact ⟨rfl, _, rfl, _, rfl, G1, x, e.sub, hx.mono e.g, fun G2 H2 v e2 hv => y _ _ _ e2 hv⟩
    · intro G1 H1 ys e g1 h1 pd
      exact ⟨_, rfl, G1, D, ys, _, rfl, h1, e.sub, AtL.of (Pd.map_left pd), fun G2 H2 v e2 hv => q _ _ _ (e.trans e2) hv⟩
end
end Ov
set_option maxHeartbeats 2000000
/-! B4: a volume as it lies in the heap; what a change of it leaves. -/
namespace Ov
open PySem PySem.Spec PyProof.Rows L2
open R7237f.Spec (Plain Units Item Cell Lock Replay Op Way Volume)
/-- where a node lies: its object, the object's dict, its cache, its journal, its memory -/
structure NA where
  self : Addr
  dx : Addr
  cache : Addr
  jour : Addr
  mem : V
/-- where a volume lies; tg: what may change, by kind (0: not of this volume) -/
structure VA where
  self : Addr
  dx : Addr
  rules : Addr
  disk : Addr
  last : Addr
  nodes : Addr
  locks : Addr
  writes : Addr
  comm : Addr
  ns : Nat → NA
  tg : Addr → Nat
def nodeF (x : R7237f.Spec.Node) (c j : Addr) (m : V) : List (Str × V) :=
  [("running", .bl x.running), ("shut", .bl x.out), ("replayed", .bl x.replayed), ("freed", .bl x.freed), ("life", .int (x.life : Int)), ("cache", .ref c), ("journal", .ref j), ("memory", m)]
def volF (v : Volume) (L : VA) : List (Str × V) :=
  [("blocks", .int (v.disk.length : Int)), ("rules", .ref L.rules), ("disk", .ref L.disk), ("last", .ref L.last), ("nodes", .ref L.nodes), ("locks", .ref L.locks), ("writes", .ref L.writes), ("committed", .ref L.comm), ("many_writes", .int ((v.nextOp : Int) - 1)), ("many_transactions", .int ((v.nextTx : Int) - 1))]
def MemoAt (G : Hp) : Option Replay → V → Prop
  | none, v => v = .non
  | some r, v => ∃ a, v = .ref a ∧ G a = some (.tup [.int (r.node : Int), .int (r.life : Int), .int (r.index : Int)])
theorem MemoAt.mono {G G' : Hp} (s : Same G G') : ∀ {r : Option Replay} {v : V}, MemoAt G r v → MemoAt G' r v
  | none, _, h => h
  | some _, _, ⟨a, e, h⟩ => ⟨a, e, s _ _ h⟩
def CellAt (G : Hp) (c : Cell) (v : V) : Prop := ∃ a, v = .ref a ∧ G a = some (.tup [.int (c.version : Int), .int (c.value : Int)])
theorem CellAt.mono {G G' : Hp} (s : Same G G') {c : Cell} {v : V} : CellAt G c v → CellAt G' c v
  | ⟨a, e, h⟩ => ⟨a, e, s _ _ h⟩
def LockAt (G : Hp) (l : Lock) (v : V) : Prop := ∃ a, v = .ref a ∧ G a = some (.tup [.int (l.node : Int), .int (l.block : Int), .bl l.alone])
theorem LockAt.mono {G G' : Hp} (s : Same G G') {c : Lock} {v : V} : LockAt G c v → LockAt G' c v
  | ⟨a, e, h⟩ => ⟨a, e, s _ _ h⟩
def wTx : Way → Nat
  | .log tx _ => tx
  | .home _ => 0
def wItems : Way → List Item
  | .log _ e => e
  | .home x => [x]
def OpAt (G : Hp) (o : Op) (v : V) : Prop := ∃ a l vs, v = .ref a ∧ G a = some (.tup [.int (o.id : Int), .int (o.node : Int), .int (wTx o.way : Int), .ref l]) ∧ G l = some (.lst vs) ∧ Paired (ItemAt G) (wItems o.way) vs
theorem OpAt.mono {G G' : Hp} (s : Same G G') {c : Op} {v : V} : OpAt G c v → OpAt G' c v
  | ⟨a, l, vs, e, h, h2, p⟩ => ⟨a, l, vs, e, s _ _ h, s _ _ h2, Pd.mono (fun _ _ z => z.mono s) p⟩
structure NodeAt (K : PySem.W.Frag) (G H : Hp) (n : NA) (x : R7237f.Spec.Node) : Prop where
  obj : H n.self = some (.ins (cNode K) n.dx (nodeF x n.cache n.jour n.mem))
  cs : ∃ vs, H n.cache = some (.lst vs) ∧ Paired (ItemAt G) x.cache vs
  js : G n.jour = some (.lst (nlst x.journal))
  ms : MemoAt G x.replay n.mem
structure Tags (L : VA) (n : Nat) : Prop where
  self : L.tg L.self = 1
  disk : L.tg L.disk = 2
  last : L.tg L.last = 3
  locks : L.tg L.locks = 4
  writes : L.tg L.writes = 5
  comm : L.tg L.comm = 6
  node : ∀ i, i < n → L.tg (L.ns i).self = 2 * i + 10
  cache : ∀ i, i < n → L.tg (L.ns i).cache = 2 * i + 11
def truths (v : Volume) : List Cell := (List.range v.disk.length).map v.truth
structure VolAt (K : PySem.W.Frag) (G H : Hp) (L : VA) (v : Volume) : Prop where
  sub : Same G H
  obj : H L.self = some (.ins (cVol K) L.dx (volF v L))
  rules : G L.rules = some (.tup [.bl v.rules.flush, .bl v.rules.shut, .bl v.rules.replay, .bl v.rules.versions])
  disk : ∃ vs, H L.disk = some (.lst vs) ∧ Paired (CellAt G) v.disk vs
  last : ∃ vs, H L.last = some (.lst vs) ∧ Paired (CellAt G) (truths v) vs
  nodes : G L.nodes = some (.lst ((List.range v.nodes.length).map fun i => V.ref (L.ns i).self))
  node : ∀ i x, v.nodes[i]? = some x → NodeAt K G H (L.ns i) x
  locks : ∃ vs, H L.locks = some (.lst vs) ∧ Paired (LockAt G) v.locks vs
  writes : ∃ vs, H L.writes = some (.lst vs) ∧ Paired (OpAt G) v.ops vs
  comm : H L.comm = some (.lst (nlst (v.committed.map (·.1))))
  tags : Tags L v.nodes.length
  live : ∀ b, L.tg b ≠ 0 → H b ≠ none
  gn : ∀ b, L.tg b ≠ 0 → G b = none
/-- what a change of a volume leaves -/
structure Step (L : VA) (G H : Hp) (L' : VA) (G' H' : Hp) : Prop where
  e : ExtF (fun b => L.tg b ≠ 0) G H G' H'
  own : ∀ b, L'.tg b ≠ 0 → L.tg b ≠ 0 ∨ H b = none
  self : L'.self = L.self
  ns : ∀ i, (L'.ns i).self = (L.ns i).self
theorem Step.ext {L : VA} {G H G' H' : Hp} (e : Ext G H G' H') : Step L G H L G' H' := ⟨e.mono fun _ h => h.elim, fun _ h => .inl h, rfl, fun _ => rfl⟩
theorem Step.trans {L L1 L2 : VA} {G H G1 H1 G2 H2 : Hp} (a : Step L G H L1 G1 H1) (b : Step L1 G1 H1 L2 G2 H2) : Step L G H L2 G2 H2 where
  e := a.e.trans' b.e a.own
  own := fun x h => (b.own x h).elim (a.own x) fun z => .inr (a.e.free z)
  self := b.self.trans a.self
  ns := fun i => (b.ns i).trans (a.ns i)
theorem Step.refl {L : VA} {G H : Hp} (s : Same G H) : Step L G H L G H := Step.ext (ExtF.refl s)
section
variable {K : PySem.W.Frag} {G H G' H' : Hp} {L : VA} {v : Volume} {F : Addr → Prop}
theorem NodeAt.keep {n : NA} {x : R7237f.Spec.Node} (h : NodeAt K G H n x) (e : ExtF F G H G' H') (h1 : ¬ F n.self) (h2 : ¬ F n.cache) : NodeAt K G' H' n x where
  obj := e.h _ _ h.obj h1
  cs := by
    obtain ⟨vs, a, p⟩ := h.cs
    exact ⟨vs, e.h _ _ a h2, Pd.mono (fun _ _ z => z.mono e.g) p⟩
  js := e.g _ _ h.js
  ms := h.ms.mono e.g
theorem getI_lt {α : Type} {l : List α} {i : Nat} {x : α} (h : l[i]? = some x) : i < l.length := (List.getElem?_eq_some_iff.mp h).1
theorem VolAt.away (h : VolAt K G H L v) (e : ExtF F G H G' H') (d : ∀ b, L.tg b ≠ 0 → ¬ F b) : VolAt K G' H' L v where
  sub := e.sub
  obj := e.h _ _ h.obj (d _ (by rw [h.tags.self]; decide))
  rules := e.g _ _ h.rules
  disk := by
    obtain ⟨vs, a, p⟩ := h.disk
    exact ⟨vs, e.h _ _ a (d _ (by rw [h.tags.disk]; decide)), Pd.mono (fun _ _ z => z.mono e.g) p⟩
  last := by
    obtain ⟨vs, a, p⟩ := h.last
    exact ⟨vs, e.h _ _ a (d _ (by rw [h.tags.last]; decide)), Pd.mono (fun _ _ z => z.mono e.g) p⟩
  nodes := e.g _ _ h.nodes
  node := fun i x hi => (h.node i x hi).keep e (d _ (by rw [h.tags.node i (getI_lt hi)]; omega)) (d _ (by rw [h.tags.cache i (getI_lt hi)]; omega))
  locks := by
    obtain ⟨vs, a, p⟩ := h.locks
    exact ⟨vs, e.h _ _ a (d _ (by rw [h.tags.locks]; decide)), Pd.mono (fun _ _ z => z.mono e.g) p⟩
  writes := by
    obtain ⟨vs, a, p⟩ := h.writes
    exact ⟨vs, e.h _ _ a (d _ (by rw [h.tags.writes]; decide)), Pd.mono (fun _ _ z => z.mono e.g) p⟩
  comm := e.h _ _ h.comm (d _ (by rw [h.tags.comm]; decide))
  tags := h.tags
  live := fun b hb => e.live b (h.live b hb)
  gn := fun b hb => (e.old b (h.live b hb)).trans (h.gn b hb)
theorem VolAt.ext (h : VolAt K G H L v) (e : Ext G H G' H') : VolAt K G' H' L v := h.away e fun _ _ z => z
/-- L with one address more -/
def VA.tag (L : VA) (p : Addr) (t : Nat) : Addr → Nat := fun b => if b = p then t else L.tg b
theorem tag_new {p : Addr} {t : Nat} : L.tag p t p = t := if_pos rfl
theorem tag_old {p b : Addr} {t : Nat} (h : b ≠ p) : L.tag p t b = L.tg b := if_neg h
/-- the parts that a change of kinds T leaves -/
structure Kept (K : PySem.W.Frag) (G' H' : Hp) (L : VA) (v : Volume) (T : Nat → Prop) : Prop where
  rules : G' L.rules = some (.tup [.bl v.rules.flush, .bl v.rules.shut, .bl v.rules.replay, .bl v.rules.versions])
  obj : ¬ T 1 → H' L.self = some (.ins (cVol K) L.dx (volF v L))
  disk : ¬ T 2 → ∃ vs, H' L.disk = some (.lst vs) ∧ Paired (CellAt G') v.disk vs
  last : ¬ T 3 → ∃ vs, H' L.last = some (.lst vs) ∧ Paired (CellAt G') (truths v) vs
  locks : ¬ T 4 → ∃ vs, H' L.locks = some (.lst vs) ∧ Paired (LockAt G') v.locks vs
  writes : ¬ T 5 → ∃ vs, H' L.writes = some (.lst vs) ∧ Paired (OpAt G') v.ops vs
  comm : ¬ T 6 → H' L.comm = some (.lst (nlst (v.committed.map (·.1))))
  nodes : G' L.nodes = some (.lst ((List.range v.nodes.length).map fun i => V.ref (L.ns i).self))
  node : ∀ i x, v.nodes[i]? = some x → ¬ T (2 * i + 10) → ¬ T (2 * i + 11) → NodeAt K G' H' (L.ns i) x
theorem VolAt.kept (h : VolAt K G H L v) {T : Nat → Prop} (e : ExtF (fun b => T (L.tg b)) G H G' H') : Kept K G' H' L v T where
  rules := e.g _ _ h.rules
  obj := fun t => e.h _ _ h.obj (by rw [h.tags.self]; exact t)
  disk := fun t => by
    obtain ⟨vs, a, p⟩ := h.disk
    exact ⟨vs, e.h _ _ a (by rw [h.tags.disk]; exact t), Pd.mono (fun _ _ z => z.mono e.g) p⟩
  last := fun t => by
    obtain ⟨vs, a, p⟩ := h.last
    exact ⟨vs, e.h _ _ a (by rw [h.tags.last]; exact t), Pd.mono (fun _ _ z => z.mono e.g) p⟩
  locks := fun t => by
    obtain ⟨vs, a, p⟩ := h.locks
    exact ⟨vs, e.h _ _ a (by rw [h.tags.locks]; exact t), Pd.mono (fun _ _ z => z.mono e.g) p⟩
  writes := fun t => by
    obtain ⟨vs, a, p⟩ := h.writes
    exact ⟨vs, e.h _ _ a (by rw [h.tags.writes]; exact t), Pd.mono (fun _ _ z => z.mono e.g) p⟩
  comm := fun t => e.h _ _ h.comm (by rw [h.tags.comm]; exact t)
  nodes := e.g _ _ h.nodes
  node := fun i x hi t1 t2 => (h.node i x hi).keep e (by rw [h.tags.node i (getI_lt hi)]; exact t1) (by rw [h.tags.cache i (getI_lt hi)]; exact t2)
theorem VolAt.newN (h : VolAt K G H L v) {p : Addr} (hp : H p = none) : L.tg p = 0 := Classical.byContradiction fun n => h.live p n hp
theorem VolAt.neq (h : VolAt K G H L v) {p b : Addr} {k : Nat} (hp : H p = none) (hb : L.tg b = k) (hk : k ≠ 0 := by decide) : b ≠ p := fun e => by
  rw [← e] at hp
  exact h.live b (by rw [hb]; exact hk) hp
theorem Step.of {T : Nat → Prop} (t0 : ¬ T 0) (e : ExtF (fun b => T (L.tg b)) G H G' H') {L' : VA} (ht : ∀ b, L'.tg b = L.tg b ∨ H b = none) (hs : L'.self = L.self) (hn : ∀ i, (L'.ns i).self = (L.ns i).self) : Step L G H L' G' H' :=
  ⟨e.mono fun b q z => t0 (z ▸ q), fun b q => (ht b).elim (fun z => .inl (z ▸ q)) .inr, hs, hn⟩
/-- the tags with one new address -/
theorem VolAt.tags' (h : VolAt K G H L v) {p : Addr} (hp : H p = none) (t : Nat) : Tags { L with tg := L.tag p t } v.nodes.length where
  self := (tag_old (h.neq hp h.tags.self)).trans h.tags.self
  disk := (tag_old (h.neq hp h.tags.disk)).trans h.tags.disk
  last := (tag_old (h.neq hp h.tags.last)).trans h.tags.last
  locks := (tag_old (h.neq hp h.tags.locks)).trans h.tags.locks
  writes := (tag_old (h.neq hp h.tags.writes)).trans h.tags.writes
  comm := (tag_old (h.neq hp h.tags.comm)).trans h.tags.comm
  node := fun i hi => (tag_old (h.neq hp (h.tags.node i hi) (by omega))).trans (h.tags.node i hi)
  cache := fun i hi => (tag_old (h.neq hp (h.tags.cache i hi) (by omega))).trans (h.tags.cache i hi)
theorem VolAt.live' (h : VolAt K G H L v) (e : ExtF F G H G' H') : ∀ b, L.tg b ≠ 0 → H' b ≠ none := fun b hb => e.live b (h.live b hb)
theorem VolAt.gn' (h : VolAt K G H L v) (e : ExtF F G H G' H') : ∀ b, L.tg b ≠ 0 → G' b = none := fun b hb => (e.old b (h.live b hb)).trans (h.gn b hb)
theorem VolAt.liveT (h : VolAt K G H L v) (e : ExtF F G H G' H') {p : Addr} {t : Nat} (hp : H' p ≠ none) : ∀ b, L.tag p t b ≠ 0 → H' b ≠ none := fun b hb => by
  by_cases c : b = p
  · exact c ▸ hp
  · rw [tag_old c] at hb; exact h.live' e b hb
theorem VolAt.gnT (h : VolAt K G H L v) (e : ExtF F G H G' H') {p : Addr} {t : Nat} (hp : G' p = none) : ∀ b, L.tag p t b ≠ 0 → G' b = none := fun b hb => by
  by_cases c : b = p
  · exact c ▸ hp
  · rw [tag_old c] at hb; exact h.gn' e b hb
theorem tagT {p : Addr} {t : Nat} (hp : H p = none) : ∀ b, L.tag p t b = L.tg b ∨ H b = none := fun b => by
  by_cases c : b = p
  · exact .inr (c ▸ hp)
  · exact .inl (tag_old c)
/-! ### the changes -/
abbrev TN (i : Nat) : Nat → Prop := fun t => t = 2 * i + 10 ∨ t = 2 * i + 11
theorem VolAt.setN_aux (h : VolAt K G H L v) {i : Nat} {x x' : R7237f.Spec.Node} (hi : v.nodes[i]? = some x) (e : ExtF (fun b => TN i (L.tg b)) G H G' H') {n' : NA} (hs : n'.self = (L.ns i).self)
    {tg' : Addr → Nat} (ht : Tags { L with tg := tg' } v.nodes.length) (hc : tg' n'.cache = 2 * i + 11) (hl : ∀ b, tg' b ≠ 0 → H' b ≠ none) (hg : ∀ b, tg' b ≠ 0 → G' b = none) (hn : NodeAt K G' H' n' x') :
    VolAt K G' H' { L with ns := fun j => if j = i then n' else L.ns j, tg := tg' } { v with nodes := v.nodes.set i x' } := by
  have k := h.kept e
  have self : ∀ j, (if j = i then n' else L.ns j).self = (L.ns j).self := fun j => by
    by_cases c : j = i
    · rw [if_pos c, hs, c]
    · rw [if_neg c]
  exact { sub := e.sub, obj := k.obj (by omega), rules := k.rules, disk := k.disk (by omega), last := k.last (by omega), locks := k.locks (by omega), writes := k.writes (by omega), comm := k.comm (by omega)
          nodes := by
            have q := k.nodes
            show G' L.nodes = some (.lst ((List.range (v.nodes.set i x').length).map fun j => V.ref (if j = i then n' else L.ns j).self))
            rw [List.length_set, q]
            congr 2
            exact List.map_congr_left fun j _ => by rw [self]
          node := fun j y hj => by
            show NodeAt K G' H' (if j = i then n' else L.ns j) y
            have hj' : (v.nodes.set i x')[j]? = some y := hj
            by_cases c : j = i
            · subst c
              rw [List.getElem?_set_self (getI_lt hi)] at hj'
              cases hj'
              rw [if_pos rfl]
              exact hn
            · rw [List.getElem?_set_ne (Ne.symm c)] at hj'
              rw [if_neg c]
              exact k.node j y hj' (by omega) (by omega)
          tags := { self := ht.self, disk := ht.disk, last := ht.last, locks := ht.locks, writes := ht.writes, comm := ht.comm
                    node := fun j hj => by
                      show tg' (if j = i then n' else L.ns j).self = _
                      rw [self]
                      exact ht.node j (by simpa only [List.length_set] using hj)
                    cache := fun j hj => by
                      show tg' (if j = i then n' else L.ns j).cache = _
                      by_cases c : j = i
                      · rw [if_pos c, hc, c]
                      · rw [if_neg c]
                        exact ht.cache j (by simpa only [List.length_set] using hj) }
          live := hl, gn := hg }
theorem VolAt.stepN {i : Nat} (e : ExtF (fun b => TN i (L.tg b)) G H G' H') {n' : NA} (hs : n'.self = (L.ns i).self) {tg' : Addr → Nat} (ht : ∀ b, tg' b = L.tg b ∨ H b = none) :
    Step L G H { L with ns := fun j => if j = i then n' else L.ns j, tg := tg' } G' H' :=
  Step.of (T := TN i) (by omega) e ht rfl fun j => by
    show (if j = i then n' else L.ns j).self = _
    by_cases c : j = i
    · rw [if_pos c, hs, c]
    · rw [if_neg c]
/-- a node's fields change, its cache stands where it stood -/
theorem VolAt.setN (h : VolAt K G H L v) {i : Nat} {x x' : R7237f.Spec.Node} (hi : v.nodes[i]? = some x) (e : ExtF (fun b => TN i (L.tg b)) G H G' H') {n' : NA} (hs : n'.self = (L.ns i).self) (hc : n'.cache = (L.ns i).cache) (hn : NodeAt K G' H' n' x') :
    ∃ L', Step L G H L' G' H' ∧ VolAt K G' H' L' { v with nodes := v.nodes.set i x' } :=
  ⟨_, VolAt.stepN e hs fun _ => .inl rfl, h.setN_aux hi e hs h.tags (by rw [hc]; exact h.tags.cache i (getI_lt hi)) (h.live' e) (h.gn' e) hn⟩
/-- .. its cache is new -/
theorem VolAt.setNc (h : VolAt K G H L v) {i : Nat} {x x' : R7237f.Spec.Node} (hi : v.nodes[i]? = some x) (e : ExtF (fun b => TN i (L.tg b)) G H G' H') {n' : NA} (hs : n'.self = (L.ns i).self) (hc : H n'.cache = none) (hg : G' n'.cache = none) (hn : NodeAt K G' H' n' x') :
    ∃ L', Step L G H L' G' H' ∧ VolAt K G' H' L' { v with nodes := v.nodes.set i x' } := by
  obtain ⟨vs, c, _⟩ := hn.cs
  exact ⟨_, VolAt.stepN e hs (tagT hc), h.setN_aux hi e hs (h.tags' hc _) tag_new (h.liveT e (by rw [c]; exact Option.some_ne_none _)) (h.gnT e hg) hn⟩
/-- the locks stand in a list that was appended to -/
theorem VolAt.setLocks (h : VolAt K G H L v) (e : ExtF (fun b => L.tg b = 4) G H G' H') {ls : List Lock} {vs : List V} (h1 : H' L.locks = some (.lst vs)) (p : Paired (LockAt G') ls vs) : Step L G H L G' H' ∧ VolAt K G' H' L { v with locks := ls } := by
  have k := h.kept (T := fun t => t = 4) e
  exact ⟨Step.of (T := fun t => t = 4) (by omega) e (fun _ => .inl rfl) rfl fun _ => rfl, { sub := e.sub, obj := k.obj (by omega), rules := k.rules, disk := k.disk (by omega), last := k.last (by omega), nodes := k.nodes, node := fun i x hi => k.node i x hi (by omega) (by omega), locks := ⟨vs, h1, p⟩, writes := k.writes (by omega), comm := k.comm (by omega), tags := h.tags, live := h.live' e, gn := h.gn' e }⟩
/-- the locks stand in a new list -/
theorem VolAt.newLocks (h : VolAt K G H L v) (e : ExtF (fun b => L.tg b = 1) G H G' H') {D : Addr} {ls : List Lock} {vs : List V} (hD : H D = none) (g1 : G' D = none) (ho : H' L.self = some (.ins (cVol K) L.dx (volF v { L with locks := D }))) (h1 : H' D = some (.lst vs)) (p : Paired (LockAt G') ls vs) :
    ∃ L', Step L G H L' G' H' ∧ VolAt K G' H' L' { v with locks := ls } := by
  have k := h.kept (T := fun t => t = 1) e
  have t := h.tags' hD 4
  refine ⟨{ L with locks := D, tg := L.tag D 4 }, Step.of (T := fun t => t = 1) (by omega) e (tagT hD) rfl fun _ => rfl, { sub := e.sub, obj := ho, rules := k.rules, disk := k.disk (by omega), last := k.last (by omega), nodes := k.nodes, node := fun i x hi => k.node i x hi (by omega) (by omega), locks := ⟨vs, h1, p⟩, writes := k.writes (by omega), comm := k.comm (by omega), tags := { t with locks := tag_new }, live := h.liveT e (by rw [h1]; exact Option.some_ne_none _), gn := h.gnT e g1 }⟩
/-- the writes stand in a new list -/
theorem VolAt.newWrites (h : VolAt K G H L v) (e : ExtF (fun b => L.tg b = 1) G H G' H') {D : Addr} {ls : List Op} {vs : List V} (hD : H D = none) (g1 : G' D = none) (ho : H' L.self = some (.ins (cVol K) L.dx (volF v { L with writes := D }))) (h1 : H' D = some (.lst vs)) (p : Paired (OpAt G') ls vs) :
    ∃ L', Step L G H L' G' H' ∧ VolAt K G' H' L' { v with ops := ls } := by
  have k := h.kept (T := fun t => t = 1) e
  have t := h.tags' hD 5
  refine ⟨{ L with writes := D, tg := L.tag D 5 }, Step.of (T := fun t => t = 1) (by omega) e (tagT hD) rfl fun _ => rfl, { sub := e.sub, obj := ho, rules := k.rules, disk := k.disk (by omega), last := k.last (by omega), nodes := k.nodes, node := fun i x hi => k.node i x hi (by omega) (by omega), locks := k.locks (by omega), writes := ⟨vs, h1, p⟩, comm := k.comm (by omega), tags := { t with writes := tag_new }, live := h.liveT e (by rw [h1]; exact Option.some_ne_none _), gn := h.gnT e g1 }⟩
/-- a write more, its number -/
theorem VolAt.addWrite (h : VolAt K G H L v) (e : ExtF (fun b => L.tg b = 1 ∨ L.tg b = 5) G H G' H') {ls : List Op} {m : Nat} {vs : List V} (ho : H' L.self = some (.ins (cVol K) L.dx (volF { v with nextOp := m } L))) (h1 : H' L.writes = some (.lst vs)) (p : Paired (OpAt G') ls vs) :
    Step L G H L G' H' ∧ VolAt K G' H' L { v with ops := ls, nextOp := m } := by
  have k := h.kept (T := fun t => t = 1 ∨ t = 5) e
  exact ⟨Step.of (T := fun t => t = 1 ∨ t = 5) (by omega) e (fun _ => .inl rfl) rfl fun _ => rfl, { sub := e.sub, obj := ho, rules := k.rules, disk := k.disk (by omega), last := k.last (by omega), nodes := k.nodes, node := fun i x hi => k.node i x hi (by omega) (by omega), locks := k.locks (by omega), writes := ⟨vs, h1, p⟩, comm := k.comm (by omega), tags := h.tags, live := h.live' e, gn := h.gn' e }⟩
theorem VolAt.addTx (h : VolAt K G H L v) (e : ExtF (fun b => L.tg b = 1) G H G' H') {m : Nat} (ho : H' L.self = some (.ins (cVol K) L.dx (volF { v with nextTx := m } L))) : Step L G H L G' H' ∧ VolAt K G' H' L { v with nextTx := m } := by
  have k := h.kept (T := fun t => t = 1) e
  exact ⟨Step.of (T := fun t => t = 1) (by omega) e (fun _ => .inl rfl) rfl fun _ => rfl, { sub := e.sub, obj := ho, rules := k.rules, disk := k.disk (by omega), last := k.last (by omega), nodes := k.nodes, node := fun i x hi => k.node i x hi (by omega) (by omega), locks := k.locks (by omega), writes := k.writes (by omega), comm := k.comm (by omega), tags := h.tags, live := h.live' e, gn := h.gn' e }⟩
/-- a cell of the disk -/
theorem VolAt.setDisk (h : VolAt K G H L v) (e : ExtF (fun b => L.tg b = 2) G H G' H') {ds : List Cell} {vs : List V} (hl : ds.length = v.disk.length) (h1 : H' L.disk = some (.lst vs)) (p : Paired (CellAt G') ds vs) : Step L G H L G' H' ∧ VolAt K G' H' L { v with disk := ds } := by
  have k := h.kept (T := fun t => t = 2) e
  have ho := k.obj (by omega)
  have hla := k.last (by omega)
  refine ⟨Step.of (T := fun t => t = 2) (by omega) e (fun _ => .inl rfl) rfl fun _ => rfl, { sub := e.sub, obj := ?_, rules := k.rules, disk := ⟨vs, h1, p⟩, last := ?_, nodes := k.nodes, node := fun i x hi => k.node i x hi (by omega) (by omega), locks := k.locks (by omega), writes := k.writes (by omega), comm := k.comm (by omega), tags := h.tags, live := h.live' e, gn := h.gn' e }⟩
  · rw [ho]
    unfold volF
    rw [hl]
  · have et : truths { v with disk := ds } = truths v := by
      unfold truths
      show (List.range ds.length).map _ = _
      rw [hl]
      rfl
    rw [et]
    exact hla
/-- a transaction is told -/
theorem VolAt.addComm (h : VolAt K G H L v) (e : ExtF (fun b => L.tg b = 3 ∨ L.tg b = 6) G H G' H') {cs : List (Nat × List Item)} {vs : List V} (h1 : H' L.comm = some (.lst (nlst (cs.map (·.1))))) (h2 : H' L.last = some (.lst vs)) (p : Paired (CellAt G') (truths { v with committed := cs }) vs) :
    Step L G H L G' H' ∧ VolAt K G' H' L { v with committed := cs } := by
  have k := h.kept (T := fun t => t = 3 ∨ t = 6) e
  exact ⟨Step.of (T := fun t => t = 3 ∨ t = 6) (by omega) e (fun _ => .inl rfl) rfl fun _ => rfl, { sub := e.sub, obj := k.obj (by omega), rules := k.rules, disk := k.disk (by omega), last := ⟨vs, h2, p⟩, nodes := k.nodes, node := fun i x hi => k.node i x hi (by omega) (by omega), locks := k.locks (by omega), writes := k.writes (by omega), comm := h1, tags := h.tags, live := h.live' e, gn := h.gn' e }⟩
end
end Ov
set_option maxHeartbeats 2000000
/-! V3: the methods of the nodes. -/
namespace Ov
open PySem PySem.Spec PyProof.Rows L2
open R7237f.Spec (Plain Units Item Cell Lock Replay Op Way Volume entryBytes)
theorem mm0 {α : Type} {a : α} {l : List α} : a ∈ a :: l := .head _
theorem mm1 {α : Type} {a b : α} {l : List α} : a ∈ b :: a :: l := .tail _ mm0
theorem mm2 {α : Type} {a b c : α} {l : List α} : a ∈ b :: c :: a :: l := .tail _ mm1
theorem mm3 {α : Type} {a b c d : α} {l : List α} : a ∈ b :: c :: d :: a :: l := .tail _ mm2
theorem mm4 {α : Type} {a b c d e : α} {l : List α} : a ∈ b :: c :: d :: e :: a :: l := .tail _ mm3
theorem mm5 {α : Type} {a b c d e f : α} {l : List α} : a ∈ b :: c :: d :: e :: f :: a :: l := .tail _ mm4
theorem mm6 {α : Type} {a b c d e f g : α} {l : List α} : a ∈ b :: c :: d :: e :: f :: g :: a :: l := .tail _ mm5
theorem mm7 {α : Type} {a b c d e f g h : α} {l : List α} : a ∈ b :: c :: d :: e :: f :: g :: h :: a :: l := .tail _ mm6
theorem mm8 {α : Type} {a b c d e f g h i : α} {l : List α} : a ∈ b :: c :: d :: e :: f :: g :: h :: i :: a :: l := .tail _ mm7
theorem mm9 {α : Type} {a b c d e f g h i j : α} {l : List α} : a ∈ b :: c :: d :: e :: f :: g :: h :: i :: j :: a :: l := .tail _ mm8
theorem ne_of_some {H : Hp} {a : Addr} {o : HO} (h : H a = some o) : H a ≠ none := by rw [h]; exact Option.some_ne_none o
theorem up_ne {H : Hp} {a b : Addr} {o u : HO} (h : H a = some o) (hb : H b = none) : upd H b u a = some o := by rw [upd_ne (ne_of_none h hb)]; exact h
/-- what a change owes its caller -/
def Aft (K : PySem.W.Frag) (G H : Hp) (L : VA) (v : Volume) (Q : VK) : Prop := ∀ G' H' L', Step L G H L' G' H' → VolAt K G' H' L' v → Q .non H'
def AftI (K : PySem.W.Frag) (G H : Hp) (L : VA) (v : Volume) (n : Nat) (Q : VK) : Prop := ∀ G' H' L', Step L G H L' G' H' → VolAt K G' H' L' v → Q (.int (n : Int)) H'
theorem VolAt.nF {K : PySem.W.Frag} {G H : Hp} {L : VA} {v : Volume} {i : Nat} {x : R7237f.Spec.Node} (h : VolAt K G H L v) (hi : v.nodes[i]? = some x) : TN i (L.tg (L.ns i).self) := .inl (h.tags.node i (getI_lt hi))
theorem VolAt.nG {K : PySem.W.Frag} {G H : Hp} {L : VA} {v : Volume} {i : Nat} {x : R7237f.Spec.Node} (h : VolAt K G H L v) (hi : v.nodes[i]? = some x) : G (L.ns i).self = none := h.gn _ (by rw [h.tags.node i (getI_lt hi)]; omega)
theorem VolAt.cF {K : PySem.W.Frag} {G H : Hp} {L : VA} {v : Volume} {i : Nat} {x : R7237f.Spec.Node} (h : VolAt K G H L v) (hi : v.nodes[i]? = some x) : TN i (L.tg (L.ns i).cache) := .inr (h.tags.cache i (getI_lt hi))
theorem VolAt.cG {K : PySem.W.Frag} {G H : Hp} {L : VA} {v : Volume} {i : Nat} {x : R7237f.Spec.Node} (h : VolAt K G H L v) (hi : v.nodes[i]? = some x) : G (L.ns i).cache = none := h.gn _ (by rw [h.tags.cache i (getI_lt hi)]; omega)
theorem VolAt.cN {K : PySem.W.Frag} {G H : Hp} {L : VA} {v : Volume} {i : Nat} {x : R7237f.Spec.Node} (h : VolAt K G H L v) (hi : v.nodes[i]? = some x) : (L.ns i).self ≠ (L.ns i).cache := fun e => by
  have a := h.tags.node i (getI_lt hi)
  have b := h.tags.cache i (getI_lt hi)
  rw [e] at a
  omega
theorem upd_3 {H : Hp} {a b : Addr} {o u z : HO} : upd (upd (upd H a o) b u) a z = upd (upd H b u) a z := by
  funext c
  unfold upd
  split <;> rfl
theorem upd_none {H : Hp} {a b : Addr} {o : HO} (h : upd H a o b = none) : H b = none := by
  unfold upd at h
  split at h
  · cases h
  · exact h
theorem upd_live {H : Hp} {a b : Addr} {o : HO} (h : H b = none) (ha : H a ≠ none) : upd H a o b = none := by rw [upd_ne (none_ne h ha).symm]; exact h
section
variable {K : PySem.W.Frag} {G H G1 H1 : Hp} {L : VA} {v : Volume} {i : Nat} {x x' : R7237f.Spec.Node}
/-- a node's fields are stored, its cache not -/
theorem VolAt.fldN (h : VolAt K G H L v) (hi : v.nodes[i]? = some x) {j : Addr} {m : V} (hc : x'.cache = x.cache) (hj : G j = some (.lst (nlst x'.journal))) (hm : MemoAt G x'.replay m) :
    ∃ L', Step L G H L' G (upd H (L.ns i).self (.ins (cNode K) (L.ns i).dx (nodeF x' (L.ns i).cache j m))) ∧ VolAt K G (upd H (L.ns i).self (.ins (cNode K) (L.ns i).dx (nodeF x' (L.ns i).cache j m))) L' { v with nodes := v.nodes.set i x' } := by
  have hn := h.node i x hi
  have e := (ExtF.refl (F := fun b => TN i (L.tg b)) h.sub).write (o := .ins (cNode K) (L.ns i).dx (nodeF x' (L.ns i).cache j m)) (.inr (h.nF hi)) (ne_of_some hn.obj) (h.nG hi)
  refine h.setN hi e (n' := { L.ns i with jour := j, mem := m }) rfl rfl ⟨upd_same, ?_, hj, hm⟩
  obtain ⟨vs, a, p⟩ := hn.cs
  exact ⟨vs, by rw [upd_ne (h.cN hi).symm]; exact a, by rw [hc]; exact p⟩
/-- .. its cache, too: a list that this call laid -/
theorem VolAt.fldC (h : VolAt K G H L v) (hi : v.nodes[i]? = some x) (e : Ext G H G1 H1) {D j : Addr} {m : V} {vs : List V} (hD : H D = none) (gD : G1 D = none) (h1 : H1 D = some (.lst vs)) (pd : Paired (ItemAt G1) x'.cache vs) (hj : G1 j = some (.lst (nlst x'.journal))) (hm : MemoAt G1 x'.replay m) :
    ∃ L', Step L G H L' G1 (upd H1 (L.ns i).self (.ins (cNode K) (L.ns i).dx (nodeF x' D j m))) ∧ VolAt K G1 (upd H1 (L.ns i).self (.ins (cNode K) (L.ns i).dx (nodeF x' D j m))) L' { v with nodes := v.nodes.set i x' } := by
  have hn := h.node i x hi
  have e2 := (e.mono (F' := fun b => TN i (L.tg b)) fun _ z => z.elim).write (o := .ins (cNode K) (L.ns i).dx (nodeF x' D j m)) (.inr (h.nF hi)) (e.live _ (ne_of_some hn.obj)) ((e.old _ (ne_of_some hn.obj)).trans (h.nG hi))
  refine h.setNc hi e2 (n' := { L.ns i with cache := D, jour := j, mem := m }) rfl hD gD ⟨upd_same, ?_, hj, hm⟩
  exact ⟨vs, by rw [upd_ne (none_ne hD (ne_of_some hn.obj)).symm]; exact h1, pd⟩
end
section
variable {P : Program} {w : World} {K : PySem.W.Frag} {mg : Str → Option Value} {base : Heap}
abbrev s_Node_lose : Stmt := inClass (top 40) 1
theorem sc_Node_lose : FnScope ["self"] ["self"] (defScope s_Node_lose) := ⟨rfl, rfl, rfl, by decide +kernel, rfl, by decide +kernel, by decide +kernel⟩
theorem bd_Node_lose : Bd "lose" "Node.lose" s_Node_lose ["self"] := fun _ _ _ _ _ _ us hl => match us, hl with | [_], _ => rfl
abbrev s_Node_close_out : Stmt := inClass (top 40) 2
theorem sc_Node_close_out : FnScope ["self"] ["self"] (defScope s_Node_close_out) := ⟨rfl, rfl, rfl, by decide +kernel, rfl, by decide +kernel, by decide +kernel⟩
theorem bd_Node_close_out : Bd "close_out" "Node.close_out" s_Node_close_out ["self"] := fun _ _ _ _ _ _ us hl => match us, hl with | [_], _ => rfl
abbrev s_Node_begin : Stmt := inClass (top 40) 3
theorem sc_Node_begin : FnScope ["self"] ["self"] (defScope s_Node_begin) := ⟨rfl, rfl, rfl, by decide +kernel, rfl, by decide +kernel, by decide +kernel⟩
theorem bd_Node_begin : Bd "begin" "Node.begin" s_Node_begin ["self"] := fun _ _ _ _ _ _ us hl => match us, hl with | [_], _ => rfl
abbrev s_Node_keep : Stmt := inClass (top 40) 4
theorem sc_Node_keep : FnScope ["self", "change"] ["self", "change"] (defScope s_Node_keep) := ⟨rfl, rfl, rfl, by decide +kernel, rfl, by decide +kernel, by decide +kernel⟩
theorem bd_Node_keep : Bd "keep" "Node.keep" s_Node_keep ["self", "change"] := fun _ _ _ _ _ _ us hl => match us, hl with | [_, _], _ => rfl
abbrev s_Node_renew : Stmt := inClass (top 40) 5
theorem sc_Node_renew : FnScope ["self", "change", "old"] ["self", "change"] (defScope s_Node_renew) := ⟨rfl, rfl, rfl, by decide +kernel, rfl, by decide +kernel, by decide +kernel⟩
theorem bd_Node_renew : Bd "renew" "Node.renew" s_Node_renew ["self", "change"] := fun _ _ _ _ _ _ us hl => match us, hl with | [_, _], _ => rfl
abbrev s_Node_leave : Stmt := inClass (top 40) 6
theorem sc_Node_leave : FnScope ["self", "block", "old"] ["self", "block"] (defScope s_Node_leave) := ⟨rfl, rfl, rfl, by decide +kernel, rfl, by decide +kernel, by decide +kernel⟩
theorem bd_Node_leave : Bd "leave" "Node.leave" s_Node_leave ["self", "block"] := fun _ _ _ _ _ _ us hl => match us, hl with | [_, _], _ => rfl
abbrev s_Node_arrive : Stmt := inClass (top 40) 7
theorem sc_Node_arrive : FnScope ["self", "octets"] ["self", "octets"] (defScope s_Node_arrive) := ⟨rfl, rfl, rfl, by decide +kernel, rfl, by decide +kernel, by decide +kernel⟩
theorem bd_Node_arrive : Bd "arrive" "Node.arrive" s_Node_arrive ["self", "octets"] := fun _ _ _ _ _ _ us hl => match us, hl with | [_, _], _ => rfl
abbrev s_Node_empty : Stmt := inClass (top 40) 8
theorem sc_Node_empty : FnScope ["self"] ["self"] (defScope s_Node_empty) := ⟨rfl, rfl, rfl, by decide +kernel, rfl, by decide +kernel, by decide +kernel⟩
theorem bd_Node_empty : Bd "empty" "Node.empty" s_Node_empty ["self"] := fun _ _ _ _ _ _ us hl => match us, hl with | [_], _ => rfl
abbrev s_Node_remember : Stmt := inClass (top 40) 9
theorem sc_Node_remember : FnScope ["self", "memory"] ["self", "memory"] (defScope s_Node_remember) := ⟨rfl, rfl, rfl, by decide +kernel, rfl, by decide +kernel, by decide +kernel⟩
theorem bd_Node_remember : Bd "remember" "Node.remember" s_Node_remember ["self", "memory"] := fun _ _ _ _ _ _ us hl => match us, hl with | [_, _], _ => rfl
abbrev s_Node_told_replayed : Stmt := inClass (top 40) 10
theorem sc_Node_told_replayed : FnScope ["self"] ["self"] (defScope s_Node_told_replayed) := ⟨rfl, rfl, rfl, by decide +kernel, rfl, by decide +kernel, by decide +kernel⟩
theorem bd_Node_told_replayed : Bd "told_replayed" "Node.told_replayed" s_Node_told_replayed ["self"] := fun _ _ _ _ _ _ us hl => match us, hl with | [_], _ => rfl
abbrev s_Node_told_freed : Stmt := inClass (top 40) 11
theorem sc_Node_told_freed : FnScope ["self"] ["self"] (defScope s_Node_told_freed) := ⟨rfl, rfl, rfl, by decide +kernel, rfl, by decide +kernel, by decide +kernel⟩
theorem bd_Node_told_freed : Bd "told_freed" "Node.told_freed" s_Node_told_freed ["self"] := fun _ _ _ _ _ _ us hl => match us, hl with | [_], _ => rfl
def fN0 (K : PySem.W.Frag) (f : R7237f.Spec.Node → R7237f.Spec.Node) : V → Hp → VK → XK → Prop := fun a H Q _ => ∃ G L v i x, a = .ref (L.ns i).self ∧ v.nodes[i]? = some x ∧ VolAt K G H L v ∧ Aft K G H L { v with nodes := v.nodes.set i (f x) } Q
def nLose (x : R7237f.Spec.Node) : R7237f.Spec.Node := { x with running := false, cache := [], replay := none }
theorem d_Node_lose (T : Txt K mg) (F : Ms K (cNode K) "lose" "Node.lose" s_Node_lose) : MetOk P w K mg base CX0 1 (cNode K) "lose" ["self"] (Sp1 (fN0 K nLose)) :=
  met_C F sc_Node_lose bd_Node_lose fun f cdv A outer s H vs Q E hr h => by
    obtain ⟨_, rfl, G, L, v, i, x, rfl, hi, h, q⟩ := h
    have hn := h.node i x hi
    refine ⟨_, (pss_cons (ps_fld (pv 0) pe_bl rfl) (pss_cons (ps_fld (pv 0) (pe_lst pa_nil) rfl) (pss_one (ps_fld (pv 0) pe_non rfl)))), ?_⟩
    refine ⟨_, rfl, _, _, _, _, rfl, hn.obj, T.c_Node, T.n_Node _ mm0, Nat.le_of_ble_eq_true rfl, ?_⟩
    refine ⟨sz0, fun D hD => ?_⟩
    refine ⟨_, rfl, _, _, _, _, rfl, up_ne upd_same hD, T.c_Node, T.n_Node _ mm5, Nat.le_of_ble_eq_true rfl, ?_⟩
    refine ⟨_, rfl, _, _, _, _, rfl, upd_same, T.c_Node, T.n_Node _ mm7, Nat.le_of_ble_eq_true rfl, ?_⟩
    rw [upd_upd, upd_3]
    have hD' := upd_none hD
    have e := (ExtF.refl (F := NoF) h.sub).mut (o := .lst []) hD'
    obtain ⟨L', st, va⟩ := h.fldC (x' := nLose x) hi e hD' (Same.none h.sub hD') upd_same .nil hn.js (show MemoAt _ none .non from rfl)
    exact q _ _ _ st va
def nClose (x : R7237f.Spec.Node) : R7237f.Spec.Node := { x with running := false, out := true, replayed := false, cache := [], replay := none }
theorem Aft.step {K : PySem.W.Frag} {G H G1 H1 : Hp} {L L1 : VA} {v : Volume} {Q : VK} (q : Aft K G H L v Q) (st : Step L G H L1 G1 H1) : Aft K G1 H1 L1 v Q := fun G' H' L' s va => q G' H' L' (st.trans s) va
theorem AftI.step {K : PySem.W.Frag} {G H G1 H1 : Hp} {L L1 : VA} {v : Volume} {n : Nat} {Q : VK} (q : AftI K G H L v n Q) (st : Step L G H L1 G1 H1) : AftI K G1 H1 L1 v n Q := fun G' H' L' s va => q G' H' L' (st.trans s) va
theorem set_at {α : Type} {l : List α} {i : Nat} {x y : α} (h : l[i]? = some x) : (l.set i y)[i]? = some y := List.getElem?_set_self (getI_lt h)
theorem set_set' {α : Type} {l : List α} {i : Nat} {y z : α} : (l.set i y).set i z = l.set i z := List.set_set ..
theorem d_Node_close_out (T : Txt K mg) (D_Node_lose : MetOk P w K mg base CX0 1 (cNode K) "lose" ["self"] (Sp1 (fN0 K nLose))) (F : Ms K (cNode K) "close_out" "Node.close_out" s_Node_close_out) : MetOk P w K mg base CX0 2 (cNode K) "close_out" ["self"] (Sp1 (fN0 K nClose)) :=
  met_C F sc_Node_close_out bd_Node_close_out fun f cdv A outer s H vs Q E hr h => by
    obtain ⟨_, rfl, G, L, v, i, x, rfl, hi, h, q⟩ := h
    have hn := h.node i x hi
    refine ⟨_, (pss_cons (ps_expr (pe_m0 T.c_Node D_Node_lose (hr.mono (by decide)) pass0 (pv 0))) (pss_cons (ps_fld (pv 0) pe_bl rfl) (pss_one (ps_fld (pv 0) pe_bl rfl)))), ?_⟩
    refine ⟨_, rfl, _, _, _, rfl, hn.obj, rfl, _, rfl, G, L, v, i, x, rfl, hi, h, fun G1 H1 L1 st h1 => ?_⟩
    rw [← st.ns i]
    have hi1 : (v.nodes.set i (nLose x))[i]? = some (nLose x) := set_at hi
    have hn1 := h1.node i _ hi1
    refine ⟨_, rfl, _, _, _, _, rfl, hn1.obj, T.c_Node, T.n_Node _ mm1, Nat.le_of_ble_eq_true rfl, ?_⟩
    refine ⟨_, rfl, _, _, _, _, rfl, upd_same, T.c_Node, T.n_Node _ mm2, Nat.le_of_ble_eq_true rfl, ?_⟩
    rw [upd_upd]
    obtain ⟨L', st2, va⟩ := h1.fldN (x' := nClose x) hi1 rfl hn1.js hn1.ms
    refine q _ _ _ (st.trans st2) ?_
    have z : (v.nodes.set i (nLose x)).set i (nClose x) = v.nodes.set i (nClose x) := set_set'
    rw [← z]
    exact va
def nBegin (x : R7237f.Spec.Node) : R7237f.Spec.Node := R7237f.Spec.Node.fresh (x.life + 1)
theorem d_Node_begin (T : Txt K mg) (F : Ms K (cNode K) "begin" "Node.begin" s_Node_begin) : MetOk P w K mg base CX0 1 (cNode K) "begin" ["self"] (Sp1 (fN0 K nBegin)) :=
  met_C F sc_Node_begin bd_Node_begin fun f cdv A outer s H vs Q E hr h => by
    obtain ⟨_, rfl, G, L, v, i, x, rfl, hi, h, q⟩ := h
    have hn := h.node i x hi
    refine ⟨_, (pss_cons (ps_fld (pv 0) pe_bl rfl) (pss_cons (ps_fld (pv 0) pe_bl rfl) (pss_cons (ps_fld (pv 0) pe_bl rfl) (pss_cons (ps_fld (pv 0) pe_bl rfl) (pss_cons (ps_fldaug (pv 0) pe_int in_add) (pss_cons (ps_fld (pv 0) (pe_lst pa_nil) rfl) (pss_cons (ps_fld (pv 0) (pe_lst pa_nil) rfl) (pss_one (ps_fld (pv 0) pe_non rfl))))))))), ?_⟩
    refine ⟨_, rfl, _, _, _, _, rfl, hn.obj, T.c_Node, T.n_Node _ mm0, Nat.le_of_ble_eq_true rfl, ?_⟩
    refine ⟨_, rfl, _, _, _, _, rfl, upd_same, T.c_Node, T.n_Node _ mm1, Nat.le_of_ble_eq_true rfl, ?_⟩
    refine ⟨_, rfl, _, _, _, _, rfl, upd_same, T.c_Node, T.n_Node _ mm2, Nat.le_of_ble_eq_true rfl, ?_⟩
    refine ⟨_, rfl, _, _, _, _, rfl, upd_same, T.c_Node, T.n_Node _ mm3, Nat.le_of_ble_eq_true rfl, ?_⟩
    refine ⟨_, rfl, _, _, _, _, _, rfl, upd_same, T.c_Node, T.n_Node _ mm4, rfl, _, _, rfl, rfl, _, _, upd_same, Nat.le_of_ble_eq_true rfl, ?_⟩
    rw [upd_upd, upd_upd, upd_upd, upd_upd]
    refine ⟨sz0, fun D hD => ?_⟩
    refine ⟨_, rfl, _, _, _, _, rfl, up_ne upd_same hD, T.c_Node, T.n_Node _ mm5, Nat.le_of_ble_eq_true rfl, ?_⟩
    rw [upd_3]
    have hD' := upd_none hD
    have e := (ExtF.refl (F := NoF) h.sub).mut (o := .lst []) hD'
    refine ⟨sz0, fun J hJ => ?_⟩
    have hJ' := upd_none hJ
    refine ⟨_, rfl, _, _, _, _, rfl, up_ne upd_same hJ, T.c_Node, T.n_Node _ mm6, Nat.le_of_ble_eq_true rfl, ?_⟩
    rw [upd_3]
    have e2 := e.imm (o := .lst []) hJ'
    refine ⟨_, rfl, _, _, _, _, rfl, upd_same, T.c_Node, T.n_Node _ mm7, Nat.le_of_ble_eq_true rfl, ?_⟩
    rw [upd_upd]
    have nDJ : D ≠ J := fun z => by rw [← z, upd_same] at hJ'; cases hJ'
    obtain ⟨L', st, va⟩ := h.fldC (x' := nBegin x) hi e2 hD' (by rw [upd_ne nDJ]; exact Same.none h.sub hD') (by rw [upd_ne nDJ]; exact upd_same) .nil upd_same (show MemoAt _ none .non from rfl)
    exact q _ _ _ st va
def fN1 (K : PySem.W.Frag) {β : Type} (A : Hp → Hp → β → V → Prop) (C : R7237f.Spec.Node → β → Prop) (f : R7237f.Spec.Node → β → R7237f.Spec.Node) : V → V → Hp → VK → XK → Prop := fun a b H Q _ =>
  ∃ G L v i x y, a = .ref (L.ns i).self ∧ v.nodes[i]? = some x ∧ A G H y b ∧ C x y ∧ VolAt K G H L v ∧ Aft K G H L { v with nodes := v.nodes.set i (f x y) } Q
abbrev ItemA : Hp → Hp → Item → V → Prop := fun G _ y b => ItemAt G y b
abbrev NatA : Hp → Hp → Nat → V → Prop := fun _ _ y b => b = .int (y : Int)
abbrev NsA : Hp → Hp → List Nat → V → Prop := fun _ H y b => ∃ l, b = .ref l ∧ H l = some (.lst (nlst y))
abbrev MemA : Hp → Hp → Option Replay → V → Prop := fun G _ y b => MemoAt G y b
def nKeep (x : R7237f.Spec.Node) (y : Item) : R7237f.Spec.Node := { x with cache := x.cache ++ [y] }
def fKeep (K : PySem.W.Frag) := fN1 K ItemA (fun x _ => x.cache.length ≤ 1000000) nKeep
theorem d_Node_keep (T : Txt K mg) (F : Ms K (cNode K) "keep" "Node.keep" s_Node_keep) : MetOk P w K mg base CX0 1 (cNode K) "keep" ["self", "change"] (Sp2 (fKeep K)) :=
  met_C F sc_Node_keep bd_Node_keep fun f cdv A outer s H vs Q E hr h => by
    obtain ⟨_, b, rfl, G, L, v, i, x, y, rfl, hi, hy, hz, h, q⟩ := h
    have hn := h.node i x hi
    obtain ⟨vs, hc, pc⟩ := hn.cs
    have z1 := Pd.len pc
    refine ⟨_, (pss_one (ps_expr (pe_bm PySem.F.plainAttrs_list PySem.F.slot_list_append PySem.F.type_list_append mt_append (pe_fld (pv 0) rfl) (pa_cons (pv 1) pa_nil)))), ?_⟩
    refine ⟨_, rfl, _, _, _, _, _, rfl, hn.obj, T.c_Node, T.n_Node _ mm5, rfl, .inl ⟨rfl, _, SqL.of hc⟩, _, rfl, _, _, _, rfl, rfl, hc, szk (by omega), ?_⟩
    have e := (ExtF.refl (F := fun b => TN i (L.tg b)) h.sub).write (o := .lst (vs ++ [b])) (.inr (h.cF hi)) (ne_of_some hc) (h.cG hi)
    obtain ⟨L', st, va⟩ := h.setN (x' := nKeep x y) (n' := L.ns i) hi e rfl rfl ⟨by rw [upd_ne (h.cN hi)]; exact hn.obj, ⟨_, upd_same, pc.snoc hy⟩, hn.js, hn.ms⟩
    exact q _ _ _ st va
def nRenew (x : R7237f.Spec.Node) (y : Item) : R7237f.Spec.Node := { x with cache := R7237f.Spec.setItem y x.cache }
def fRenew (K : PySem.W.Frag) := fN1 K ItemA (fun x _ => x.cache.length ≤ 1000000) nRenew
theorem d_Node_renew (T : Txt K mg) (F : Ms K (cNode K) "renew" "Node.renew" s_Node_renew) : MetOk P w K mg base CX0 1 (cNode K) "renew" ["self", "change"] (Sp2 (fRenew K)) :=
  met_C F sc_Node_renew bd_Node_renew fun f cdv A outer s H vs Q E hr h => by
    obtain ⟨_, b, rfl, G, L, v, i, x, y, rfl, hi, hy, hz, h, q⟩ := h
    have hn := h.node i x hi
    obtain ⟨vs, hc, pc⟩ := hn.cs
    obtain ⟨t, rfl, ht⟩ := hy
    refine ⟨_, (pss_one (ps_fld (pv 0) (pe_lc (own := [("old", 2)]) (g := (gName 2)) (tt := tYes) rfl sc_Node_renew.nd (pi_list (pe_fld (pv 0) rfl)) (blkOk_by (N := ["self", "change", "old"]) (sc := defScope s_Node_renew) (by decide +kernel)) (fun _ _ _ _ _ => (pg_name (i := 2) sc_Node_renew.nd rfl (Or.inl rfl))) (fun _ _ _ _ _ => pts_nil) (fun _ _ _ _ _ => (pe_ifExp (pt_cmpR op_eq (pe_ix (ix_tupK (K := K)) (pv 2) pe_int (fun _ _ => rfl)) (pe_ix (ix_tupK (K := K)) (pv 1) pe_int (fun _ _ => rfl)) (nomark _)) (pv 1) (pv 2)))) rfl)), ?_⟩
    refine ⟨_, rfl, _, _, _, _, _, rfl, hn.obj, T.c_Node, T.n_Node _ mm5, rfl, _, rfl, ⟨_, SqL.of hc⟩, fun D hD => lc_map (S := ItemAt G) (R := fun G z v => ItemAt G (if z.block == y.block then y else z) v) (.lst (SqL.of hc)) h.sub hD pc (Nat.le_trans hz (by decide)) (fun _ _ _ _ s h => h.mono s) ?_ ?_⟩
    · rintro z _ G1 H1 Y N ⟨t2, rfl, ht2⟩ - e k
      refine ⟨rfl, _, rfl, t2, _, _, _, rfl, rfl, SqT.of (e.same _ _ (h.sub _ _ ht2)), rfl, _, rfl, t, _, _, _, rfl, rfl, SqT.of (e.same _ _ (h.sub _ _ ht)), rfl, rfl, _, rfl, ?_⟩
      by_cases c : z.block = y.block
      · rw [decide_eq_true (by rw [c] : V.int (z.block : Int) = V.int (y.block : Int))]
        refine iteT ⟨_, rfl, k _ _ _ (ExtF.refl e.sub) ?_⟩
        rw [c, if_pos (by simp)]
        exact ⟨t, rfl, e.g _ _ ht⟩
      · rw [decide_eq_false (fun q : V.int (z.block : Int) = V.int (y.block : Int) => c (by injection q with q; omega))]
        refine iteF ⟨_, rfl, k _ _ _ (ExtF.refl e.sub) ?_⟩
        rw [if_neg (by simpa using c)]
        exact ⟨t2, rfl, e.g _ _ ht2⟩
    · intro G1 H1 ys e g1 h1 pd
      refine ⟨_, rfl, _, _, _, _, rfl, e.same _ _ hn.obj, T.c_Node, T.n_Node _ mm5, Nat.le_of_ble_eq_true rfl, ?_⟩
      obtain ⟨L', st, va⟩ := h.fldC (x' := nRenew x y) hi e hD g1 h1 (Pd.map_left pd) (e.g _ _ hn.js) (hn.ms.mono e.g)
      exact q _ _ _ st va
def nLeave (x : R7237f.Spec.Node) (b : Nat) : R7237f.Spec.Node := { x with cache := x.cache.filter fun y => !(y.block == b) }
def fLeave (K : PySem.W.Frag) := fN1 K NatA (fun x _ => x.cache.length ≤ 1000000) nLeave
theorem d_Node_leave (T : Txt K mg) (F : Ms K (cNode K) "leave" "Node.leave" s_Node_leave) : MetOk P w K mg base CX0 1 (cNode K) "leave" ["self", "block"] (Sp2 (fLeave K)) :=
  met_C F sc_Node_leave bd_Node_leave fun f cdv A outer s H vs Q E hr h => by
    obtain ⟨_, _, rfl, G, L, v, i, x, y, rfl, hi, rfl, hz, h, q⟩ := h
    have hn := h.node i x hi
    obtain ⟨vs, hc, pc⟩ := hn.cs
    refine ⟨_, (pss_one (ps_fld (pv 0) (pe_lc (own := [("old", 2)]) (g := (gName 2)) rfl sc_Node_leave.nd (pi_list (pe_fld (pv 0) rfl)) (blkOk_by (N := ["self", "block", "old"]) (sc := defScope s_Node_leave) (by decide +kernel)) (fun _ _ _ _ _ => (pg_name (i := 2) sc_Node_leave.nd rfl (Or.inl rfl))) (fun _ _ _ _ _ => (pts_one (pt_cmpR op_ne (pe_ix (ix_tupK (K := K)) (pv 2) pe_int (fun _ _ => rfl)) (pv 1) (nomark _)))) (fun _ _ _ _ _ => (pv 2))) rfl)), ?_⟩
    refine ⟨_, rfl, _, _, _, _, _, rfl, hn.obj, T.c_Node, T.n_Node _ mm5, rfl, _, rfl, ⟨_, SqL.of hc⟩, fun D hD => lc_filter (S := ItemAt G) (p := fun z => !(z.block == y)) (.lst (SqL.of hc)) hD pc (Nat.le_trans hz (by decide)) ?_ ?_⟩
    · rintro z _ H1 Y N ⟨t2, rfl, ht2⟩ - e ky kn
      refine ⟨rfl, _, rfl, t2, _, _, _, rfl, rfl, SqT.of (e _ _ (h.sub _ _ ht2)), rfl, _, rfl, rfl, _, rfl, ?_⟩
      by_cases c : z.block = y
      · rw [decide_eq_true (by rw [c] : V.int (z.block : Int) = V.int (y : Int))]
        exact kn (by simp [c])
      · rw [decide_eq_false (fun q : V.int (z.block : Int) = V.int (y : Int) => c (by injection q with q; omega))]
        exact ⟨_, rfl, ky (by simp [c])⟩
    · intro ys pd
      have e := (ExtF.refl (F := NoF) h.sub).mut (o := .lst ys) hD
      refine ⟨_, rfl, _, _, _, _, rfl, e.same _ _ hn.obj, T.c_Node, T.n_Node _ mm5, Nat.le_of_ble_eq_true rfl, ?_⟩
      obtain ⟨L', st, va⟩ := h.fldC (x' := nLeave x y) hi e hD (Same.none h.sub hD) upd_same pd hn.js hn.ms
      exact q _ _ _ st va
def nArrive (x : R7237f.Spec.Node) (os : List Nat) : R7237f.Spec.Node := { x with journal := x.journal ++ os }
def fArrive (K : PySem.W.Frag) := fN1 K NsA (fun x y => x.journal.length + y.length ≤ 1000000) nArrive
theorem d_Node_arrive (T : Txt K mg) (F : Ms K (cNode K) "arrive" "Node.arrive" s_Node_arrive) : MetOk P w K mg base CX0 1 (cNode K) "arrive" ["self", "octets"] (Sp2 (fArrive K)) :=
  met_C F sc_Node_arrive bd_Node_arrive fun f cdv A outer s H vs Q E hr h => by
    obtain ⟨_, _, rfl, G, L, v, i, x, y, rfl, hi, ⟨l, rfl, hl⟩, hz, h, q⟩ := h
    have hn := h.node i x hi
    refine ⟨_, (pss_one (ps_fld (pv 0) (pe_op op_cat (pe_fld (pv 0) rfl) (pv 1)) rfl)), ?_⟩
    refine ⟨_, rfl, _, _, _, _, _, rfl, hn.obj, T.c_Node, T.n_Node _ mm6, rfl, _, rfl, _, _, _, _, rfl, rfl, h.sub _ _ hn.js, hl, szK (by rw [nlst_len, nlst_len]; omega), fun J hJ => ?_⟩
    have e := (ExtF.refl (F := NoF) h.sub).imm (o := .lst (nlst x.journal ++ nlst y)) hJ
    have h1 := h.ext e
    have hn1 := h1.node i x hi
    refine ⟨_, rfl, _, _, _, _, rfl, hn1.obj, T.c_Node, T.n_Node _ mm6, Nat.le_of_ble_eq_true rfl, ?_⟩
    obtain ⟨L', st, va⟩ := h1.fldN (x' := nArrive x y) hi rfl (by rw [upd_same]; exact congrArg some (congrArg HO.lst (nlst_app _ _).symm)) hn1.ms
    exact q _ _ _ ((Step.ext e).trans st) va
def nEmpty (x : R7237f.Spec.Node) : R7237f.Spec.Node := { x with journal := [] }
theorem d_Node_empty (T : Txt K mg) (F : Ms K (cNode K) "empty" "Node.empty" s_Node_empty) : MetOk P w K mg base CX0 1 (cNode K) "empty" ["self"] (Sp1 (fN0 K nEmpty)) :=
  met_C F sc_Node_empty bd_Node_empty fun f cdv A outer s H vs Q E hr h => by
    obtain ⟨_, rfl, G, L, v, i, x, rfl, hi, h, q⟩ := h
    refine ⟨_, (pss_one (ps_fld (pv 0) (pe_lst pa_nil) rfl)), ?_⟩
    refine ⟨sz0, fun J hJ => ?_⟩
    have e := (ExtF.refl (F := NoF) h.sub).imm (o := .lst []) hJ
    have h1 := h.ext e
    have hn1 := h1.node i x hi
    refine ⟨_, rfl, _, _, _, _, rfl, hn1.obj, T.c_Node, T.n_Node _ mm6, Nat.le_of_ble_eq_true rfl, ?_⟩
    obtain ⟨L', st, va⟩ := h1.fldN (x' := nEmpty x) hi rfl upd_same hn1.ms
    exact q _ _ _ ((Step.ext e).trans st) va
def nRemember (x : R7237f.Spec.Node) (r : Option Replay) : R7237f.Spec.Node := { x with replay := r }
def fRemember (K : PySem.W.Frag) := fN1 K MemA (fun _ _ => True) nRemember
theorem d_Node_remember (T : Txt K mg) (F : Ms K (cNode K) "remember" "Node.remember" s_Node_remember) : MetOk P w K mg base CX0 1 (cNode K) "remember" ["self", "memory"] (Sp2 (fRemember K)) :=
  met_C F sc_Node_remember bd_Node_remember fun f cdv A outer s H vs Q E hr h => by
    obtain ⟨_, _, rfl, G, L, v, i, x, y, rfl, hi, hm, -, h, q⟩ := h
    have hn := h.node i x hi
    refine ⟨_, (pss_one (ps_fld (pv 0) (pv 1) rfl)), ?_⟩
    refine ⟨_, rfl, _, rfl, _, _, _, _, rfl, hn.obj, T.c_Node, T.n_Node _ mm7, Nat.le_of_ble_eq_true rfl, ?_⟩
    obtain ⟨L', st, va⟩ := h.fldN (x' := nRemember x y) hi rfl hn.js hm
    exact q _ _ _ st va
def nTold (x : R7237f.Spec.Node) : R7237f.Spec.Node := { x with replayed := true }
theorem d_Node_told_replayed (T : Txt K mg) (F : Ms K (cNode K) "told_replayed" "Node.told_replayed" s_Node_told_replayed) : MetOk P w K mg base CX0 1 (cNode K) "told_replayed" ["self"] (Sp1 (fN0 K nTold)) :=
  met_C F sc_Node_told_replayed bd_Node_told_replayed fun f cdv A outer s H vs Q E hr h => by
    obtain ⟨_, rfl, G, L, v, i, x, rfl, hi, h, q⟩ := h
    have hn := h.node i x hi
    refine ⟨_, (pss_one (ps_fld (pv 0) pe_bl rfl)), ?_⟩
    refine ⟨_, rfl, _, _, _, _, rfl, hn.obj, T.c_Node, T.n_Node _ mm2, Nat.le_of_ble_eq_true rfl, ?_⟩
    obtain ⟨L', st, va⟩ := h.fldN (x' := nTold x) hi rfl hn.js hn.ms
    exact q _ _ _ st va
def nFreed (x : R7237f.Spec.Node) : R7237f.Spec.Node := { x with freed := true, journal := [] }
theorem d_Node_told_freed (T : Txt K mg) (F : Ms K (cNode K) "told_freed" "Node.told_freed" s_Node_told_freed) : MetOk P w K mg base CX0 1 (cNode K) "told_freed" ["self"] (Sp1 (fN0 K nFreed)) :=
  met_C F sc_Node_told_freed bd_Node_told_freed fun f cdv A outer s H vs Q E hr h => by
    obtain ⟨_, rfl, G, L, v, i, x, rfl, hi, h, q⟩ := h
    have hn := h.node i x hi
    refine ⟨_, (pss_cons (ps_fld (pv 0) pe_bl rfl) (pss_one (ps_fld (pv 0) (pe_lst pa_nil) rfl))), ?_⟩
    refine ⟨_, rfl, _, _, _, _, rfl, hn.obj, T.c_Node, T.n_Node _ mm3, Nat.le_of_ble_eq_true rfl, ?_⟩
    refine ⟨sz0, fun J hJ => ?_⟩
    have hJ' := upd_none hJ
    have e := (ExtF.refl (F := NoF) h.sub).imm (o := .lst []) hJ'
    refine ⟨_, rfl, _, _, _, _, rfl, up_ne upd_same hJ, T.c_Node, T.n_Node _ mm6, Nat.le_of_ble_eq_true rfl, ?_⟩
    rw [upd_3]
    have h1 := h.ext e
    have hn1 := h1.node i x hi
    obtain ⟨L', st, va⟩ := h1.fldN (x' := nFreed x) hi rfl upd_same hn1.ms
    exact q _ _ _ ((Step.ext e).trans st) va
end
end Ov
set_option maxHeartbeats 2000000
/-! V4: the methods of the volumes. -/
namespace Ov
open PySem PySem.Spec PyProof.Rows L2
open R7237f.Spec (Plain Units Item Cell Lock Replay Op Way Volume entryBytes lastIn)
/-! ### the last change of a block, change by change -/
def cellOf (x : Item) : Cell := ⟨x.version, x.value⟩
def lastCell (l : List Item) (b : Nat) : Cell := match lastIn l b with
  | some x => ⟨x.version, x.value⟩
  | none => ⟨0, 0⟩
theorem truth_eq (v : Volume) (b : Nat) : v.truth b = lastCell v.told b := rfl
theorem lastIn_snoc (l : List Item) (x : Item) (b : Nat) : lastIn (l ++ [x]) b = if x.block = b then some x else lastIn l b := by
  unfold lastIn
  rw [List.filter_append]
  by_cases c : x.block = b
  · simp [c]
  · simp [c]
theorem last_set (n : Nat) (l : List Item) (x : Item) : (List.range n).map (lastCell (l ++ [x])) = ((List.range n).map (lastCell l)).set x.block (cellOf x) := by
  refine List.ext_getElem? fun i => ?_
  rw [List.getElem?_set, List.getElem?_map, List.getElem?_map, List.length_map, List.length_range]
  by_cases hi : i < n
  · rw [List.getElem?_range hi]
    have e : lastCell (l ++ [x]) i = if x.block = i then cellOf x else lastCell l i := by
      unfold lastCell
      rw [lastIn_snoc]
      by_cases c : x.block = i
      · rw [if_pos c, if_pos c]
        rfl
      · rw [if_neg c, if_neg c]
    rw [Option.map_some, e]
    by_cases c : x.block = i
    · rw [if_pos c, if_pos c, c, if_pos hi]
    · rw [if_neg c, if_neg c]
      rfl
  · have e : (List.range n)[i]? = none := List.getElem?_eq_none_iff.mpr (by rw [List.length_range]; omega)
    rw [e]
    by_cases c : x.block = i
    · rw [if_pos c, c, if_neg hi]
      rfl
    · rw [if_neg c]
      rfl
theorem last_fold (n : Nat) : ∀ (e l : List Item), (List.range n).map (lastCell (l ++ e)) = e.foldl (fun ls x => ls.set x.block (cellOf x)) ((List.range n).map (lastCell l))
  | [], l => by rw [List.append_nil]; rfl
  | x :: r, l => by
    have q := last_fold n r (l ++ [x])
    rw [List.append_assoc] at q
    rw [List.foldl_cons, ← last_set]
    exact q
theorem truths_eq (v : Volume) : truths v = (List.range v.disk.length).map (lastCell v.told) := rfl
theorem truths_add (v : Volume) (tx : Nat) (e : List Item) : truths { v with committed := v.committed ++ [(tx, e)] } = e.foldl (fun ls x => ls.set x.block (cellOf x)) (truths v) := by
  rw [truths_eq, truths_eq, ← last_fold]
  show (List.range v.disk.length).map (lastCell (((v.committed ++ [(tx, e)]).map (·.2)).flatten)) = _
  rw [List.map_append, List.flatten_append]
  show (List.range v.disk.length).map (lastCell ((v.committed.map (·.2)).flatten ++ (e ++ []))) = _
  rw [List.append_nil]
  rfl
theorem truths_len (v : Volume) : (truths v).length = v.disk.length := by
  unfold truths
  rw [List.length_map, List.length_range]
theorem fold_len (e : List Item) : ∀ ls : List Cell, (e.foldl (fun ls x => ls.set x.block (cellOf x)) ls).length = ls.length := by
  induction e with
  | nil => exact fun _ => rfl
  | cons x r ih =>
    intro ls
    rw [List.foldl_cons, ih, List.length_set]
theorem VolAt.sF {K : PySem.W.Frag} {G H : Hp} {L : VA} {v : Volume} (h : VolAt K G H L v) : G L.self = none := h.gn _ (by rw [h.tags.self]; decide)
theorem ixN_of {n j : Nat} (h : j < n) : ixN n (j : Int) = some j := by
  unfold ixN
  rw [if_pos (by omega), if_pos (by omega)]
  rfl
section
variable {P : Program} {w : World} {K : PySem.W.Frag} {mg : Str → Option Value} {base : Heap}
abbrev s_Volume_node_at : Stmt := inClass (top 41) 1
theorem sc_Volume_node_at : FnScope ["self", "node"] ["self", "node"] (defScope s_Volume_node_at) := ⟨rfl, rfl, rfl, by decide +kernel, rfl, by decide +kernel, by decide +kernel⟩
theorem bd_Volume_node_at : Bd "node_at" "Volume.node_at" s_Volume_node_at ["self", "node"] := fun _ _ _ _ _ _ us hl => match us, hl with | [_, _], _ => rfl
abbrev s_Volume_give_lock : Stmt := inClass (top 41) 2
theorem sc_Volume_give_lock : FnScope ["self", "node", "block", "alone"] ["self", "node", "block", "alone"] (defScope s_Volume_give_lock) := ⟨rfl, rfl, rfl, by decide +kernel, rfl, by decide +kernel, by decide +kernel⟩
theorem bd_Volume_give_lock : Bd "give_lock" "Volume.give_lock" s_Volume_give_lock ["self", "node", "block", "alone"] := fun _ _ _ _ _ _ us hl => match us, hl with | [_, _, _, _], _ => rfl
abbrev s_Volume_drop_lock : Stmt := inClass (top 41) 3
theorem sc_Volume_drop_lock : FnScope ["self", "node", "block", "old"] ["self", "node", "block"] (defScope s_Volume_drop_lock) := ⟨rfl, rfl, rfl, by decide +kernel, rfl, by decide +kernel, by decide +kernel⟩
theorem bd_Volume_drop_lock : Bd "drop_lock" "Volume.drop_lock" s_Volume_drop_lock ["self", "node", "block"] := fun _ _ _ _ _ _ us hl => match us, hl with | [_, _, _], _ => rfl
abbrev s_Volume_drop_locks : Stmt := inClass (top 41) 4
theorem sc_Volume_drop_locks : FnScope ["self", "node", "old"] ["self", "node"] (defScope s_Volume_drop_locks) := ⟨rfl, rfl, rfl, by decide +kernel, rfl, by decide +kernel, by decide +kernel⟩
theorem bd_Volume_drop_locks : Bd "drop_locks" "Volume.drop_locks" s_Volume_drop_locks ["self", "node"] := fun _ _ _ _ _ _ us hl => match us, hl with | [_, _], _ => rfl
abbrev s_Volume_put : Stmt := inClass (top 41) 5
theorem sc_Volume_put : FnScope ["self", "change", "block", "version", "value"] ["self", "change"] (defScope s_Volume_put) := ⟨rfl, rfl, rfl, by decide +kernel, rfl, by decide +kernel, by decide +kernel⟩
theorem bd_Volume_put : Bd "put" "Volume.put" s_Volume_put ["self", "change"] := fun _ _ _ _ _ _ us hl => match us, hl with | [_, _], _ => rfl
abbrev s_Volume_start_write : Stmt := inClass (top 41) 6
theorem sc_Volume_start_write : FnScope ["self", "node", "transaction", "changes"] ["self", "node", "transaction", "changes"] (defScope s_Volume_start_write) := ⟨rfl, rfl, rfl, by decide +kernel, rfl, by decide +kernel, by decide +kernel⟩
theorem bd_Volume_start_write : Bd "start_write" "Volume.start_write" s_Volume_start_write ["self", "node", "transaction", "changes"] := fun _ _ _ _ _ _ us hl => match us, hl with | [_, _, _, _], _ => rfl
abbrev s_Volume_start_transaction : Stmt := inClass (top 41) 7
theorem sc_Volume_start_transaction : FnScope ["self", "node", "changes"] ["self", "node", "changes"] (defScope s_Volume_start_transaction) := ⟨rfl, rfl, rfl, by decide +kernel, rfl, by decide +kernel, by decide +kernel⟩
theorem bd_Volume_start_transaction : Bd "start_transaction" "Volume.start_transaction" s_Volume_start_transaction ["self", "node", "changes"] := fun _ _ _ _ _ _ us hl => match us, hl with | [_, _, _], _ => rfl
abbrev s_Volume_settle : Stmt := inClass (top 41) 8
theorem sc_Volume_settle : FnScope ["self", "transaction", "changes", "block", "version", "value"] ["self", "transaction", "changes"] (defScope s_Volume_settle) := ⟨rfl, rfl, rfl, by decide +kernel, rfl, by decide +kernel, by decide +kernel⟩
theorem bd_Volume_settle : Bd "settle" "Volume.settle" s_Volume_settle ["self", "transaction", "changes"] := fun _ _ _ _ _ _ us hl => match us, hl with | [_, _, _], _ => rfl
abbrev s_Volume_end_write : Stmt := inClass (top 41) 9
theorem sc_Volume_end_write : FnScope ["self", "number", "old"] ["self", "number"] (defScope s_Volume_end_write) := ⟨rfl, rfl, rfl, by decide +kernel, rfl, by decide +kernel, by decide +kernel⟩
theorem bd_Volume_end_write : Bd "end_write" "Volume.end_write" s_Volume_end_write ["self", "number"] := fun _ _ _ _ _ _ us hl => match us, hl with | [_, _], _ => rfl
abbrev s_Volume_lose_writes : Stmt := inClass (top 41) 10
theorem sc_Volume_lose_writes : FnScope ["self", "node", "old"] ["self", "node"] (defScope s_Volume_lose_writes) := ⟨rfl, rfl, rfl, by decide +kernel, rfl, by decide +kernel, by decide +kernel⟩
theorem bd_Volume_lose_writes : Bd "lose_writes" "Volume.lose_writes" s_Volume_lose_writes ["self", "node"] := fun _ _ _ _ _ _ us hl => match us, hl with | [_, _], _ => rfl
def fNodeAt (K : PySem.W.Frag) : V → V → Hp → VK → XK → Prop := fun a b H Q _ => ∃ G L v, ∃ n : Nat, a = .ref L.self ∧ b = .int (n : Int) ∧ 1 ≤ n ∧ n ≤ v.nodes.length ∧ VolAt K G H L v ∧ Q (.ref (L.ns (n - 1)).self) H
theorem d_Volume_node_at (T : Txt K mg) (F : Ms K (cVol K) "node_at" "Volume.node_at" s_Volume_node_at) : MetOk P w K mg base CX0 1 (cVol K) "node_at" ["self", "node"] (Sp2 (fNodeAt K)) :=
  met_C F sc_Volume_node_at bd_Volume_node_at fun f cdv A outer s H vs Q E hr h => by
    obtain ⟨_, _, rfl, G, L, v, n, rfl, rfl, h1, h2, h, q⟩ := h
    refine ⟨_, (pss_one (ps_ret (pe_ix ix_list (pe_fld (pv 0) rfl) (pe_op op_sub (pv 1) pe_int) (fun _ _ => rfl)))), ?_⟩
    have e : ((n : Int) - 1) = ((n - 1 : Nat) : Int) := by omega
    refine ⟨_, rfl, _, _, _, _, _, rfl, h.obj, T.c_Volume, T.n_Volume _ mm4, rfl, _, rfl, _, _, rfl, rfl, L.nodes, _, _, _, rfl, rfl, SqL.of (h.sub _ _ h.nodes), ?_, q⟩
    rw [e]
    refine atI_nat ?_
    rw [List.getElem?_map, List.getElem?_range (by omega)]
    rfl
def fGiveLock (K : PySem.W.Frag) : V → V → V → V → Hp → VK → XK → Prop := fun a b c d H Q _ => ∃ G L v, ∃ l : Lock, a = .ref L.self ∧ b = .int (l.node : Int) ∧ c = .int (l.block : Int) ∧ d = .bl l.alone ∧ VolAt K G H L v ∧ v.locks.length ≤ 1000000 ∧ Aft K G H L { v with locks := v.locks ++ [l] } Q
theorem d_Volume_give_lock (T : Txt K mg) (F : Ms K (cVol K) "give_lock" "Volume.give_lock" s_Volume_give_lock) : MetOk P w K mg base CX0 1 (cVol K) "give_lock" ["self", "node", "block", "alone"] (Sp4 (fGiveLock K)) :=
  met_C F sc_Volume_give_lock bd_Volume_give_lock fun f cdv A outer s H vs Q E hr h => by
    obtain ⟨_, _, _, _, rfl, G, L, v, l, rfl, rfl, rfl, rfl, h, hz, q⟩ := h
    obtain ⟨ls, hl, pl⟩ := h.locks
    have z := Pd.len pl
    refine ⟨_, (pss_one (ps_expr (pe_bm PySem.F.plainAttrs_list PySem.F.slot_list_append PySem.F.type_list_append mt_append (pe_fld (pv 0) rfl) (pa_cons (pe_tup (pa_cons (pv 1) (pa_cons (pv 2) (pa_cons (pv 3) pa_nil)))) pa_nil)))), ?_⟩
    refine ⟨_, rfl, _, _, _, _, _, rfl, h.obj, T.c_Volume, T.n_Volume _ mm5, rfl, .inl ⟨rfl, _, SqL.of hl⟩, _, rfl, _, rfl, _, rfl, sz3, fun t ht => ⟨_, ls, .ref t, rfl, rfl, up_ne hl ht, szk (by omega), ?_⟩⟩
    have e := (ExtF.refl (F := NoF) h.sub).imm (o := .tup [.int (l.node : Int), .int (l.block : Int), .bl l.alone]) ht
    have h1 := h.ext e
    have e2 := (ExtF.refl (F := fun b => L.tg b = 4) h1.sub).write (o := .lst (ls ++ [.ref t])) (.inr h1.tags.locks) (ne_of_some (up_ne hl ht)) (h1.gn _ (by rw [h1.tags.locks]; decide))
    obtain ⟨st, va⟩ := h1.setLocks e2 upd_same ((Pd.mono (fun _ _ z => z.mono e.g) pl).snoc ⟨t, rfl, upd_same⟩)
    exact q _ _ _ ((Step.ext e).trans st) va
def fDropLock (K : PySem.W.Frag) : V → V → V → Hp → VK → XK → Prop := fun a b c H Q _ => ∃ G L v, ∃ n k : Nat, a = .ref L.self ∧ b = .int (n : Int) ∧ c = .int (k : Int) ∧ VolAt K G H L v ∧ v.locks.length ≤ 1000000 ∧ Aft K G H L { v with locks := v.locks.filter fun l => !(l.node == n && l.block == k) } Q
theorem d_Volume_drop_lock (T : Txt K mg) (F : Ms K (cVol K) "drop_lock" "Volume.drop_lock" s_Volume_drop_lock) : MetOk P w K mg base CX0 1 (cVol K) "drop_lock" ["self", "node", "block"] (Sp3 (fDropLock K)) :=
  met_C F sc_Volume_drop_lock bd_Volume_drop_lock fun f cdv A outer s H vs Q E hr h => by
    obtain ⟨_, _, _, rfl, G, L, v, n, k, rfl, rfl, rfl, h, hz, q⟩ := h
    obtain ⟨ls, hl, pl⟩ := h.locks
    refine ⟨_, (pss_one (ps_fld (pv 0) (pe_lc (own := [("old", 3)]) (g := (gName 3)) rfl sc_Volume_drop_lock.nd (pi_list (pe_fld (pv 0) rfl)) (blkOk_by (N := ["self", "node", "block", "old"]) (sc := defScope s_Volume_drop_lock) (by decide +kernel)) (fun _ _ _ _ _ => (pg_name (i := 3) sc_Volume_drop_lock.nd rfl (Or.inl rfl))) (fun _ _ _ _ _ => (pts_one (PW.pt (pw_or (pt_cmpR op_ne (pe_ix (ix_tupK (K := K)) (pv 3) pe_int (fun _ _ => rfl)) (pv 1) (nomark _)) (pw_or1 (pt_cmpR op_ne (pe_ix (ix_tupK (K := K)) (pv 3) pe_int (fun _ _ => rfl)) (pv 2) (nomark _))))))) (fun _ _ _ _ _ => (pv 3))) rfl)), ?_⟩
    refine ⟨_, rfl, _, _, _, _, _, rfl, h.obj, T.c_Volume, T.n_Volume _ mm5, rfl, _, rfl, ⟨_, SqL.of hl⟩, fun D hD => lc_filter (S := LockAt G) (p := fun l => !(l.node == n && l.block == k)) (.lst (SqL.of hl)) hD pl (Nat.le_trans hz (by decide)) ?_ ?_⟩
    · rintro z _ H1 Y N ⟨t2, rfl, ht2⟩ - e ky kn
      have tt := SqT.of (K := K) (e _ _ (h.sub _ _ ht2))
      refine ⟨rfl, _, rfl, t2, _, _, _, rfl, rfl, tt, rfl, _, rfl, rfl, _, rfl, ?_⟩
      by_cases c : z.node = n
      · rw [decide_eq_true (by rw [c] : V.int (z.node : Int) = V.int (n : Int))]
        refine iteF ⟨_, rfl, t2, _, _, _, rfl, rfl, tt, rfl, _, rfl, rfl, _, rfl, ?_⟩
        by_cases c2 : z.block = k
        · rw [decide_eq_true (by rw [c2] : V.int (z.block : Int) = V.int (k : Int))]
          exact kn (by simp [c, c2])
        · rw [decide_eq_false (fun q : V.int (z.block : Int) = V.int (k : Int) => c2 (by injection q with q; omega))]
          exact ⟨_, rfl, ky (by simp [c, c2])⟩
      · rw [decide_eq_false (fun q : V.int (z.node : Int) = V.int (n : Int) => c (by injection q with q; omega))]
        exact iteT ⟨_, rfl, ky (by simp [c])⟩
    · intro ys pd
      have e := (ExtF.refl (F := NoF) h.sub).mut (o := .lst ys) hD
      refine ⟨_, rfl, _, _, _, _, rfl, e.same _ _ h.obj, T.c_Volume, T.n_Volume _ mm5, Nat.le_of_ble_eq_true rfl, ?_⟩
      have e2 := (e.mono (F' := fun b => L.tg b = 1) fun _ z => z.elim).write (o := .ins (cVol K) L.dx (volF v { L with locks := D })) (.inr h.tags.self) (ne_of_some (e.same _ _ h.obj)) h.sF
      obtain ⟨L', st, va⟩ := h.newLocks e2 hD (Same.none h.sub hD) upd_same (by rw [upd_ne (none_ne hD (ne_of_some h.obj)).symm]; exact upd_same) pd
      exact q _ _ _ st va
def fDropLocks (K : PySem.W.Frag) : V → V → Hp → VK → XK → Prop := fun a b H Q _ => ∃ G L v, ∃ n : Nat, a = .ref L.self ∧ b = .int (n : Int) ∧ VolAt K G H L v ∧ v.locks.length ≤ 1000000 ∧ Aft K G H L { v with locks := v.locks.filter fun l => !(l.node == n) } Q
theorem d_Volume_drop_locks (T : Txt K mg) (F : Ms K (cVol K) "drop_locks" "Volume.drop_locks" s_Volume_drop_locks) : MetOk P w K mg base CX0 1 (cVol K) "drop_locks" ["self", "node"] (Sp2 (fDropLocks K)) :=
  met_C F sc_Volume_drop_locks bd_Volume_drop_locks fun f cdv A outer s H vs Q E hr h => by
    obtain ⟨_, _, rfl, G, L, v, n, rfl, rfl, h, hz, q⟩ := h
    obtain ⟨ls, hl, pl⟩ := h.locks
    refine ⟨_, (pss_one (ps_fld (pv 0) (pe_lc (own := [("old", 2)]) (g := (gName 2)) rfl sc_Volume_drop_locks.nd (pi_list (pe_fld (pv 0) rfl)) (blkOk_by (N := ["self", "node", "old"]) (sc := defScope s_Volume_drop_locks) (by decide +kernel)) (fun _ _ _ _ _ => (pg_name (i := 2) sc_Volume_drop_locks.nd rfl (Or.inl rfl))) (fun _ _ _ _ _ => (pts_one (pt_cmpR op_ne (pe_ix (ix_tupK (K := K)) (pv 2) pe_int (fun _ _ => rfl)) (pv 1) (nomark _)))) (fun _ _ _ _ _ => (pv 2))) rfl)), ?_⟩
    refine ⟨_, rfl, _, _, _, _, _, rfl, h.obj, T.c_Volume, T.n_Volume _ mm5, rfl, _, rfl, ⟨_, SqL.of hl⟩, fun D hD => lc_filter (S := LockAt G) (p := fun l => !(l.node == n)) (.lst (SqL.of hl)) hD pl (Nat.le_trans hz (by decide)) ?_ ?_⟩
    · rintro z _ H1 Y N ⟨t2, rfl, ht2⟩ - e ky kn
      refine ⟨rfl, _, rfl, t2, _, _, _, rfl, rfl, SqT.of (K := K) (e _ _ (h.sub _ _ ht2)), rfl, _, rfl, rfl, _, rfl, ?_⟩
      by_cases c : z.node = n
      · rw [decide_eq_true (by rw [c] : V.int (z.node : Int) = V.int (n : Int))]
        exact kn (by simp [c])
      · rw [decide_eq_false (fun q : V.int (z.node : Int) = V.int (n : Int) => c (by injection q with q; omega))]
        exact ⟨_, rfl, ky (by simp [c])⟩
    · intro ys pd
      have e := (ExtF.refl (F := NoF) h.sub).mut (o := .lst ys) hD
      refine ⟨_, rfl, _, _, _, _, rfl, e.same _ _ h.obj, T.c_Volume, T.n_Volume _ mm5, Nat.le_of_ble_eq_true rfl, ?_⟩
      have e2 := (e.mono (F' := fun b => L.tg b = 1) fun _ z => z.elim).write (o := .ins (cVol K) L.dx (volF v { L with locks := D })) (.inr h.tags.self) (ne_of_some (e.same _ _ h.obj)) h.sF
      obtain ⟨L', st, va⟩ := h.newLocks e2 hD (Same.none h.sub hD) upd_same (by rw [upd_ne (none_ne hD (ne_of_some h.obj)).symm]; exact upd_same) pd
      exact q _ _ _ st va
def fPut (K : PySem.W.Frag) : V → V → Hp → VK → XK → Prop := fun a b H Q _ => ∃ G L v x, a = .ref L.self ∧ ItemAt G x b ∧ x.block < v.disk.length ∧ VolAt K G H L v ∧ Aft K G H L (R7237f.Spec.writeCell v x) Q
theorem d_Volume_put (T : Txt K mg) (F : Ms K (cVol K) "put" "Volume.put" s_Volume_put) : MetOk P w K mg base CX0 1 (cVol K) "put" ["self", "change"] (Sp2 (fPut K)) :=
  met_C F sc_Volume_put bd_Volume_put fun f cdv A outer s H vs Q E hr h => by
    obtain ⟨_, _, rfl, G, L, v, x, rfl, ⟨t, rfl, ht⟩, hb, h, q⟩ := h
    obtain ⟨ls, hl, pl⟩ := h.disk
    refine ⟨_, (pss_cons (ps_asg (pv 1) (pg_tup rfl (pgs_cons (pg_name (i := 2) sc_Volume_put.nd rfl (Or.inl rfl)) (pgs_cons (pg_name (i := 3) sc_Volume_put.nd rfl (Or.inl rfl)) (pgs_cons (pg_name (i := 4) sc_Volume_put.nd rfl (Or.inl rfl)) pgs_nil))))) (pss_one (ps_asg (pe_tup (pa_cons (pv 3) (pa_cons (pv 4) pa_nil))) (pg_sub (pe_fld (pv 0) rfl) (pv 2) set_list)))), ?_⟩
    refine ⟨_, rfl, t, _, rfl, SqT.of (h.sub _ _ ht), rfl, _, _, rfl, _, _, rfl, _, _, rfl, rfl, _, rfl, _, rfl, sz2, fun c hc => ?_⟩
    have e := (ExtF.refl (F := NoF) h.sub).imm (o := .tup [.int (x.version : Int), .int (x.value : Int)]) hc
    have h1 := h.ext e
    have hl1 := up_ne (u := .tup [.int (x.version : Int), .int (x.value : Int)]) hl hc
    refine ⟨_, rfl, _, _, _, _, _, rfl, h1.obj, T.c_Volume, T.n_Volume _ mm2, rfl, _, rfl, L.disk, ls, _, x.block, rfl, rfl, hl1, ixN_of (by rw [← Pd.len pl]; exact hb), ?_⟩
    have e2 := (ExtF.refl (F := fun b => L.tg b = 2) h1.sub).write (o := .lst (ls.set x.block (.ref c))) (.inr h1.tags.disk) (ne_of_some hl1) (h1.gn _ (by rw [h1.tags.disk]; decide))
    obtain ⟨st, va⟩ := h1.setDisk (ds := v.disk.set x.block ⟨x.version, x.value⟩) e2 (List.length_set ..) upd_same (Pd.set ⟨c, rfl, upd_same⟩ _ (Pd.mono (fun _ _ z => z.mono e.g) pl))
    exact q _ _ _ ((Step.ext e).trans st) va
def fStartWrite (K : PySem.W.Frag) : V → V → V → V → Hp → VK → XK → Prop := fun a b c d H Q _ => ∃ G L v, ∃ (n : Nat) (y : Way) (l : Addr) (vs : List V), a = .ref L.self ∧ b = .int (n : Int) ∧ c = .int (wTx y : Int) ∧ d = .ref l ∧ G l = some (.lst vs) ∧ Paired (ItemAt G) (wItems y) vs ∧ VolAt K G H L v ∧ v.ops.length ≤ 1000000 ∧
  AftI K G H L { v with ops := v.ops ++ [⟨v.nextOp, n, y⟩], nextOp := v.nextOp + 1 } v.nextOp Q
theorem d_Volume_start_write (T : Txt K mg) (F : Ms K (cVol K) "start_write" "Volume.start_write" s_Volume_start_write) : MetOk P w K mg base CX0 1 (cVol K) "start_write" ["self", "node", "transaction", "changes"] (Sp4 (fStartWrite K)) :=
  met_C F sc_Volume_start_write bd_Volume_start_write fun f cdv A outer s H vs Q E hr h => by
    obtain ⟨_, _, _, _, rfl, G, L, v, n, y, l, es, rfl, rfl, rfl, rfl, hl, pd, h, hz, q⟩ := h
    obtain ⟨ls, hw, pw⟩ := h.writes
    have z := Pd.len pw
    have nsw : L.writes ≠ L.self := fun e => by
      have a := h.tags.writes
      rw [e, h.tags.self] at a
      cases a
    have en : ((v.nextOp : Int) - 1) + 1 = (v.nextOp : Int) := by omega
    refine ⟨_, (pss_cons (ps_fldaug (pv 0) pe_int in_add) (pss_cons (ps_expr (pe_bm PySem.F.plainAttrs_list PySem.F.slot_list_append PySem.F.type_list_append mt_append (pe_fld (pv 0) rfl) (pa_cons (pe_tup (pa_cons (pe_fld (pv 0) rfl) (pa_cons (pv 1) (pa_cons (pv 2) (pa_cons (pv 3) pa_nil))))) pa_nil))) (pss_one (ps_ret (pe_fld (pv 0) rfl))))), ?_⟩
    refine ⟨_, rfl, _, _, _, _, _, rfl, h.obj, T.c_Volume, T.n_Volume _ mm8, rfl, _, _, rfl, rfl, _, _, h.obj, Nat.le_of_ble_eq_true rfl, ?_⟩
    rw [en]
    refine ⟨_, rfl, _, _, _, _, _, rfl, upd_same, T.c_Volume, T.n_Volume _ mm6, rfl, .inl ⟨rfl, _, SqL.of (by rw [upd_ne nsw]; exact hw)⟩, _, rfl, _, _, _, _, _, rfl, upd_same, T.c_Volume, T.n_Volume _ mm8, rfl, _, rfl, _, rfl, _, rfl, sz4, fun t ht => ?_⟩
    have hw1 : upd H L.self (.ins (cVol K) L.dx (putF "many_writes" (.int (v.nextOp : Int)) (volF v L))) L.writes = some (.lst ls) := by rw [upd_ne nsw]; exact hw
    refine ⟨_, ls, .ref t, rfl, rfl, up_ne hw1 ht, szk (by omega), ?_⟩
    have e1 := (ExtF.refl (F := fun b => L.tg b = 1 ∨ L.tg b = 5) h.sub).write (o := .ins (cVol K) L.dx (putF "many_writes" (.int (v.nextOp : Int)) (volF v L))) (.inr (.inl h.tags.self)) (ne_of_some h.obj) h.sF
    have e2 := e1.imm (o := .tup [.int (v.nextOp : Int), .int (n : Int), .int (wTx y : Int), .ref l]) ht
    have e3 := e2.write (o := .lst (ls ++ [.ref t])) (.inr (.inr h.tags.writes)) (ne_of_some (up_ne hw1 ht)) ((h.ext (ExtF.imm (ExtF.refl h.sub) (upd_none ht))).gn _ (by rw [h.tags.writes]; decide))
    have ho := (upd_ne (o := .lst (ls ++ [.ref t])) nsw.symm).trans (up_ne (u := .tup [.int (v.nextOp : Int), .int (n : Int), .int (wTx y : Int), .ref l]) (upd_same (H := H) (a := L.self) (o := .ins (cVol K) L.dx (putF "many_writes" (.int (v.nextOp : Int)) (volF v L)))) ht)
    have em : ((v.nextOp + 1 : Nat) : Int) - 1 = (v.nextOp : Int) := by omega
    refine ⟨_, rfl, _, _, _, _, _, rfl, ho, T.c_Volume, T.n_Volume _ mm8, rfl, ?_⟩
    obtain ⟨st, va⟩ := h.addWrite (ls := v.ops ++ [⟨v.nextOp, n, y⟩]) (m := v.nextOp + 1) e3 (by rw [ho]; unfold volF; simp only; rw [em]; rfl) upd_same
      ((Pd.mono (fun _ _ z => z.mono e3.g) pw).snoc ⟨t, l, es, rfl, upd_same, e3.g _ _ hl, Pd.mono (fun _ _ z => z.mono e3.g) pd⟩)
    exact q _ _ _ st va
def fStartTx (K : PySem.W.Frag) : V → V → V → Hp → VK → XK → Prop := fun a b d H Q _ => ∃ G L v, ∃ (n : Nat) (e : List Item) (l : Addr) (vs : List V), a = .ref L.self ∧ b = .int (n : Int) ∧ d = .ref l ∧ G l = some (.lst vs) ∧ Paired (ItemAt G) e vs ∧ VolAt K G H L v ∧ v.ops.length ≤ 1000000 ∧
  AftI K G H L { v with ops := v.ops ++ [⟨v.nextOp, n, .log v.nextTx e⟩], nextOp := v.nextOp + 1, nextTx := v.nextTx + 1 } v.nextTx Q
theorem d_Volume_start_transaction (T : Txt K mg) (D_Volume_start_write : MetOk P w K mg base CX0 1 (cVol K) "start_write" ["self", "node", "transaction", "changes"] (Sp4 (fStartWrite K))) (F : Ms K (cVol K) "start_transaction" "Volume.start_transaction" s_Volume_start_transaction) : MetOk P w K mg base CX0 2 (cVol K) "start_transaction" ["self", "node", "changes"] (Sp3 (fStartTx K)) :=
  met_C F sc_Volume_start_transaction bd_Volume_start_transaction fun f cdv A outer s H vs Q E hr h => by
    obtain ⟨_, _, _, rfl, G, L, v, n, e, l, es, rfl, rfl, rfl, hl, pd, h, hz, q⟩ := h
    have en : ((v.nextTx : Int) - 1) + 1 = (v.nextTx : Int) := by omega
    have em : ((v.nextTx + 1 : Nat) : Int) - 1 = (v.nextTx : Int) := by omega
    refine ⟨_, (pss_cons (ps_fldaug (pv 0) pe_int in_add) (pss_cons (ps_expr (pe_m T.c_Volume D_Volume_start_write (hr.mono (by decide)) pass0 (pv 0) (pa_cons (pv 1) (pa_cons (pe_fld (pv 0) rfl) (pa_cons (pv 2) pa_nil))))) (pss_one (ps_ret (pe_fld (pv 0) rfl))))), ?_⟩
    refine ⟨_, rfl, _, _, _, _, _, rfl, h.obj, T.c_Volume, T.n_Volume _ mm9, rfl, _, _, rfl, rfl, _, _, h.obj, Nat.le_of_ble_eq_true rfl, ?_⟩
    rw [en]
    have e1 := (ExtF.refl (F := fun b => L.tg b = 1) h.sub).write (o := .ins (cVol K) L.dx (putF "many_transactions" (.int (v.nextTx : Int)) (volF v L))) (.inr h.tags.self) (ne_of_some h.obj) h.sF
    obtain ⟨st, va⟩ := h.addTx (m := v.nextTx + 1) e1 (by rw [upd_same]; unfold volF; simp only; rw [em]; rfl)
    refine ⟨_, rfl, _, _, _, rfl, upd_same, rfl, _, rfl, _, rfl, _, _, _, _, _, rfl, upd_same, T.c_Volume, T.n_Volume _ mm9, rfl, _, rfl, ?_⟩
    refine ⟨_, _, _, _, rfl, G, L, { v with nextTx := v.nextTx + 1 }, n, .log v.nextTx e, l, es, rfl, rfl, rfl, rfl, hl, pd, va, hz, fun G' H' L' st2 va2 => ?_⟩
    refine ⟨_, rfl, _, _, _, _, _, rfl, (by rw [← st2.self]; exact va2.obj), T.c_Volume, T.n_Volume _ mm9, rfl, ?_⟩
    have z := q _ _ _ (st.trans st2) va2
    rw [← em] at z
    exact z
def fSettle (K : PySem.W.Frag) : V → V → V → Hp → VK → XK → Prop := fun a b d H Q _ => ∃ G L v, ∃ (tx : Nat) (e : List Item) (l : Addr) (vs : List V), a = .ref L.self ∧ b = .int (tx : Int) ∧ d = .ref l ∧ G l = some (.lst vs) ∧ Paired (ItemAt G) e vs ∧ (∀ x ∈ e, x.block < v.disk.length) ∧ VolAt K G H L v ∧ v.committed.length ≤ 1000000 ∧
  Aft K G H L { v with committed := v.committed ++ [(tx, e)] } Q
theorem d_Volume_settle (T : Txt K mg) (F : Ms K (cVol K) "settle" "Volume.settle" s_Volume_settle) : MetOk P w K mg base CX0 1 (cVol K) "settle" ["self", "transaction", "changes"] (Sp3 (fSettle K)) :=
  met_C F sc_Volume_settle bd_Volume_settle fun f cdv A outer s H vs Q E hr h => by
    obtain ⟨_, _, _, rfl, G, L, v, tx, e, l, es, rfl, rfl, rfl, hl, pd, hb, h, hz, q⟩ := h
    obtain ⟨ls, hla, pla⟩ := h.last
    have ncl : L.comm ≠ L.last := fun e => by
      have a := h.tags.comm
      rw [e, h.tags.last] at a
      cases a
    have ncs : L.comm ≠ L.self := fun e => by
      have a := h.tags.comm
      rw [e, h.tags.self] at a
      cases a
    have nls : L.last ≠ L.self := fun e => by
      have a := h.tags.last
      rw [e, h.tags.self] at a
      cases a
    refine ⟨_, (pss_cons (ps_expr (pe_bm PySem.F.plainAttrs_list PySem.F.slot_list_append PySem.F.type_list_append mt_append (pe_fld (pv 0) rfl) (pa_cons (pv 1) pa_nil))) (pss_one (ps_for PassesOwn.never rfl (pi_list (pv 2)) (pg_tup rfl (pgs_cons (pg_name (i := 3) sc_Volume_settle.nd rfl (Or.inl rfl)) (pgs_cons (pg_name (i := 4) sc_Volume_settle.nd rfl (Or.inl rfl)) (pgs_cons (pg_name (i := 5) sc_Volume_settle.nd rfl (Or.inl rfl)) pgs_nil)))) (pss_one (ps_asg (pe_tup (pa_cons (pv 4) (pa_cons (pv 5) pa_nil))) (pg_sub (pe_fld (pv 0) rfl) (pv 3) set_list)))))), ?_⟩
    refine ⟨_, rfl, _, _, _, _, _, rfl, h.obj, T.c_Volume, T.n_Volume _ mm7, rfl, .inl ⟨rfl, _, SqL.of h.comm⟩, _, rfl, _, _, _, rfl, rfl, h.comm, szk (by rw [nlst_len, List.length_map]; omega), ?_⟩
    have e1 := (ExtF.refl (F := fun b => L.tg b = 3 ∨ L.tg b = 6) h.sub).write (o := .lst (nlst (v.committed.map (·.1)) ++ [.int (tx : Int)])) (.inr (.inr h.tags.comm)) (ne_of_some h.comm) (h.gn _ (by rw [h.tags.comm]; decide))
    have tl := truths_len v
    refine ⟨_, rfl, l, rfl, ⟨_, SqL.of (e1.sub _ _ hl)⟩, for_run (K := K) (a := l) (xs := es)
      (fun r σ H' => (∃ x3 x4 x5, σ = [some (.ref L.self), some (.int (tx : Int)), some (.ref l), x3, x4, x5]) ∧ ∃ pre rest G1 zs, pre ++ rest = e ∧ Paired (ItemAt G) rest r ∧ ExtF (fun b => L.tg b = 3 ∨ L.tg b = 6) G H G1 H' ∧ G1 L.last = none ∧
        H' L.comm = some (.lst (nlst (v.committed.map (·.1)) ++ [.int (tx : Int)])) ∧ H' L.last = some (.lst zs) ∧ Paired (CellAt G1) (pre.foldl (fun ls x => ls.set x.block (cellOf x)) (truths v)) zs) ?_ ?_ ?_ ?_⟩
    · exact ⟨⟨_, _, _, rfl⟩, [], e, G, ls, rfl, pd, e1, h.gn _ (by rw [h.tags.last]; decide), upd_same, by rw [upd_ne ncl.symm]; exact hla, pla⟩
    · rintro r σ H' ⟨_, pre, rest, G1, zs, _, _, e2, _⟩
      exact SqL.of (e2.sub _ _ (e2.g _ _ hl))
    · rintro c r σ H' ⟨⟨x3, x4, x5, rfl⟩, pre, rest, G1, zs, e0, pr, e2, gl, hc, hl2, p2⟩
      cases pr with
      | cons hm pr =>
      rename_i x rest
      obtain ⟨t, rfl, ht⟩ := hm
      have hx : x.block < zs.length := by
        have z := Pd.len p2
        rw [fold_len, tl] at z
        rw [← z]
        exact hb x (by rw [← e0]; simp)
      refine ⟨t, _, rfl, SqT.of (e2.sub _ _ (e2.g _ _ ht)), rfl, _, _, rfl, _, _, rfl, _, _, rfl, rfl, _, rfl, _, rfl, sz2, fun u hu => ?_⟩
      have e3 := e2.imm (o := .tup [.int (x.version : Int), .int (x.value : Int)]) hu
      have ho := e3.h _ _ h.obj (by rw [h.tags.self]; decide)
      refine ⟨_, rfl, _, _, _, _, _, rfl, ho, T.c_Volume, T.n_Volume _ mm3, rfl, _, rfl, L.last, zs, _, x.block, rfl, rfl, up_ne hl2 hu, ixN_of hx, ?_⟩
      have gl3 : upd G1 u (.tup [.int (x.version : Int), .int (x.value : Int)]) L.last = none := by rw [upd_ne (ne_of_none hl2 hu)]; exact gl
      have e4 := e3.write (o := .lst (zs.set x.block (.ref u))) (.inr (.inl h.tags.last)) (ne_of_some (up_ne hl2 hu)) gl3
      refine ⟨⟨_, _, _, rfl⟩, pre ++ [x], rest, _, _, by rw [List.append_assoc]; exact e0, pr, e4, gl3, by rw [upd_ne ncl]; exact up_ne hc hu, upd_same, ?_⟩
      rw [List.foldl_append]
      refine Pd.set ⟨u, rfl, upd_same⟩ _ (Pd.mono (fun _ _ z => z.mono fun b o hb => ?_) p2)
      rw [upd_ne (ne_of_none (e2.sub _ _ hb) hu)]
      exact hb
    · rintro σ H' ⟨⟨x3, x4, x5, rfl⟩, pre, rest, G1, zs, e0, pr, e2, gl, hc, hl2, p2⟩
      cases pr
      rw [List.append_nil] at e0
      subst e0
      obtain ⟨st, va⟩ := h.addComm (cs := v.committed ++ [(tx, pre)]) e2 (by rw [hc, List.map_append, nlst_app]; rfl) hl2 (by rw [truths_add]; exact p2)
      exact q _ _ _ st va
def fEndWrite (K : PySem.W.Frag) : V → V → Hp → VK → XK → Prop := fun a b H Q _ => ∃ G L v, ∃ n : Nat, a = .ref L.self ∧ b = .int (n : Int) ∧ VolAt K G H L v ∧ v.ops.length ≤ 1000000 ∧ Aft K G H L (R7237f.Spec.dropOp v n) Q
theorem d_Volume_end_write (T : Txt K mg) (F : Ms K (cVol K) "end_write" "Volume.end_write" s_Volume_end_write) : MetOk P w K mg base CX0 1 (cVol K) "end_write" ["self", "number"] (Sp2 (fEndWrite K)) :=
  met_C F sc_Volume_end_write bd_Volume_end_write fun f cdv A outer s H vs Q E hr h => by
    obtain ⟨_, _, rfl, G, L, v, n, rfl, rfl, h, hz, q⟩ := h
    obtain ⟨ls, hl, pl⟩ := h.writes
    refine ⟨_, (pss_one (ps_fld (pv 0) (pe_lc (own := [("old", 2)]) (g := (gName 2)) rfl sc_Volume_end_write.nd (pi_list (pe_fld (pv 0) rfl)) (blkOk_by (N := ["self", "number", "old"]) (sc := defScope s_Volume_end_write) (by decide +kernel)) (fun _ _ _ _ _ => (pg_name (i := 2) sc_Volume_end_write.nd rfl (Or.inl rfl))) (fun _ _ _ _ _ => (pts_one (pt_cmpR op_ne (pe_ix (ix_tupK (K := K)) (pv 2) pe_int (fun _ _ => rfl)) (pv 1) (nomark _)))) (fun _ _ _ _ _ => (pv 2))) rfl)), ?_⟩
    refine ⟨_, rfl, _, _, _, _, _, rfl, h.obj, T.c_Volume, T.n_Volume _ mm6, rfl, _, rfl, ⟨_, SqL.of hl⟩, fun D hD => lc_filter (S := OpAt G) (p := fun o => !(o.id == n)) (.lst (SqL.of hl)) hD pl (Nat.le_trans hz (by decide)) ?_ ?_⟩
    · rintro z _ H1 Y N ⟨t2, l2, vs2, rfl, ht2, _⟩ - e ky kn
      refine ⟨rfl, _, rfl, t2, _, _, _, rfl, rfl, SqT.of (K := K) (e _ _ (h.sub _ _ ht2)), rfl, _, rfl, rfl, _, rfl, ?_⟩
      by_cases c : z.id = n
      · rw [decide_eq_true (by rw [c] : V.int (z.id : Int) = V.int (n : Int))]
        exact kn (by simp [c])
      · rw [decide_eq_false (fun q : V.int (z.id : Int) = V.int (n : Int) => c (by injection q with q; omega))]
        exact ⟨_, rfl, ky (by simp [c])⟩
    · intro ys pd
      have e := (ExtF.refl (F := NoF) h.sub).mut (o := .lst ys) hD
      refine ⟨_, rfl, _, _, _, _, rfl, e.same _ _ h.obj, T.c_Volume, T.n_Volume _ mm6, Nat.le_of_ble_eq_true rfl, ?_⟩
      have e2 := (e.mono (F' := fun b => L.tg b = 1) fun _ z => z.elim).write (o := .ins (cVol K) L.dx (volF v { L with writes := D })) (.inr h.tags.self) (ne_of_some (e.same _ _ h.obj)) h.sF
      obtain ⟨L', st, va⟩ := h.newWrites e2 hD (Same.none h.sub hD) upd_same (by rw [upd_ne (none_ne hD (ne_of_some h.obj)).symm]; exact upd_same) pd
      exact q _ _ _ st va
def fLoseWrites (K : PySem.W.Frag) : V → V → Hp → VK → XK → Prop := fun a b H Q _ => ∃ G L v, ∃ n : Nat, a = .ref L.self ∧ b = .int (n : Int) ∧ VolAt K G H L v ∧ v.ops.length ≤ 1000000 ∧ Aft K G H L { v with ops := v.ops.filter fun o => !(o.node == n) } Q
theorem d_Volume_lose_writes (T : Txt K mg) (F : Ms K (cVol K) "lose_writes" "Volume.lose_writes" s_Volume_lose_writes) : MetOk P w K mg base CX0 1 (cVol K) "lose_writes" ["self", "node"] (Sp2 (fLoseWrites K)) :=
  met_C F sc_Volume_lose_writes bd_Volume_lose_writes fun f cdv A outer s H vs Q E hr h => by
    obtain ⟨_, _, rfl, G, L, v, n, rfl, rfl, h, hz, q⟩ := h
    obtain ⟨ls, hl, pl⟩ := h.writes
    refine ⟨_, (pss_one (ps_fld (pv 0) (pe_lc (own := [("old", 2)]) (g := (gName 2)) rfl sc_Volume_lose_writes.nd (pi_list (pe_fld (pv 0) rfl)) (blkOk_by (N := ["self", "node", "old"]) (sc := defScope s_Volume_lose_writes) (by decide +kernel)) (fun _ _ _ _ _ => (pg_name (i := 2) sc_Volume_lose_writes.nd rfl (Or.inl rfl))) (fun _ _ _ _ _ => (pts_one (pt_cmpR op_ne (pe_ix (ix_tupK (K := K)) (pv 2) pe_int (fun _ _ => rfl)) (pv 1) (nomark _)))) (fun _ _ _ _ _ => (pv 2))) rfl)), ?_⟩
    refine ⟨_, rfl, _, _, _, _, _, rfl, h.obj, T.c_Volume, T.n_Volume _ mm6, rfl, _, rfl, ⟨_, SqL.of hl⟩, fun D hD => lc_filter (S := OpAt G) (p := fun o => !(o.node == n)) (.lst (SqL.of hl)) hD pl (Nat.le_trans hz (by decide)) ?_ ?_⟩
    · rintro z _ H1 Y N ⟨t2, l2, vs2, rfl, ht2, _⟩ - e ky kn
      refine ⟨rfl, _, rfl, t2, _, _, _, rfl, rfl, SqT.of (K := K) (e _ _ (h.sub _ _ ht2)), rfl, _, rfl, rfl, _, rfl, ?_⟩
      by_cases c : z.node = n
      · rw [decide_eq_true (by rw [c] : V.int (z.node : Int) = V.int (n : Int))]
        exact kn (by simp [c])
      · rw [decide_eq_false (fun q : V.int (z.node : Int) = V.int (n : Int) => c (by injection q with q; omega))]
        exact ⟨_, rfl, ky (by simp [c])⟩
    · intro ys pd
      have e := (ExtF.refl (F := NoF) h.sub).mut (o := .lst ys) hD
      refine ⟨_, rfl, _, _, _, _, rfl, e.same _ _ h.obj, T.c_Volume, T.n_Volume _ mm6, Nat.le_of_ble_eq_true rfl, ?_⟩
      have e2 := (e.mono (F' := fun b => L.tg b = 1) fun _ z => z.elim).write (o := .ins (cVol K) L.dx (volF v { L with writes := D })) (.inr h.tags.self) (ne_of_some (e.same _ _ h.obj)) h.sF
      obtain ⟨L', st, va⟩ := h.newWrites e2 hD (Same.none h.sub hD) upd_same (by rw [upd_ne (none_ne hD (ne_of_some h.obj)).symm]; exact upd_same) pd
      exact q _ _ _ st va
end
end Ov
set_option maxHeartbeats 2000000
/-! V5: what is read off a volume. -/
namespace Ov
open PySem PySem.Spec PyProof.Rows L2
open R7237f.Spec (Plain Units Item Cell Lock Replay Op Way Volume entryBytes itemOf hasBlock)
theorem dI_t {a b : Nat} (h : a = b) : decide (V.int (a : Int) = V.int (b : Int)) = true := decide_eq_true (by rw [h])
theorem dI_f {a b : Nat} (h : ¬ a = b) : decide (V.int (a : Int) = V.int (b : Int)) = false := decide_eq_false (fun q => h (by injection q with q; omega))
theorem dI {a b : Nat} : decide (V.int (a : Int) = V.int (b : Int)) = (a == b) := by
  by_cases h : a = b
  · rw [dI_t h]; simp [h]
  · rw [dI_f h]; simp [h]
theorem node_get {v : Volume} {n : Nat} (h1 : 1 ≤ n) (h2 : n ≤ v.nodes.length) : v.nodes[n - 1]? = some (v.node n) := by
  unfold Volume.node
  rw [List.getD_eq_getElem?_getD, List.getElem?_eq_getElem (by omega)]
  rfl
/-- a number tells which lock the node holds on the block -/
def lockNo (l : Option Lock) : Nat := match l with
  | some l => if l.alone then 2 else 1
  | none => 0
def lockOf (v : Volume) (n b : Nat) : Option Lock := v.locks.find? fun l => l.node == n && l.block == b
def cachedOf (x : R7237f.Spec.Node) (b : Nat) : Item := (itemOf x.cache b).getD ⟨b, 0, 0⟩
/-- the writes of entries under way, as the program finds them -/
def logsOf (v : Volume) (n : Nat) : List Op := v.ops.filter fun o => o.node == n && decide (0 < wTx o.way)
/-- something comes back; all else stands -/
def RetV (G H : Hp) (y : V) (Q : VK) : Prop := ∀ G' H', Ext G H G' H' → Q y H'
def RetI (G H : Hp) (x : Item) (Q : VK) : Prop := ∀ G' H' v, Ext G H G' H' → ItemAt G' x v → Q v H'
theorem inV_blk (b : Nat) : ∀ e : List Item, inV (.int (b : Int)) (e.map fun x => V.int (x.block : Int)) = hasBlock b e
  | [] => rfl
  | x :: r => by
    have q := inV_blk b r
    unfold inV hasBlock at q ⊢
    rw [List.map_cons, List.any_cons, List.any_cons, q]
    congr 1
    show ((x.block : Int) == (b : Int)) = (x.block == b)
    by_cases c : x.block = b
    · rw [beq_iff_eq.mpr c, beq_iff_eq.mpr (by omega : (x.block : Int) = (b : Int))]
    · rw [beq_eq_false_iff_ne.mpr c, beq_eq_false_iff_ne.mpr (by omega : (x.block : Int) ≠ (b : Int))]
theorem flat_blk (e : List Item) : (e.map fun x => V.int (x.block : Int)).all flatV = true := by
  rw [List.all_map, List.all_eq_true]
  exact fun _ _ => rfl
section
variable {P : Program} {w : World} {K : PySem.W.Frag} {mg : Str → Option Value} {base : Heap}
abbrev s_lock_of : Stmt := top 42
theorem sc_lock_of : FnScope ["volume", "node", "block", "owner", "place", "alone"] ["volume", "node", "block"] (defScope s_lock_of) := ⟨rfl, rfl, rfl, by decide +kernel, rfl, by decide +kernel, by decide +kernel⟩
theorem bd_lock_of : Bd "lock_of" "lock_of" s_lock_of ["volume", "node", "block"] := fun _ _ _ _ _ _ us hl => match us, hl with | [_, _, _], _ => rfl
abbrev s_cached : Stmt := top 43
theorem sc_cached : FnScope ["volume", "node", "block", "change"] ["volume", "node", "block"] (defScope s_cached) := ⟨rfl, rfl, rfl, by decide +kernel, rfl, by decide +kernel, by decide +kernel⟩
theorem bd_cached : Bd "cached" "cached" s_cached ["volume", "node", "block"] := fun _ _ _ _ _ _ us hl => match us, hl with | [_, _, _], _ => rfl
abbrev s_entries_under_way : Stmt := top 44
theorem sc_entries_under_way : FnScope ["volume", "node", "write"] ["volume", "node"] (defScope s_entries_under_way) := ⟨rfl, rfl, rfl, by decide +kernel, rfl, by decide +kernel, by decide +kernel⟩
theorem bd_entries_under_way : Bd "entries_under_way" "entries_under_way" s_entries_under_way ["volume", "node"] := fun _ _ _ _ _ _ us hl => match us, hl with | [_, _], _ => rfl
abbrev s_has_block : Stmt := top 45
theorem sc_has_block : FnScope ["changes", "block", "change"] ["changes", "block"] (defScope s_has_block) := ⟨rfl, rfl, rfl, by decide +kernel, rfl, by decide +kernel, by decide +kernel⟩
theorem bd_has_block : Bd "has_block" "has_block" s_has_block ["changes", "block"] := fun _ _ _ _ _ _ us hl => match us, hl with | [_, _], _ => rfl
abbrev s_transaction_under_way : Stmt := top 46
theorem sc_transaction_under_way : FnScope ["volume", "node", "block", "write"] ["volume", "node", "block"] (defScope s_transaction_under_way) := ⟨rfl, rfl, rfl, by decide +kernel, rfl, by decide +kernel, by decide +kernel⟩
theorem bd_transaction_under_way : Bd "transaction_under_way" "transaction_under_way" s_transaction_under_way ["volume", "node", "block"] := fun _ _ _ _ _ _ us hl => match us, hl with | [_, _, _], _ => rfl
abbrev s_change_under_way : Stmt := top 47
theorem sc_change_under_way : FnScope ["volume", "node", "block", "number", "owner", "transaction", "changes"] ["volume", "node", "block"] (defScope s_change_under_way) := ⟨rfl, rfl, rfl, by decide +kernel, rfl, by decide +kernel, by decide +kernel⟩
theorem bd_change_under_way : Bd "change_under_way" "change_under_way" s_change_under_way ["volume", "node", "block"] := fun _ _ _ _ _ _ us hl => match us, hl with | [_, _, _], _ => rfl
abbrev s_journal_need : Stmt := top 48
theorem sc_journal_need : FnScope ["volume", "node", "need", "write"] ["volume", "node"] (defScope s_journal_need) := ⟨rfl, rfl, rfl, by decide +kernel, rfl, by decide +kernel, by decide +kernel⟩
theorem bd_journal_need : Bd "journal_need" "journal_need" s_journal_need ["volume", "node"] := fun _ _ _ _ _ _ us hl => match us, hl with | [_, _], _ => rfl
abbrev s_is_lost : Stmt := top 49
theorem sc_is_lost : FnScope ["volume", "node"] ["volume", "node"] (defScope s_is_lost) := ⟨rfl, rfl, rfl, by decide +kernel, rfl, by decide +kernel, by decide +kernel⟩
theorem bd_is_lost : Bd "is_lost" "is_lost" s_is_lost ["volume", "node"] := fun _ _ _ _ _ _ us hl => match us, hl with | [_, _], _ => rfl
def fLockOf (K : PySem.W.Frag) : V → V → V → Hp → VK → XK → Prop := fun a b c H Q _ => ∃ G L v, ∃ n k : Nat, a = .ref L.self ∧ b = .int (n : Int) ∧ c = .int (k : Int) ∧ VolAt K G H L v ∧ Q (.int (lockNo (lockOf v n k) : Int)) H
theorem d_lock_of (T : Txt K mg) (F : Fs K mg "lock_of" s_lock_of) : DefOk P w K mg base CX0 1 "lock_of" ["volume", "node", "block"] (Sp3 (fLockOf K)) :=
  def_C F sc_lock_of bd_lock_of fun f cdv A outer s H vs Q E hr h => by
    obtain ⟨_, _, _, rfl, G, L, v, n, k, rfl, rfl, rfl, h, q⟩ := h
    obtain ⟨ls, hl, pl⟩ := h.locks
    refine ⟨_, (pss_cons (ps_for PassesOwn.never rfl (pi_list (pe_fld (pv 0) rfl)) (pg_tup rfl (pgs_cons (pg_name (i := 3) sc_lock_of.nd rfl (Or.inl rfl)) (pgs_cons (pg_name (i := 4) sc_lock_of.nd rfl (Or.inl rfl)) (pgs_cons (pg_name (i := 5) sc_lock_of.nd rfl (Or.inl rfl)) pgs_nil)))) (pss_one (ps_if (PW.pt (pw_and (pt_cmpR op_eq (pv 3) (pv 1) (nomark _)) (pw_and1 (pt_cmpR op_eq (pv 4) (pv 2) (nomark _))))) (pss_one (ps_ret (pe_ifExp (pt_val (pv 5)) pe_int pe_int))) pss_nil))) (pss_one (ps_ret pe_int))), ?_⟩
    refine ⟨_, rfl, _, _, _, _, _, rfl, h.obj, T.c_Volume, T.n_Volume _ mm5, rfl, _, rfl, ⟨_, SqL.of hl⟩, for_run (K := K) (a := L.locks) (xs := ls)
      (fun r σ H' => H' = H ∧ (∃ x3 x4 x5, σ = [some (.ref L.self), some (.int (n : Int)), some (.int (k : Int)), x3, x4, x5]) ∧ ∃ rest, Paired (LockAt G) rest r ∧ lockOf v n k = rest.find? fun l => l.node == n && l.block == k) ⟨rfl, ⟨_, _, _, rfl⟩, _, pl, rfl⟩ ?_ ?_ ?_⟩
    · rintro r σ H' ⟨rfl, _⟩
      exact SqL.of hl
    · rintro t r σ H' ⟨rfl, ⟨x3, x4, x5, rfl⟩, rest, pr, ef⟩
      cases pr with
      | cons hm pr =>
      rename_i m rest
      obtain ⟨a, rfl, ha⟩ := hm
      rw [List.find?_cons] at ef
      refine ⟨a, _, rfl, SqT.of (h.sub _ _ ha), rfl, _, _, rfl, _, _, rfl, _, _, rfl, rfl, _, rfl, _, rfl, rfl, _, rfl, ?_⟩
      by_cases c : m.node = n
      case neg =>
        rw [dI_f c]
        have e : (m.node == n) = false := by simpa using c
        rw [e, Bool.false_and] at ef
        exact iteF (iteF ⟨rfl, ⟨_, _, _, rfl⟩, rest, pr, ef⟩)
      rw [dI_t c]
      have e : (m.node == n) = true := by simpa using c
      refine iteT ⟨_, rfl, _, rfl, rfl, _, rfl, ?_⟩
      by_cases c2 : m.block = k
      case neg =>
        rw [dI_f c2]
        have e2 : (m.block == k) = false := by simpa using c2
        rw [e, e2, Bool.and_false] at ef
        exact iteF ⟨rfl, ⟨_, _, _, rfl⟩, rest, pr, ef⟩
      rw [dI_t c2]
      have e2 : (m.block == k) = true := by simpa using c2
      rw [e, e2] at ef
      have ef' : lockOf v n k = some m := ef
      rw [ef'] at q
      refine iteT ⟨_, rfl, _, rfl, ?_⟩
      unfold lockNo at q
      cases ca : m.alone with
      | true =>
        simp only [ca] at q
        exact iteT q
      | false =>
        simp only [ca] at q
        exact iteF q
    · rintro σ H' ⟨rfl, _, rest, pr, ef⟩
      cases pr
      have ef' : lockOf v n k = none := ef
      rw [ef'] at q
      exact q
def fCached (K : PySem.W.Frag) : V → V → V → Hp → VK → XK → Prop := fun a b c H Q _ => ∃ G L v, ∃ n k : Nat, a = .ref L.self ∧ b = .int (n : Int) ∧ c = .int (k : Int) ∧ 1 ≤ n ∧ n ≤ v.nodes.length ∧ VolAt K G H L v ∧ RetI G H (cachedOf (v.node n) k) Q
theorem d_cached (T : Txt K mg) (D_Volume_node_at : MetOk P w K mg base CX0 1 (cVol K) "node_at" ["self", "node"] (Sp2 (fNodeAt K))) (F : Fs K mg "cached" s_cached) : DefOk P w K mg base CX0 2 "cached" ["volume", "node", "block"] (Sp3 (fCached K)) :=
  def_C F sc_cached bd_cached fun f cdv A outer s H vs Q E hr h => by
    obtain ⟨_, _, _, rfl, G, L, v, n, k, rfl, rfl, rfl, h1, h2, h, q⟩ := h
    have hn := h.node _ _ (node_get h1 h2)
    obtain ⟨cs, hc, pc⟩ := hn.cs
    refine ⟨_, (pss_cons (ps_for PassesOwn.never rfl (pi_list (pe_fld (pe_m T.c_Volume D_Volume_node_at (hr.mono (by decide)) pass0 (pv 0) (pa_cons (pv 1) pa_nil)) rfl)) (pg_name (i := 3) sc_cached.nd rfl (Or.inl rfl)) (pss_one (ps_if (pt_cmpR op_eq (pe_ix ix_tup (pv 3) pe_int (fun _ _ => rfl)) (pv 2) (nomark _)) (pss_one (ps_ret (pv 3))) pss_nil))) (pss_one (ps_ret (pe_tup (pa_cons (pv 2) (pa_cons pe_int (pa_cons pe_int pa_nil))))))), ?_⟩
    refine ⟨_, rfl, _, _, _, rfl, h.obj, rfl, _, rfl, _, _, rfl, G, L, v, n, rfl, rfl, h1, h2, h, _, _, _, _, _, rfl, hn.obj, T.c_Node, T.n_Node _ mm5, rfl, _, rfl, ⟨_, SqL.of hc⟩, for_run (K := K) (a := (L.ns (n - 1)).cache) (xs := cs)
      (fun r σ H' => H' = H ∧ (∃ x3, σ = [some (.ref L.self), some (.int (n : Int)), some (.int (k : Int)), x3]) ∧ ∃ rest, Paired (ItemAt G) rest r ∧ itemOf (v.node n).cache k = itemOf rest k) ⟨rfl, ⟨_, rfl⟩, _, pc, rfl⟩ ?_ ?_ ?_⟩
    · rintro r σ H' ⟨rfl, _⟩
      exact SqL.of hc
    · rintro t r σ H' ⟨rfl, ⟨x3, rfl⟩, rest, pr, ef⟩
      cases pr with
      | cons hm pr =>
      rename_i m rest
      obtain ⟨a, rfl, ha⟩ := hm
      unfold itemOf at ef
      rw [List.find?_cons] at ef
      refine ⟨_, rfl, a, _, _, _, rfl, rfl, SqT.of (h.sub _ _ ha), rfl, _, rfl, rfl, _, rfl, ?_⟩
      by_cases c : m.block = k
      · rw [dI_t c]
        have e : (m.block == k) = true := by simpa using c
        rw [e] at ef
        have ec : cachedOf (v.node n) k = m := by
          unfold cachedOf itemOf
          rw [ef]
          rfl
        rw [ec] at q
        exact iteT ⟨_, rfl, q _ _ _ (ExtF.refl h.sub) ⟨a, rfl, ha⟩⟩
      · rw [dI_f c]
        have e : (m.block == k) = false := by simpa using c
        rw [e] at ef
        exact iteF ⟨rfl, ⟨_, rfl⟩, rest, pr, ef⟩
    · rintro σ H' ⟨rfl, ⟨x3, rfl⟩, rest, pr, ef⟩
      cases pr
      have ec : cachedOf (v.node n) k = ⟨k, 0, 0⟩ := by
        unfold cachedOf
        rw [ef]
        rfl
      rw [ec] at q
      exact ⟨_, rfl, sz3, fun p hp => q _ _ _ ((ExtF.refl h.sub).imm hp) ⟨p, rfl, upd_same⟩⟩
def fEntries (K : PySem.W.Frag) : V → V → Hp → VK → XK → Prop := fun a b H Q _ => ∃ G L v, ∃ n : Nat, a = .ref L.self ∧ b = .int (n : Int) ∧ v.ops.length ≤ 1000000 ∧ VolAt K G H L v ∧ ∀ D ys, H D = none → Paired (OpAt G) (logsOf v n) ys → Q (.ref D) (upd H D (.lst ys))
theorem d_entries_under_way (T : Txt K mg) (F : Fs K mg "entries_under_way" s_entries_under_way) : DefOk P w K mg base CX0 1 "entries_under_way" ["volume", "node"] (Sp2 (fEntries K)) :=
  def_C F sc_entries_under_way bd_entries_under_way fun f cdv A outer s H vs Q E hr h => by
    obtain ⟨_, _, rfl, G, L, v, n, rfl, rfl, hz, h, q⟩ := h
    obtain ⟨ls, hl, pl⟩ := h.writes
    refine ⟨_, (pss_one (ps_ret (pe_lc (own := [("write", 2)]) (g := (gName 2)) rfl sc_entries_under_way.nd (pi_list (pe_fld (pv 0) rfl)) (blkOk_by (N := ["volume", "node", "write"]) (sc := defScope s_entries_under_way) (by decide +kernel)) (fun _ _ _ _ _ => (pg_name (i := 2) sc_entries_under_way.nd rfl (Or.inl rfl))) (fun _ _ _ _ _ => (pts_one (PW.pt (pw_and (pt_cmpR op_eq (pe_ix (ix_tupK (K := K)) (pv 2) pe_int (fun _ _ => rfl)) (pv 1) (nomark _)) (pw_and1 (pt_cmpR op_gt (pe_ix (ix_tupK (K := K)) (pv 2) pe_int (fun _ _ => rfl)) pe_int (nomark _))))))) (fun _ _ _ _ _ => (pv 2))))), ?_⟩
    refine ⟨_, rfl, _, _, _, _, _, rfl, h.obj, T.c_Volume, T.n_Volume _ mm6, rfl, _, rfl, ⟨_, SqL.of hl⟩, fun D hD => lc_filter (S := OpAt G) (p := fun o => o.node == n && decide (0 < wTx o.way)) (.lst (SqL.of hl)) hD pl (Nat.le_trans hz (by decide)) ?_ ?_⟩
    · rintro z _ H1 Y N ⟨t2, l2, vs2, rfl, ht2, _⟩ - e ky kn
      have tt := SqT.of (K := K) (e _ _ (h.sub _ _ ht2))
      refine ⟨rfl, _, rfl, t2, _, _, _, rfl, rfl, tt, rfl, _, rfl, rfl, _, rfl, ?_⟩
      by_cases c : z.node = n
      · rw [dI_t c]
        refine iteT ⟨_, rfl, t2, _, _, _, rfl, rfl, tt, rfl, _, _, rfl, rfl, _, rfl, ?_⟩
        by_cases c2 : 0 < wTx z.way
        · rw [decide_eq_true (by omega : (wTx z.way : Int) > 0)]
          exact ⟨_, rfl, ky (by simp [c, c2])⟩
        · rw [decide_eq_false (by omega : ¬ (wTx z.way : Int) > 0)]
          exact kn (by simp [c2])
      · rw [dI_f c]
        exact iteF (kn (by simp [c]))
    · exact fun ys pd => q D ys hD pd
def fHasBlock (K : PySem.W.Frag) : V → V → Hp → VK → XK → Prop := fun a b H Q _ => ∃ G l vs e, ∃ k : Nat, a = .ref l ∧ b = .int (k : Int) ∧ Same G H ∧ SqL K H l vs ∧ Paired (ItemAt G) e vs ∧ e.length ≤ 1000000 ∧ RetV G H (.bl (hasBlock k e)) Q
theorem d_has_block (T : Txt K mg) (F : Fs K mg "has_block" s_has_block) : DefOk P w K mg base CX0 1 "has_block" ["changes", "block"] (Sp2 (fHasBlock K)) :=
  def_C F sc_has_block bd_has_block fun f cdv A outer s H vs Q E hr h => by
    obtain ⟨_, _, rfl, G, l, es, e, k, rfl, rfl, hs, hl, pd, hz, q⟩ := h
    refine ⟨_, (pss_one (ps_ret (pe_cmpR op_in_seq (pv 1) (pe_lc (own := [("change", 2)]) (g := (gName 2)) (tt := tYes) rfl sc_has_block.nd (pi_list (pv 0)) (blkOk_by (N := ["changes", "block", "change"]) (sc := defScope s_has_block) (by decide +kernel)) (fun _ _ _ _ _ => (pg_name (i := 2) sc_has_block.nd rfl (Or.inl rfl))) (fun _ _ _ _ _ => pts_nil) (fun _ _ _ _ _ => (pe_ix (ix_tupK (K := K)) (pv 2) pe_int (fun _ _ => rfl)))) (by rfl)))), ?_⟩
    refine ⟨_, rfl, _, rfl, l, rfl, ⟨_, hl⟩, fun D hD => lc_map (S := ItemAt G) (R := fun _ x v => v = V.int (x.block : Int)) (.lst hl) hs hD pd (Nat.le_trans hz (by decide)) (fun _ _ _ _ _ h => h) ?_ ?_⟩
    · rintro z _ G1 H1 Y N ⟨t2, rfl, ht2⟩ - e y
      exact ⟨rfl, _, rfl, t2, _, _, _, rfl, rfl, SqT.of (e.same _ _ (hs _ _ ht2)), rfl, y _ _ _ (ExtF.refl e.sub) rfl⟩
    · intro G1 H1 ys e1 g1 h1 pd
      have ey := pdMap' pd
      subst ey
      refine ⟨D, _, rfl, .inl (SqL.of h1), rfl, flat_blk e, ?_⟩
      have z := q _ _ e1
      rw [← inV_blk] at z
      exact z
def fTxUnder (K : PySem.W.Frag) : V → V → V → Hp → VK → XK → Prop := fun a b c H Q _ => ∃ G L v, ∃ n k : Nat, a = .ref L.self ∧ b = .int (n : Int) ∧ c = .int (k : Int) ∧ v.ops.length ≤ 1000000 ∧ (∀ o ∈ v.ops, (wItems o.way).length ≤ 1000) ∧ VolAt K G H L v ∧ RetV G H (.bl ((logsOf v n).any fun o => hasBlock k (wItems o.way))) Q
theorem d_transaction_under_way (T : Txt K mg) (D_entries_under_way : DefOk P w K mg base CX0 1 "entries_under_way" ["volume", "node"] (Sp2 (fEntries K))) (D_has_block : DefOk P w K mg base CX0 1 "has_block" ["changes", "block"] (Sp2 (fHasBlock K))) (F : Fs K mg "transaction_under_way" s_transaction_under_way) : DefOk P w K mg base CX0 2 "transaction_under_way" ["volume", "node", "block"] (Sp3 (fTxUnder K)) :=
  def_C F sc_transaction_under_way bd_transaction_under_way fun f cdv A outer s H vs Q E hr h => by
    obtain ⟨_, _, _, rfl, G, L, v, n, k, rfl, rfl, rfl, hz, ho, h, q⟩ := h
    refine ⟨_, (pss_cons (ps_for PassesOwn.never rfl (pi_list (pe_d D_entries_under_way (hr.mono (by decide)) pass0 (pa_cons (pv 0) (pa_cons (pv 1) pa_nil)))) (pg_name (i := 3) sc_transaction_under_way.nd rfl (Or.inl rfl)) (pss_one (ps_if (pt_val (pe_d D_has_block (hr.mono (by decide)) pass0 (pa_cons (pe_ix ix_tup (pv 3) pe_int (fun _ _ => rfl)) (pa_cons (pv 2) pa_nil)))) (pss_one (ps_ret pe_bl)) pss_nil))) (pss_one (ps_ret pe_bl))), ?_⟩
    refine ⟨_, rfl, _, rfl, _, _, rfl, G, L, v, n, rfl, rfl, hz, h, fun D ys hD pd => ?_⟩
    have e0 := (ExtF.refl (F := NoF) h.sub).mut (o := .lst ys) hD
    refine ⟨_, rfl, ⟨_, SqL.of upd_same⟩, for_run (K := K) (a := D) (xs := ys)
      (fun r σ H' => (∃ x3, σ = [some (.ref L.self), some (.int (n : Int)), some (.int (k : Int)), x3]) ∧ ∃ rest G1, Paired (OpAt G) rest r ∧ Ext G H G1 H' ∧ H' D = some (.lst ys) ∧ (∀ o ∈ rest, (wItems o.way).length ≤ 1000) ∧ ((logsOf v n).any fun o => hasBlock k (wItems o.way)) = rest.any fun o => hasBlock k (wItems o.way)) ⟨⟨_, rfl⟩, _, G, pd, e0, upd_same, fun o m => ho o (List.mem_filter.mp m).1, rfl⟩ ?_ ?_ ?_⟩
    · rintro r σ H' ⟨_, rest, G1, _, _, hd, _⟩
      exact SqL.of hd
    · rintro t r σ H' ⟨⟨x3, rfl⟩, rest, G1, pr, e1, hd, ho, ef⟩
      cases pr with
      | cons hm pr =>
      rename_i m rest
      obtain ⟨a, l2, vs2, rfl, ha, hl2, p2⟩ := hm
      rw [List.any_cons] at ef
      refine ⟨_, rfl, a, _, _, _, rfl, rfl, SqT.of (e1.same _ _ (h.sub _ _ ha)), rfl, _, rfl, _, _, rfl, G1, l2, vs2, _, k, rfl, rfl, e1.sub, SqL.of (e1.same _ _ (h.sub _ _ hl2)), Pd.mono (fun _ _ z => z.mono e1.g) p2, Nat.le_trans (ho m List.mem_cons_self) (by decide), fun G2 H2 e2 => ⟨_, rfl, ?_⟩⟩
      cases c : hasBlock k (wItems m.way) with
      | true =>
        rw [c] at ef
        have z := q _ _ (e1.trans e2)
        rw [ef] at z
        exact iteT z
      | false =>
        rw [c] at ef
        exact iteF ⟨⟨_, rfl⟩, rest, G2, pr, e1.trans e2, e2.same _ _ hd, fun o m => ho o (List.mem_cons_of_mem _ m), ef⟩
    · rintro σ H' ⟨⟨x3, rfl⟩, rest, G1, pr, e1, hd, ho, ef⟩
      cases pr
      have z := q _ _ e1
      rw [ef] at z
      exact z
/-- a write of a block (not an entry) of the node is under way -/
def chUnder (v : Volume) (n k : Nat) : Bool := v.ops.any fun o => (o.node == n && wTx o.way == 0) && hasBlock k (wItems o.way)
def fChUnder (K : PySem.W.Frag) : V → V → V → Hp → VK → XK → Prop := fun a b c H Q _ => ∃ G L v, ∃ n k : Nat, a = .ref L.self ∧ b = .int (n : Int) ∧ c = .int (k : Int) ∧ (∀ o ∈ v.ops, (wItems o.way).length ≤ 1000) ∧ VolAt K G H L v ∧ RetV G H (.bl (chUnder v n k)) Q
theorem d_change_under_way (T : Txt K mg) (D_has_block : DefOk P w K mg base CX0 1 "has_block" ["changes", "block"] (Sp2 (fHasBlock K))) (F : Fs K mg "change_under_way" s_change_under_way) : DefOk P w K mg base CX0 2 "change_under_way" ["volume", "node", "block"] (Sp3 (fChUnder K)) :=
  def_C F sc_change_under_way bd_change_under_way fun f cdv A outer s H vs Q E hr h => by
    obtain ⟨_, _, _, rfl, G, L, v, n, k, rfl, rfl, rfl, ho, h, q⟩ := h
    obtain ⟨ls, hl, pl⟩ := h.writes
    refine ⟨_, (pss_cons (ps_for PassesOwn.never rfl (pi_list (pe_fld (pv 0) rfl)) (pg_tup rfl (pgs_cons (pg_name (i := 3) sc_change_under_way.nd rfl (Or.inl rfl)) (pgs_cons (pg_name (i := 4) sc_change_under_way.nd rfl (Or.inl rfl)) (pgs_cons (pg_name (i := 5) sc_change_under_way.nd rfl (Or.inl rfl)) (pgs_cons (pg_name (i := 6) sc_change_under_way.nd rfl (Or.inl rfl)) pgs_nil))))) (pss_one (ps_if (PW.pt (pw_and (pt_cmpR op_eq (pv 4) (pv 1) (nomark _)) (pw_and (pt_cmpR op_eq (pv 5) pe_int (nomark _)) (pw_and1 (pt_val (pe_d D_has_block (hr.mono (by decide)) pass0 (pa_cons (pv 6) (pa_cons (pv 2) pa_nil)))))))) (pss_one (ps_ret pe_bl)) pss_nil))) (pss_one (ps_ret pe_bl))), ?_⟩
    refine ⟨_, rfl, _, _, _, _, _, rfl, h.obj, T.c_Volume, T.n_Volume _ mm6, rfl, _, rfl, ⟨_, SqL.of hl⟩, for_run (K := K) (a := L.writes) (xs := ls)
      (fun r σ H' => (∃ x3 x4 x5 x6, σ = [some (.ref L.self), some (.int (n : Int)), some (.int (k : Int)), x3, x4, x5, x6]) ∧ ∃ rest G1, Paired (OpAt G) rest r ∧ Ext G H G1 H' ∧ (∀ o ∈ rest, (wItems o.way).length ≤ 1000) ∧ chUnder v n k = rest.any fun o => (o.node == n && wTx o.way == 0) && hasBlock k (wItems o.way)) ⟨⟨_, _, _, _, rfl⟩, _, G, pl, ExtF.refl h.sub, ho, rfl⟩ ?_ ?_ ?_⟩
    · rintro r σ H' ⟨_, rest, G1, _, e1, _⟩
      exact SqL.of (e1.same _ _ hl)
    · rintro t r σ H' ⟨⟨x3, x4, x5, x6, rfl⟩, rest, G1, pr, e1, ho, ef⟩
      cases pr with
      | cons hm pr =>
      rename_i m rest
      obtain ⟨a, l2, vs2, rfl, ha, hl2, p2⟩ := hm
      rw [List.any_cons] at ef
      refine ⟨a, _, rfl, SqT.of (e1.same _ _ (h.sub _ _ ha)), rfl, _, _, rfl, _, _, rfl, _, _, rfl, _, _, rfl, rfl, _, rfl, _, rfl, rfl, _, rfl, ?_⟩
      have next : ((m.node == n && wTx m.way == 0) && hasBlock k (wItems m.way)) = false → ∀ G2 H2, Ext G H G2 H2 → _ := fun c G2 H2 e2 => by
        rw [c, Bool.false_or] at ef
        exact (⟨⟨_, _, _, _, rfl⟩, rest, G2, pr, e2, fun o m => ho o (List.mem_cons_of_mem _ m), ef⟩ : (∃ x3 x4 x5 x6, [some (V.ref L.self), some (V.int (n : Int)), some (V.int (k : Int)), some (V.int (m.id : Int)), some (V.int (m.node : Int)), some (V.int (wTx m.way : Int)), some (V.ref l2)] = [some (V.ref L.self), some (V.int (n : Int)), some (V.int (k : Int)), x3, x4, x5, x6]) ∧ ∃ rest G1, Paired (OpAt G) rest r ∧ Ext G H G1 H2 ∧ (∀ o ∈ rest, (wItems o.way).length ≤ 1000) ∧ chUnder v n k = rest.any fun o => (o.node == n && wTx o.way == 0) && hasBlock k (wItems o.way))
      by_cases c : m.node = n
      case neg =>
        rw [dI_f c]
        exact iteF (iteF (next (by simp [c]) _ _ e1))
      rw [dI_t c]
      refine iteT ⟨_, rfl, rfl, _, rfl, ?_⟩
      by_cases c2 : wTx m.way = 0
      case neg =>
        rw [show (V.int 0) = V.int ((0 : Nat) : Int) from rfl, dI_f c2]
        exact iteF (iteF (next (by simp [c2]) _ _ e1))
      rw [show (V.int 0) = V.int ((0 : Nat) : Int) from rfl, dI_t c2]
      refine iteT ⟨_, rfl, _, rfl, _, _, rfl, G1, l2, vs2, _, k, rfl, rfl, e1.sub, SqL.of (e1.same _ _ (h.sub _ _ hl2)), Pd.mono (fun _ _ z => z.mono e1.g) p2, Nat.le_trans (ho m List.mem_cons_self) (by decide), fun G2 H2 e2 => ⟨_, rfl, ?_⟩⟩
      cases c3 : hasBlock k (wItems m.way) with
      | true =>
        have z := q _ _ (e1.trans e2)
        rw [ef, c3] at z
        have cc : (m.node == n && wTx m.way == 0) = true := by simp [c, c2]
        rw [cc] at z
        exact iteT z
      | false => exact iteF (next (by rw [c3]; simp) _ _ (e1.trans e2))
    · rintro σ H' ⟨⟨x3, x4, x5, x6, rfl⟩, rest, G1, pr, e1, ho, ef⟩
      cases pr
      have z := q _ _ e1
      rw [ef] at z
      exact z
def needOf (v : Volume) (n : Nat) : Nat := (v.node n).journal.length + ((logsOf v n).map fun o => (entryBytes (wItems o.way)).length).sum
def fNeed (K : PySem.W.Frag) : V → V → Hp → VK → XK → Prop := fun a b H Q _ => ∃ G L v, ∃ n : Nat, a = .ref L.self ∧ b = .int (n : Int) ∧ 1 ≤ n ∧ n ≤ v.nodes.length ∧ v.ops.length ≤ 1000000 ∧ (∀ o ∈ v.ops, (wItems o.way).length ≤ 1000) ∧ VolAt K G H L v ∧ RetV G H (.int (needOf v n : Int)) Q
theorem d_journal_need (T : Txt K mg) (D_Volume_node_at : MetOk P w K mg base CX0 1 (cVol K) "node_at" ["self", "node"] (Sp2 (fNodeAt K))) (D_entries_under_way : DefOk P w K mg base CX0 1 "entries_under_way" ["volume", "node"] (Sp2 (fEntries K))) (D_entry_octets : DefOk P w K mg base CX0 1 "entry_octets" ["changes"] (Sp1 (fEntryOctets (K := K)))) (F : Fs K mg "journal_need" s_journal_need) : DefOk P w K mg base CX0 2 "journal_need" ["volume", "node"] (Sp2 (fNeed K)) :=
  def_C F sc_journal_need bd_journal_need fun f cdv A outer s H vs Q E hr h => by
    obtain ⟨_, _, rfl, G, L, v, n, rfl, rfl, h1, h2, hz, ho, h, q⟩ := h
    have hn := h.node _ _ (node_get h1 h2)
    refine ⟨_, (pss_cons (ps_set (i := 2) sc_journal_need.nd rfl (Or.inl rfl) (pe_callB call_len_seq (by rfl) T.z_len PySem.boot_len (pa_cons (pe_fld (pe_m T.c_Volume D_Volume_node_at (hr.mono (by decide)) pass0 (pv 0) (pa_cons (pv 1) pa_nil)) rfl) pa_nil))) (pss_cons (ps_for PassesOwn.never rfl (pi_list (pe_d D_entries_under_way (hr.mono (by decide)) pass0 (pa_cons (pv 0) (pa_cons (pv 1) pa_nil)))) (pg_name (i := 3) sc_journal_need.nd rfl (Or.inl rfl)) (pss_one (ps_aug (i := 2) sc_journal_need.nd rfl (Or.inl rfl) (pe_callB call_len_seq (by rfl) T.z_len PySem.boot_len (pa_cons (pe_d D_entry_octets (hr.mono (by decide)) pass0 (pa_cons (pe_ix ix_tup (pv 3) pe_int (fun _ _ => rfl)) pa_nil)) pa_nil)) ip_add))) (pss_one (ps_ret (pv 2))))), ?_⟩
    refine ⟨_, rfl, _, _, _, rfl, h.obj, rfl, _, rfl, _, _, rfl, G, L, v, n, rfl, rfl, h1, h2, h, _, _, _, _, _, rfl, hn.obj, T.c_Node, T.n_Node _ mm6, rfl, _, _, rfl, .inl (SqL.of (h.sub _ _ hn.js)), ?_⟩
    rw [nlst_len]
    refine ⟨_, rfl, _, rfl, _, _, rfl, G, L, v, n, rfl, rfl, hz, h, fun D ys hD pd => ?_⟩
    have e0 := (ExtF.refl (F := NoF) h.sub).mut (o := .lst ys) hD
    refine ⟨_, rfl, ⟨_, SqL.of upd_same⟩, for_run (K := K) (a := D) (xs := ys)
      (fun r σ H' => ∃ rest G1, ∃ m : Nat, (∃ x3, σ = [some (.ref L.self), some (.int (n : Int)), some (.int (m : Int)), x3]) ∧ Paired (OpAt G) rest r ∧ Ext G H G1 H' ∧ H' D = some (.lst ys) ∧ (∀ o ∈ rest, (wItems o.way).length ≤ 1000) ∧ needOf v n = m + (rest.map fun o => (entryBytes (wItems o.way)).length).sum) ⟨_, G, _, ⟨_, rfl⟩, pd, e0, upd_same, fun o m => ho o (List.mem_filter.mp m).1, rfl⟩ ?_ ?_ ?_⟩
    · rintro r σ H' ⟨rest, G1, m, _, _, _, hd, _⟩
      exact SqL.of hd
    · rintro t r σ H' ⟨rest, G1, m, ⟨x3, rfl⟩, pr, e1, hd, ho, ef⟩
      cases pr with
      | cons hm pr =>
      rename_i o rest
      obtain ⟨a, l2, vs2, rfl, ha, hl2, p2⟩ := hm
      rw [List.map_cons, List.sum_cons] at ef
      refine ⟨_, rfl, _, rfl, a, _, _, _, rfl, rfl, SqT.of (e1.same _ _ (h.sub _ _ ha)), rfl, _, rfl, G1, l2, vs2, _, rfl, SqL.of (e1.same _ _ (h.sub _ _ hl2)), e1.sub, Pd.mono (fun _ _ z => z.mono e1.g) p2, ho o List.mem_cons_self, fun D2 hD2 => ⟨_, _, rfl, .inl (SqL.of upd_same), _, _, rfl, rfl, ?_⟩⟩
      have e2 := e1.mut (o := .lst (nlst (entryBytes (wItems o.way)))) hD2
      refine ⟨rest, G1, m + (entryBytes (wItems o.way)).length, ⟨some (.ref a), ?_⟩, pr, e2, up_ne hd hD2, fun o m => ho o (List.mem_cons_of_mem _ m), by rw [ef]; omega⟩
      rw [nlst_len, Int.natCast_add]
      rfl
    · rintro σ H' ⟨rest, G1, m, ⟨x3, rfl⟩, pr, e1, hd, ho, ef⟩
      cases pr
      have z := q _ _ e1
      rw [ef] at z
      exact ⟨_, rfl, z⟩
def fIsLost (K : PySem.W.Frag) : V → V → Hp → VK → XK → Prop := fun a b H Q _ => ∃ G L v, ∃ n : Nat, a = .ref L.self ∧ b = .int (n : Int) ∧ 1 ≤ n ∧ n ≤ v.nodes.length ∧ VolAt K G H L v ∧ Q (.bl (R7237f.Spec.mayReplay v n)) H
theorem d_is_lost (T : Txt K mg) (D_Volume_node_at : MetOk P w K mg base CX0 1 (cVol K) "node_at" ["self", "node"] (Sp2 (fNodeAt K))) (F : Fs K mg "is_lost" s_is_lost) : DefOk P w K mg base CX0 2 "is_lost" ["volume", "node"] (Sp2 (fIsLost K)) :=
  def_C F sc_is_lost bd_is_lost fun f cdv A outer s H vs Q E hr h => by
    obtain ⟨_, _, rfl, G, L, v, n, rfl, rfl, h1, h2, h, q⟩ := h
    have hn := h.node _ _ (node_get h1 h2)
    refine ⟨_, (pss_cons (ps_if (pt_val (pe_ix ix_tup (pe_fld (pv 0) rfl) (pe_gi T.i_SHUT) (fun _ _ => rfl))) (pss_one (ps_ret (pe_fld (pe_m T.c_Volume D_Volume_node_at (hr.mono (by decide)) pass0 (pv 0) (pa_cons (pv 1) pa_nil)) rfl))) pss_nil) (pss_one (ps_ret (pe_not (pe_fld (pe_m T.c_Volume D_Volume_node_at (hr.mono (by decide)) pass0 (pv 0) (pa_cons (pv 1) pa_nil)) rfl))))), ?_⟩
    refine ⟨_, rfl, _, _, _, _, _, rfl, h.obj, T.c_Volume, T.n_Volume _ mm1, rfl, L.rules, _, _, _, rfl, rfl, SqT.of (h.sub _ _ h.rules), rfl, _, rfl, ?_⟩
    unfold R7237f.Spec.mayReplay at q
    cases c : v.rules.shut with
    | true =>
      rw [c] at q
      exact iteT ⟨_, rfl, _, _, _, rfl, h.obj, rfl, _, rfl, _, _, rfl, G, L, v, n, rfl, rfl, h1, h2, h, _, _, _, _, _, rfl, hn.obj, T.c_Node, T.n_Node _ mm1, rfl, q⟩
    | false =>
      rw [c] at q
      exact iteF ⟨_, rfl, _, _, _, rfl, h.obj, rfl, _, rfl, _, _, rfl, G, L, v, n, rfl, rfl, h1, h2, h, _, _, _, _, _, rfl, hn.obj, T.c_Node, T.n_Node _ mm0, rfl, _, rfl, q⟩
end
end Ov
set_option maxHeartbeats 2000000
/-! X1: the two classes of refusals: making one, raising one, reading its words. -/
namespace Ov
open PySem PySem.Spec PyProof.Rows L2 PySem.Calls PySem.HandSPX
open R7237f.Spec (Plain Units Item)
abbrev s_Refusal___init__ : Stmt := inClass (top 2) 0
theorem sc_Refusal___init__ : FnScope ["self", "words"] ["self", "words"] (defScope s_Refusal___init__) := ⟨rfl, rfl, rfl, by decide +kernel, rfl, by decide +kernel, by decide +kernel⟩
theorem bd_Refusal___init__ : Bd "__init__" "Refusal.__init__" s_Refusal___init__ ["self", "words"] := fun _ _ _ _ _ _ us hl => match us, hl with | [_, _], _ => rfl
def iA (p1 p2 : Pos) : Arguments := { posonlyargs := [], args := [{ arg := "self", annotation := none, pos := p1 }, { arg := "words", annotation := none, pos := p2 }], vararg := none, kwonlyargs := [], kw_defaults := [], kwarg := none, defaults := [] }
def iB (q1 q2 q3 q4 : Pos) : List Stmt := [.Assign [.Attribute (.Name "self" q1) "words" q2] (.Name "words" q3) q4]
def iS : Scope := { kind := .function, names := [(PySem.Str.ofString "self", .local), (PySem.Str.ofString "words", .local)], isGenerator := false, isCoroutine := false, more := [] }
theorem init_args : ∃ p1 p2, defArgs s_Refusal___init__ = iA p1 p2 := ⟨_, _, rfl⟩
theorem init_body : ∃ q1 q2 q3 q4, defBody s_Refusal___init__ = iB q1 q2 q3 q4 := ⟨_, _, _, _, rfl⟩
theorem init_scope : defScope s_Refusal___init__ = iS := rfl
/-- what the written part says of a class of refusals -/
structure ExT (K : PySem.W.Frag) (mg : Str → Option Value) (x : Str) (C : Addr) : Prop where
  gC : mg x = some (.ref C)
  cls : ∃ nm q N bs R sn sub ab col dd k0 k1 k2 k3 k5, K.lookup C = some (excClassObj nm q C N bs (.ref R :: PySem.ESX.exTail) true sn sub ab col dd k0 k1 k2 k3 k5 "Exception.__new__")
  sa : PySem.W.findIn K (.ref C) "__setattr__" = some (some (.builtin "object.__setattr__"))
  xf : XfC K C
  noW : PySem.W.findIn K (.ref C) "words" = some none
  ini : ∃ fI fd, FnP K "__init__" "Refusal.__init__" s_Refusal___init__ fI fd ∧ PySem.W.findIn K (.ref C) "__init__" = some (some (.ref fI)) ∧ PySem.W.typeIn K (.ref fI) = some (.type "function")
  kC : PySem.W.keepIn K (.ref C) = true
  tyC : PySem.W.typeIn K (.ref C) = some (.type "type")
/-- what __init__ leaves of a new exception at x -/
structure InitLeft (h h' : Heap) (x C dx t1 : Addr) (v : Value) : Prop where
  keep : ∀ b o, b ≠ x → h.get? b = some o → h'.get? b = some o
  obj : h'.get? x = some { cls := .ref C, dict := some dx, data := .fields #[.ref t1, .none, .none, .none, .bool false, .none] }
  dbig : h.objs.size ≤ dx
  dne : dx ≠ x
  ns : h'.Ns1 dx (fun y => if y = "words" then some v else none)
/-- a made refusal -/
structure Made (h h' : Heap) (e C d : Addr) (v : Value) : Prop where
  keep : ∀ b o, h.get? b = some o → h'.get? b = some o
  new : h.objs.size ≤ e
  obj : ∃ t1 : Addr, h'.get? e = some { cls := .ref C, dict := some d, data := .fields #[.ref t1, .none, .none, .none, .bool false, .none] }
  dbig : h.objs.size ≤ d
  dne : d ≠ e
  ns : h'.Ns1 d (fun y => if y = "words" then some v else none)
section
open PySem.Builtin PySem.Builtin.ObjectAttr
variable {prog : Program} {w : World} {A : Around} {E : Value → Shared → Prop} {R : Result → Shared → Prop} {hp : Heap} {g : Array GenState} {d : Drawn} {t : Nat} {os : OsState}
theorem two_has {C R : Addr} (X : String) : (Value.ref C :: .ref R :: PySem.ESX.exTail).contains (.type X) = PySem.ESX.exTail.contains (.type X) := by
  rw [List.contains_cons, List.contains_cons]
  rfl
/-- the first field of an exception of a class two below Exception -/
theorem osa_two {K : PySem.W.Frag} {name : Str} {tk : Tok} {v : Value} {x C R' : Addr} {fv : Array Value} {cd : ClassData}
    (X : K.In hp) (hx : hp.get? x = some { cls := .ref C, data := .fields fv }) (hcd : PySem.W.clsIn K C = some cd) (hm : cd.mro = .ref C :: .ref R' :: PySem.ESX.exTail) (hh : cd.hasDict = true) (ha : PySem.W.findIn K (.ref C) name = some none)
    (hq : ∀ h' tk' dx, (∀ b o, b ≠ x → hp.get? b = some o → h'.get? b = some o) → hp.objs.size ≤ dx → dx ≠ x → h'.get? x = some { cls := .ref C, dict := some dx, data := .fields fv } →
      h'.Ns1 dx (fun y => if y = name then some v else none) → R (.ok (.ret .none)) ⟨h', g, d, tk', os⟩) :
    codeAny (model prog w) A (.call (.builtin "object.__setattr__") ⟨[.ref x, .str name tk, v], []⟩) R ⟨hp, g, d, t, os⟩ := by
  have I0 : PySem.W.InstAt hp x { cls := .ref C, data := .fields fv } C none := ⟨hx, rfl, rfl, trivial⟩
  have hfresh : x ≠ hp.objs.size := Nat.ne_of_lt (Heap.lt_size hx)
  have sObj := F.store_object
  have isObj : PySem.W.Looks (model prog w) hp (isInstance (.ref x) (.type "object")) true := I0.type.andThen (PySem.W.looks_mroIn X (by
    unfold PySem.W.mroIn
    rw [hcd, Option.bind_some, hm, if_neg (show ¬ (List.isEmpty (Value.ref C :: .ref R' :: PySem.ESX.exTail) = true) from Bool.false_ne_true), two_has]
    decide +kernel))
  refine codeAny_call_builtin sObj.slot.plain sObj.entry (@PySem.W.check_slot (model prog w) _ _ ⟨hp, g, d, t, os⟩ "object.__setattr__" "object" "__setattr__" (.ref x) [.str name tk, v] [] _ sObj.kind sObj.split isObj (sObj.args (.ref x) (.str name tk) v) ?_)
  have lMro : PySem.W.Looks (model prog w) hp (mroOf (.ref C)) cd.mro := (PySem.W.looks_clsIn X hcd).andThen .now
  have lTak : PySem.W.Looks (model prog w) hp (storeTaker? none) none := .now
  have lCls : PySem.W.Looks (model prog w) hp (classData C) cd := PySem.W.looks_clsIn X hcd
  have thru : refuseLoop (.ref x) "__setattr__" cd.mro = pure () := by
    rw [hm, refuseLoop_ref, refuseLoop_ref]
    exact F.store_Exception.passes _
  rw [PySem.W.osa_eq, refuse_eq]
  refine wpAny_bind (wpAny_bind (I0.type.at (wpAny_bind (lMro.at ?_))))
  rw [thru]
  refine wpAny_pure (wpAny_bind (I0.type.at (wpAny_bind ((PySem.W.looks_findIn X ha).at (wpAny_bind (lTak.at ?_))))))
  show wpAny _ _ (storeInOwnDict (.ref x) (.ref C) (.str name tk) name v false) _ _ _
  obtain ⟨nm, bs, mro, ns, qn, hd, sn, sb, ab, col, del⟩ := cd
  dsimp only at hh
  subst hh
  unfold storeInOwnDict ownDictForStores
  repeat (first | with_reducible refine HandSPX.store_in_new ?_ ?_ | with_reducible refine wpAny_loadPart_at hx ?_ | with_reducible refine lCls.at ?_ | wp_step)
  · exact ⟨_, #[], _, (Heap.get?_update_ne _ _ _ _ hfresh.symm).trans (Heap.get?_push_at rfl rfl), rfl, fun e he => absurd he (by simp), fun _ => rfl⟩
  · intro h' tk' hn' hs
    have hx1 : (hp.push { cls := .type "dict", data := .dict #[] }).get? x = some { cls := .ref C, data := .fields fv } := Heap.get?_push_of_some _ hx
    refine hq h' tk' hp.objs.size (fun b o hb ho => ?_) (Nat.le_refl _) hfresh.symm ?_ hn'
    · exact (hs.2 b (Nat.ne_of_lt (Heap.lt_size ho))).trans ((Heap.get?_update_ne _ _ _ _ hb).trans (Heap.get?_push_of_some _ ho))
    · exact (hs.2 x hfresh).trans (Heap.get?_update_self _ hx1 rfl)
end
theorem ldN {M : Model} {s : Shared} {name : Str} {scope : Scope} {L a : Addr} {cd : Value} {m : Str → Option Value} {x : Str} {pos : Pos} {v : Value} {Q : Value → Shared → Prop} {A : Around} {E : Value → Shared → Prop} (hn : s.heap.Ns L m) (hv : m x = some v) (h : Q v s)
    (hk : scope.kind = .function := by rfl) (hl : (envOfC name scope L a cd).kindOf x = some .local := by rfl) (hd : (x == ("__debug__" : Str)) = false := by decide) :
    wpAny M A (eval (.Name x pos) (envOfC name scope L a cd)) Q E s := wpAny_Name (wpAny_loadName_local hk hl hn hv h) hd
section
variable {prog : Program} {w : World} {A : Around} {E : Value → Shared → Prop} {R : Result → Shared → Prop} {s : Shared} {K : PySem.W.Frag} {mg : Str → Option Value} {x : Str} {C : Addr}
theorem ex_init (T : ExT K mg x C) {fI : Addr} {fd : FuncData} (hF : FnP K "__init__" "Refusal.__init__" s_Refusal___init__ fI fd) {y t0 : Addr} {v : Value} (X : K.In s.heap) (hlim : s.heap.NoLimit) (hx : s.heap.get? y = some (excO C t0)) (hroom : A.depth < recursionLimit)
    (hq : ∀ h' tk dx, InitLeft s.heap h' y C dx t0 v → R (.ok (.ret .none)) { s with heap := h', toks := tk }) :
    codeAny (model prog w) A (.call (.ref fI) ⟨[.ref y, v], []⟩) R s := by
  obtain ⟨nm, q, N, bs, R', sn, sub, ab, col, dd, k0, k1, k2, k3, k5, hC⟩ := T.cls
  have hcl : PySem.W.clsIn K C = some { name := nm, bases := bs, mro := .ref C :: .ref R' :: PySem.ESX.exTail, ns := N, qualname := q, hasDict := true, slotNames := sn, subclasses := sub, abstract := ab, collection := col, hasDel := false } := by unfold PySem.W.clsIn; rw [hC] <;> rfl
  have hb := hF.bindsN (ps := ["self", "words"]) bd_Refusal___init__
  have bt := hb s [.ref y, v] X rfl
  obtain ⟨oc, od, dV, kV, doc, pm, an, cdv, ct, osl, rfl, ho, hcd, _, _⟩ := hF.ex
  refine Att.call_fn (binds := [("self", .ref y), ("words", v)]) X hlim ho hcd hroom bt (by first | rfl | decide | with_unfolding_all rfl) (fun s1 IC => ?_) rfl rfl rfl
  obtain ⟨h1, tk1, rfl⟩ := IC.toInCall.same
  have k : ∀ b o, s.heap.get? b = some o → h1.get? b = some o := IC.toInCall.keep
  have hn := IC.toInCall.ns
  have X1 : K.In h1 := X.keeps k
  have hx1 := k _ _ hx
  show wpAny _ _ (execs _ _) _ _ _
  refine wpAny_execs_cons (plainObj_wpAny_Assign_Attribute ?_)
  refine ldN (v := v) hn (by first | rfl | with_unfolding_all rfl | kernel_rfl) (ldN (v := .ref y) hn (by first | rfl | with_unfolding_all rfl | kernel_rfl) ?_)
  refine PySem.W.set_plain X1 (ox := excO C t0) (od := none) ⟨hx1, rfl, rfl, trivial⟩ T.sa ?_
  refine osa_two X1 hx1 hcl rfl rfl T.noW (fun h3 tk3 dx k3 dn dne hx3 hn3 => ?_)
  show wpAny _ _ (execs _ _) _ _ _
  have z : s.heap.objs.size < h1.objs.size := hn.lt
  exact wpAny_execs_nil (hq h3 tk3 dx ⟨fun b o hb e => k3 b o hb (k b o e), hx3, Nat.le_of_lt (Nat.lt_of_lt_of_le z dn), dne, hn3⟩)
theorem ex_made (T : ExT K mg x C) {v : Value} (X : K.In s.heap) (hlim : s.heap.NoLimit) (hroom : A.depth + 1 < recursionLimit)
    (hq : ∀ h' tk e d, Made s.heap h' e C d v → R (.ok (.ret (.ref e))) { s with heap := h', toks := tk }) :
    codeAny (model prog w) A (.call (.ref C) ⟨[v], []⟩) R s := by
  obtain ⟨nm, q, N, bs, R', sn, sub, ab, col, dd, k0, k1, k2, k3, k5, hC⟩ := T.cls
  obtain ⟨fI, fd, hF, iC, tC⟩ := T.ini
  obtain ⟨hp, g, dr, tk, os⟩ := s
  have k : ∀ b o, hp.get? b = some o → ((hp.push (PySem.W.kdv_tup [v])).push (excO C hp.objs.size)).get? b = some o := fun b o e => Heap.get?_push_of_some _ (Heap.get?_push_of_some _ e)
  have hget : ((hp.push (PySem.W.kdv_tup [v])).push (excO C hp.objs.size)).get? (hp.objs.size + 1) = some (excO C hp.objs.size) := by heap_get
  refine call_own F.excBase_Exception (fun X => by rw [List.contains_cons]; rfl) (X _ _ hC) (PySem.W.looks_findIn X iC) (fun self => PySem.W.bind_fn X self tC) sz1 ?_
  refine ex_init (s := ⟨(hp.push (PySem.W.kdv_tup [v])).push (excO C hp.objs.size), g, dr, tk, os⟩) T hF (X.keeps k) (hlim.keeps k) hget ?_ fun h' tk' dx ⟨k', hx, dn, dne, hns⟩ => ?_
  · show A.depth + 1 < recursionLimit
    exact hroom
  · have old : ∀ b o, hp.get? b = some o → h'.get? b = some o := fun b o e => k' b o (Nat.ne_of_lt (Nat.lt_succ_of_lt (Heap.lt_size e))) (k b o e)
    have z : hp.objs.size + 1 + 1 ≤ dx := by
      first
        | (simpa only [Heap.size_push] using dn)
        | exact dn
        | (have q := dn; rw [Heap.size_push, Heap.size_push] at q; exact q)
    exact ⟨rfl, hq h' tk' (hp.objs.size + 1) dx ⟨old, Nat.le_succ _, ⟨_, hx⟩, Nat.le_trans (Nat.le_trans (Nat.le_succ _) (Nat.le_succ _)) z, dne, hns⟩⟩
end
section
variable {X : Cx} {x : Str} {C : Addr}
/-- C(e) -/
def tMkX (C : Addr) (ta : TA) : St → Hp → XK → Prop := fun σ H Q => ta σ H fun vs H1 => ∃ v, vs = [v] ∧ ∀ d, H1 d = none → Q (.ref C) (some d) (upd H1 d (.xd [(("words" : Str), v)]))
theorem relO_w {v : V} {v' : Value} (r : RelV v v') (f : Str) : RelO (List.lookup f [(("words" : Str), v)]) (if f = "words" then some v' else none) := by
  by_cases hw : f = "words"
  · subst hw
    rw [if_pos rfl]
    have q : List.lookup ("words" : Str) [(("words" : Str), v)] = some v := by simp [List.lookup]
    rw [q]
    exact r
  · rw [if_neg hw]
    have qw : (f == ("words" : Str)) = false := by simpa using hw
    have q2 : List.lookup f [(("words" : Str), v)] = none := by simp [List.lookup, qw]
    rw [q2]
    trivial
theorem pmk_x {a : Expr} {ta : TA} {p pos : Pos} {k : Nat} (T : ExT X.K X.mg x C) (hr : Room k X.A) (ha : PA X [a] ta) (hg : Gl X x := by rfl) (hdb : (x == ("__debug__" : Str)) = false := by decide)
    (he : starEach (a :: []) X.env = (false, eval a X.env) :: starEach [] X.env := by rfl) (hpl : (backTo pos (starEach [] X.env)).any (·.1) = false := by rfl) :
    L2N.PMk X (.Call (.Name x p) [a] [] pos) (tMkX C ta) := by
  intro pins s σ H Q I h
  refine wpAny_Call_Name_kw (ld_glob I hg T.gC ?_ hdb)
  refine PySem.W.callWith_K (h₀ := X.base) I.ok.mod.kin T.kC (thn (ha.run pos pins s σ H _ I h) fun us s1 hh => ?_) he hpl
  obtain ⟨vs, H1, I1, r1, v, ev, q1⟩ := hh
  subst ev
  refine ⟨I1.kIn, ?_⟩
  cases r1 with
  | cons rv rn =>
    rename_i v' us'
    cases rn
    show wpAny _ _ (call (.ref C) [v']) _ _ _
    have hlim := I1.nolimit
    obtain ⟨hp, g, dr, tk, os⟩ := s1
    refine wpAny_call (ex_made T I1.kIn hlim (by have := hr.dp; omega) fun h' tk' e d M => ?_)
    show L2N.MkP X pins σ Q (.ref e) ⟨h', g, dr, tk', os⟩
    obtain ⟨t1, hoe⟩ := M.obj
    have hns := M.ns
    obtain ⟨G', g1, g2⟩ := restrict h' fun b => decide (b ≠ e)
    have gk : ∀ b, b ≠ e → G'.get? b = h'.get? b := fun b hb => g1 b (decide_eq_true hb)
    have ge : G'.get? e = none := g2 e (by simp)
    have old : ∀ b o, hp.get? b = some o → G'.get? b = some o := fun b o q => (gk b (Nat.ne_of_lt (Nat.lt_of_lt_of_le (Heap.lt_size q) M.new))).trans (M.keep b o q)
    have ob : ObjOk X.prog X.w (upd H1 d (.xd [(("words" : Str), v)])) G' d (.xd [(("words" : Str), v)]) :=
      ⟨_, hns.at (fun o q => (gk d M.dne).trans q), fun f => relO_w rv f⟩
    have J : Inv X pins σ (upd H1 d (.xd [(("words" : Str), v)])) ⟨G', g, dr, tk', os⟩ := I1.laid (t' := tk') old M.dbig ob
    refine ⟨e, _, _, ⟨G', g, dr, tk', os⟩, _, .ref C, some d, rfl, J, fun b o q => ?_, ge, hoe, ⟨rfl, rfl, fun vs e => by cases e; rfl⟩, rfl, rfl, ?_, rfl, I1.bare, raises_own T.xf.exC T.tyC, q1 d (I1.hok.fresh M.dbig)⟩
    · by_cases hb : b = e
      · have q' : G'.get? b = some o := q
        rw [hb, ge] at q'; cases q'
      · exact (gk b hb).symm.trans q
    · rw [upd_ne (Ne.symm M.dne)]
      exact I1.hok.fresh M.new
def tRzX (C : Addr) (W : WX) (ta : TA) : TS := fun _ σ H => tMkX C ta σ H fun cls d H' => W cls d σ H'
theorem ps_rzW {a : Expr} {ta : TA} {W : WX} {p pos pos2 : Pos} {k : Nat} (hc : X.calm = true) (T : ExT X.K X.mg x C) (hr : Room k X.A) (tk : L2N.Takes X W) (ha : PA X [a] ta) (hg : Gl X x := by rfl) (hdb : (x == ("__debug__" : Str)) = false := by decide)
    (he : starEach (a :: []) X.env = (false, eval a X.env) :: starEach [] X.env := by rfl) (hpl : (backTo pos (starEach [] X.env)).any (·.1) = false := by rfl) :
    PS X (.Raise (some (.Call (.Name x p) [a] [] pos)) none pos2) (tRzX C W ta) := L2N.ps_raise hc tk (pmk_x T hr ha hg hdb he hpl)
end
end Ov
set_option maxHeartbeats 2000000
/-! X2: try with several clauses, some of them with a name; the ways of raising. -/
namespace Ov
open PySem PySem.Spec PyProof.Rows L2
abbrev TSX := Addr → Value → Option Addr → TS
def wMix (K : PySem.W.Frag) (Wout : WX) (D : Ends) : List (Value × Option Nat × TSX) → WX
  | [] => Wout
  | (c, none, ts) :: r => fun cls d σ H => ∃ b, PySem.W.exmOne K cls c = some b ∧ (b = true → ∀ a, H a = none → ts a cls d D σ H) ∧ (b = false → wMix K Wout D r cls d σ H)
  | (c, some i, ts) :: r => fun cls d σ H => ∃ b, PySem.W.exmOne K cls c = some b ∧ (b = true → ∀ a, H a = none → ts a cls d { nx := fun σ' H' => D.nx (σ'.set i none) H', rt := D.rt, bk := fun σ' H' => D.bk (σ'.set i none) H', ct := fun σ' H' => D.ct (σ'.set i none) H' } (σ.set i (some (.ref a))) H) ∧ (b = false → wMix K Wout D r cls d σ H)
inductive HdsA (X : Cx) : List ExceptHandler → List (Value × Option Nat × TSX) → Prop
  | nil : HdsA X [] []
  | bare {x : Str} {c : Value} {ts : TSX} {b0 : Stmt} {suite : List Stmt} {np pos' : Pos} {hds : List ExceptHandler} {l : List (Value × Option Nat × TSX)} (hc : Names X x c)
      (hsu : ∀ (a : Addr) (oe : Obj) (cls : Value) (d : Option Addr) (pn : List (Addr × Obj)), L2N.Zn cls d oe → (∃ vs, oe.data = .fields vs) → PSs (X.suite a ((a, oe) :: pn)) (b0 :: suite) (ts a cls d)) (r : HdsA X hds l) :
      HdsA X (.ExceptHandler (some (.Name x np)) none (b0 :: suite) pos' :: hds) ((c, none, ts) :: l)
  | named {x n : Str} {i : Nat} {c : Value} {ts : TSX} {b0 : Stmt} {suite : List Stmt} {np pos' : Pos} {hds : List ExceptHandler} {l : List (Value × Option Nat × TSX)} (hc : Names X x c) (hN : X.N.Nodup) (hi : X.N[i]? = some n) (hln : X.env.kindOf n = some .local)
      (hsu : ∀ (a : Addr) (oe : Obj) (cls : Value) (d : Option Addr) (pn : List (Addr × Obj)), L2N.Zn cls d oe → (∃ vs, oe.data = .fields vs) → PSs (X.suite a ((a, oe) :: pn)) (b0 :: suite) (ts a cls d)) (r : HdsA X hds l) :
      HdsA X (.ExceptHandler (some (.Name x np)) (some n) (b0 :: suite) pos' :: hds) ((c, some i, ts) :: l)
section
variable {X : Cx} {body : List Stmt} {h0 : ExceptHandler} {hds : List ExceptHandler} {l : List (Value × Option Nat × TSX)} {pos : Pos} {tb : WX → TS} {Wout : WX}
theorem ps_try_mix (hs : X.stack = X.env :: X.outer) (hf : X.env.frame = some X.env.locals) (tk : L2N.Takes X Wout)
    (hb : ∀ (W : WX) (pn : List (Addr × Obj)) (xe : Value → Shared → Prop), L2N.Takes (X.tr pn xe) W → PassesOwn (model X.prog X.w) X.A X.env xe → PSs (X.tr pn xe) body (tb W))
    (hh : HdsA X (h0 :: hds) l) : PS X (.Try body (h0 :: hds) [] [] pos) (fun D σ H => tb (wMix X.K Wout D l) D σ H) := by
  refine ⟨fun pins s σ H D I h => ?_⟩
  have ok := I.ok
  have hfr : X.A.frames = some (X.env :: X.outer) := by rw [ok.frames, hs]
  refine wpAny_Try_except ?_
  refine wpAny_mono ((hb (wMix X.K Wout D l) (X.pn ++ pins) (fun e s1 => wpAny (model X.prog X.w) X.A (noteFrame e X.env) (fun _ s2 => wpAny (model X.prog X.w) X.A (setFlight e none) (fun _ s3 =>
    wpAny (model X.prog X.w) X.A (handleBy e X.env (h0 :: hds)) (SP X pins D) X.xe s3) X.xe s2) X.xe s1) (fun u s' xx => ?_) PassesOwn.looking).run [] s σ H D (I.toTry _) h) (fun f s1 hsp => ?_) (fun e s1 he => he)
  · obtain ⟨a, B, sI, pins', σ', H', cls, d, rfl, J', nb, up, sky, na, os, ag, w⟩ := xx
    have J : Inv X pins σ' H' sI := J'.ofTry ok
    have air : L2.Sky B (X.env :: X.outer) a (L2N.Zn cls d) X.env.locals s'.heap := by rw [← hs]; exact sky
    show wpAny (model X.prog X.w) X.A (noteFrame (.ref a) X.env) _ _ _
    refine L2N.Sky.land L2N.Zn.steady hfr hf air fun h3 fl3 up3 => ?_
    have J3 : Inv X pins σ' H' { s' with heap := h3 } := J.landed nb fl3.1 (up.trans up3) os ag
    obtain ⟨oe3, vs3, he3, hz3, hd3⟩ := fl3.there
    have nfr : a ∉ frs (X.env :: X.outer) := fun hm => by
      obtain ⟨_, o', e', hnf⟩ := fl3.2.2.1.mem hm
      rw [he3] at e'; cases e'
      exact hnf _ hd3
    have nL : a ≠ X.env.locals := fun z => nfr (List.mem_filterMap.mpr ⟨X.env, List.mem_cons_self, by rw [hf, z]⟩)
    have nF : a ∉ X.fs := fun hm => by
      obtain ⟨e, he, q⟩ := List.mem_filterMap.mp hm
      exact nfr (List.mem_filterMap.mpr ⟨e, List.mem_cons_of_mem _ he, q⟩)
    have S3 := J3.suite he3 hd3 na nL nF
    have LT : PySem.W.Looks (model X.prog X.w) h3 (typeOf (.ref a)) cls := fun A Q E s k q => wpAny_typeOf_ref (k _ _ he3) (by rw [hz3.1]; exact q)
    have test : ∀ {x : Str} {c : Value} {np : Pos} {Q : Value → Shared → Prop} {E : Value → Shared → Prop}, Names X x c → Q c { s' with heap := h3 } → wpAny (model X.prog X.w) (X.A.mark (some (.ref a))) (eval (.Name x np) X.env) Q E { s' with heap := h3 } := fun {x c np Q E} hc q => by
      obtain ⟨hg, hdbg, hm | ⟨hm, hv, hnn⟩⟩ := hc
      · exact ld_glob (X := X.suite a ((a, oe3) :: (X.pn ++ pins))) S3 hg hm q hdbg
      · exact ld_blt (X := X.suite a ((a, oe3) :: (X.pn ++ pins))) S3 hg hm hv q hnn hdbg
    have go : ∀ {hds' : List ExceptHandler} {l' : List (Value × Option Nat × TSX)}, HdsA X hds' l' → wMix X.K Wout D l' cls d σ' H' →
        wpAny (model X.prog X.w) X.A (handleBy (.ref a) X.env hds') (SP X pins D) X.xe { s' with heap := h3 } := by
      intro hds' l' hk
      induction hk with
      | nil =>
        intro w
        refine wpAny_handleBy_nil ?_
        obtain ⟨k1, k2, k3, oe, vs, T, oT, ts', he, hz, hd, h1, hr⟩ := id fl3
        unfold PySem.passOn
        refine wpAny_bind (wpAny_field he hd h1 ?_)
        rw [if_neg (show ¬ ((Value.ref T == Value.none) = true) from by simp)]
        have fin : wpAny (model X.prog X.w) X.A (setFlight (.ref a) X.env.frame) (fun _ s4 => wpAny (model X.prog X.w) X.A (throw (.ref a) : Sem Flow) (SP X pins D) X.xe s4) X.xe { s' with heap := h3 } := by
          rw [hf]
          refine HandSPX.setFlight_upZ fl3 fun h4 hh4 up4 => wpAny_throw (tk _ _ ?_)
          exact ⟨a, B, sI, pins, σ', H', cls, d, rfl, J, nb, (up.trans up3).trans up4, .inr (.inr (by rw [hs]; exact hh4)), na, os, ag, w⟩
        first
          | exact wpAny_bind (wpAny_pure (wpAny_bind fin))
          | exact wpAny_bind fin
      | @bare x c ts b0 suite np pos' hds2 l2 hc hsu r ih =>
        intro w
        obtain ⟨b, hb1, hyes, hno⟩ := w
        refine wpAny_handleBy_cons (codeAny_handlers_test ?_) (by intro q; cases q)
        have LM := PySem.W.exm_one (M := model X.prog X.w) (J3.kIn) LT hb1
        refine test hc (LM.here ?_)
        cases b with
        | true =>
          refine codeAny_handlers_suite ?_
          refine HandSPX.lands_againZ fl3 fun h4 fl4 up4 => ?_
          have J4 : Inv X pins σ' H' { s' with heap := h4 } := J.landed nb fl4.1 ((up.trans up3).trans up4) os ag
          obtain ⟨oe4, vs4, he4, hz4, hd4⟩ := fl4.there
          have S4 := J4.suite he4 hd4 na nL nF
          refine wpAny_mono ((hsu a oe4 cls d (X.pn ++ pins) hz4 ⟨_, hd4⟩).run [] _ _ H' _ S4 (hyes rfl a na)) (fun f s6 hsp => ?_) (fun _ _ z => False.elim z)
          cases f with
          | ret u =>
            obtain ⟨v6, σ6, H6, S6, r6, q6⟩ := hsp
            exact ⟨_, _, _, S6.unsuite ok, r6, q6⟩
          | next =>
            obtain ⟨σ6, H6, S6, q6⟩ := hsp
            exact ⟨_, _, S6.unsuite ok, q6⟩
          | brk =>
            obtain ⟨σ6, H6, S6, q6⟩ := hsp
            exact ⟨_, _, S6.unsuite ok, q6⟩
          | cont =>
            obtain ⟨σ6, H6, S6, q6⟩ := hsp
            exact ⟨_, _, S6.unsuite ok, q6⟩
        | false =>
          show wpAny _ X.A (handleBy (.ref a) X.env hds2) _ _ _
          exact ih (hno rfl)
      | @named x n i c ts b0 suite np pos' hds2 l2 hc hN hi hln hsu r ih =>
        intro w
        obtain ⟨b, hb1, hyes, hno⟩ := w
        have hloc : Loc X.env.scope n := .inl hln
        refine wpAny_handleBy_cons (codeAny_handlers_test ?_) (by intro q; cases q)
        have LM := PySem.W.exm_one (M := model X.prog X.w) (J3.kIn) LT hb1
        refine test hc (LM.here ?_)
        cases b with
        | true =>
          refine codeAny_handlers_suite_as ?_
          refine HandSPX.lands_againZ fl3 fun h4 fl4 up4 => ?_
          have J4 : Inv X pins σ' H' { s' with heap := h4 } := J.landed nb fl4.1 ((up.trans up3).trans up4) os ag
          obtain ⟨oe4, vs4, he4, hz4, hd4⟩ := fl4.there
          have S4 := J4.suite he4 hd4 na nL nF
          refine store_ok (X := X.suite a ((a, oe4) :: (X.pn ++ pins))) (v := .ref a) S4 hN hi hloc rfl (fun s5 S5 => ?_) (.inr hln)
          refine wpAny_mono ((hsu a oe4 cls d (X.pn ++ pins) hz4 ⟨_, hd4⟩).run [] s5 _ H' _ S5 (hyes rfl a na)) (fun f s6 hsp => ?_) (fun _ _ z => False.elim z)
          have gone : ∀ {σ6 : St} {H6 : Hp} {Q : Shared → Prop}, Inv (X.suite a ((a, oe4) :: (X.pn ++ pins))) [] σ6 H6 s6 → (∀ s7, Inv X pins (σ6.set i none) H6 s7 → Q s7) →
              wpAny (model X.prog X.w) X.A (do bindName X.env n .none; unbindBehindTheSuite X.env n pos') (fun _ s7 => Q s7) X.xe s6 := fun {σ6 H6 Q} S6 hq => gone_ok (S6.unsuite ok) hN hi hln hq
          cases f with
          | ret u =>
            obtain ⟨v6, σ6, H6, S6, r6, q6⟩ := hsp
            exact gone S6 fun s7 J7 => ⟨_, _, _, J7, r6, q6⟩
          | next =>
            obtain ⟨σ6, H6, S6, q6⟩ := hsp
            exact gone S6 fun s7 J7 => ⟨_, _, J7, q6⟩
          | brk =>
            obtain ⟨σ6, H6, S6, q6⟩ := hsp
            exact gone S6 fun s7 J7 => ⟨_, _, J7, q6⟩
          | cont =>
            obtain ⟨σ6, H6, S6, q6⟩ := hsp
            exact gone S6 fun s7 J7 => ⟨_, _, J7, q6⟩
        | false =>
          show wpAny _ X.A (handleBy (.ref a) X.env hds2) _ _ _
          exact ih (hno rfl)
    exact go hh w
  · cases f with
    | ret u =>
      obtain ⟨v, σ', H', J', r, q⟩ := hsp
      exact ⟨v, σ', H', J'.ofTry ok, r, q⟩
    | next =>
      obtain ⟨σ', H', J', q⟩ := hsp
      exact wpAny_execs_nil ⟨σ', H', J'.ofTry ok, q⟩
    | brk =>
      obtain ⟨σ', H', J', q⟩ := hsp
      exact ⟨σ', H', J'.ofTry ok, q⟩
    | cont =>
      obtain ⟨σ', H', J', q⟩ := hsp
      exact ⟨σ', H', J'.ofTry ok, q⟩
end
theorem takesN0 {X : Cx} : L2N.Takes X (fun _ _ _ _ => False) := fun _ _ ⟨_, _, _, _, _, _, _, _, _, _, _, _, _, _, _, _, w⟩ => w.elim
/-- the suite of a clause is a place where an exception is handled -/
theorem hot_of {X : Cx} {a : Addr} {oe : Obj} {cls : Value} {d : Option Addr} {pn : List (Addr × Obj)} (hz : L2N.Zn cls d oe) (hf : ∃ vs, oe.data = .fields vs) : L2H.HotC (X.suite a ((a, oe) :: pn)) := by
  obtain ⟨vs, e⟩ := hf
  exact ⟨(a, oe), ⟨rfl, vs, e, hz.2.2 vs e⟩, List.mem_cons_self⟩
/-! ### raising, in a def that lets refusals out -/
section
variable {P : Program} {w : World} {K : PySem.W.Frag} {mg : Str → Option Value} {base : Heap} {N : List Str} {qual : Str} {sc : Scope} {f : Addr} {cdv : Value} {A : Around} {outer : List Env} {s : Shared} {H : Hp} {E : XK}
theorem passO : PassesOwn (model P w) (cxOf (L2N.CX P w) P w K mg base N qual sc f cdv A outer s H E).A (cxOf (L2N.CX P w) P w K mg base N qual sc f cdv A outer s H E).env (cxOf (L2N.CX P w) P w K mg base N qual sc f cdv A outer s H E).xe := PassesOwn.leaving
theorem takesR : L2N.Takes (cxOf (L2N.CX P w) P w K mg base N qual sc f cdv A outer s H E) (fun cls d _ H' => E cls d H') := L2N.takes_of rfl rfl rfl rfl
theorem ps_rz {x : Str} {C : Addr} {a : Expr} {ta : TA} {p pos pos2 : Pos} {k : Nat} (T : ExT K mg x C) (hr : Room k (cxOf (L2N.CX P w) P w K mg base N qual sc f cdv A outer s H E).A) (ha : PA (cxOf (L2N.CX P w) P w K mg base N qual sc f cdv A outer s H E) [a] ta) (hg : Gl (cxOf (L2N.CX P w) P w K mg base N qual sc f cdv A outer s H E) x := by rfl) (hdb : (x == ("__debug__" : Str)) = false := by decide)
    (he : starEach (a :: []) (cxOf (L2N.CX P w) P w K mg base N qual sc f cdv A outer s H E).env = (false, eval a (cxOf (L2N.CX P w) P w K mg base N qual sc f cdv A outer s H E).env) :: starEach [] (cxOf (L2N.CX P w) P w K mg base N qual sc f cdv A outer s H E).env := by rfl) (hpl : (backTo pos (starEach [] (cxOf (L2N.CX P w) P w K mg base N qual sc f cdv A outer s H E).env)).any (·.1) = false := by rfl) :
    PS (cxOf (L2N.CX P w) P w K mg base N qual sc f cdv A outer s H E) (.Raise (some (.Call (.Name x p) [a] [] pos)) none pos2) (tRzX C (fun cls d _ H' => E cls d H') ta) := ps_rzW rfl T hr takesR ha hg hdb he hpl
end
end Ov
set_option maxHeartbeats 2000000
/-! X3: what is owed where a call may be refused; what holds of every volume. -/
namespace Ov
open PySem PySem.Spec PyProof.Rows L2
open R7237f.Spec (Plain Units Item Cell Lock Replay Op Way Volume Err Res andThen require typeErr rangeErr itemOf)
/-- signs below 128 alone -/
def asc (x : Str) : Bool := x.cps.all (· < 128)
def clsOf (K : PySem.W.Frag) : R7237f.Spec.Cls → Addr
  | .typeError => He.ga K "WrongKind"
  | .rangeError => He.ga K "OutOfRange"
  | .syntaxError => He.ga K "Malformed"
structure TxtX (K : PySem.W.Frag) (mg : Str → Option Value) : Prop extends Txt K mg where
  x_WrongKind : ExT K mg "WrongKind" (He.ga K "WrongKind")
  x_OutOfRange : ExT K mg "OutOfRange" (He.ga K "OutOfRange")
  g_Malformed : mg "Malformed" = some (.ref (He.ga K "Malformed"))
  g_Refusal : mg "Refusal" = some (.ref (He.ga K "Refusal"))
  e_WM : PySem.W.exmOne K (.ref (He.ga K "WrongKind")) (.ref (He.ga K "Malformed")) = some false
  e_OM : PySem.W.exmOne K (.ref (He.ga K "OutOfRange")) (.ref (He.ga K "Malformed")) = some false
  e_WW : PySem.W.exmOne K (.ref (He.ga K "WrongKind")) (.ref (He.ga K "WrongKind")) = some true
  e_OW : PySem.W.exmOne K (.ref (He.ga K "OutOfRange")) (.ref (He.ga K "WrongKind")) = some false
  e_OO : PySem.W.exmOne K (.ref (He.ga K "OutOfRange")) (.ref (He.ga K "OutOfRange")) = some true
  e_WR : PySem.W.exmOne K (.ref (He.ga K "WrongKind")) (.ref (He.ga K "Refusal")) = some true
  e_OR : PySem.W.exmOne K (.ref (He.ga K "OutOfRange")) (.ref (He.ga K "Refusal")) = some true
/-- a refusal is raised, laid by this call at most -/
def Rai (K : PySem.W.Frag) (G H : Hp) (e : Err) (E : XK) : Prop := ∀ G' H' d (x : Str), Ext G H G' H' → G' d = some (.xd [("words", .str x)]) → unitsOf x = e.msg → narrow16 x = true → asc x = true → x.cps.size ≤ 1000 → e.cls ≠ .syntaxError → E (.ref (clsOf K e.cls)) (some d) H'
/-- what comes of a check or a deed -/
def RC (K : PySem.W.Frag) (G H : Hp) {α : Type} (r : Res α) (ok : α → Prop) (E : XK) : Prop := match r with
  | .ok a => ok a
  | .error e => Rai K G H e E
section
variable {K : PySem.W.Frag} {G H G1 H1 : Hp} {α β : Type} {x : Res α} {f : α → Res β} {ok : α → Prop} {E : XK}
theorem Rai.ext {e : Err} (r : Rai K G H e E) (s : Ext G H G1 H1) : Rai K G1 H1 e E := fun G' H' d y e' => r G' H' d y (s.trans e')
theorem RC.ext (r : RC K G H x ok E) (s : Ext G H G1 H1) : RC K G1 H1 x ok E := by
  cases x with
  | ok a => exact r
  | error e => exact Rai.ext r s
theorem RC.then {ok : β → Prop} (r : RC K G H (andThen x f) ok E) : RC K G H x (fun a => RC K G H (f a) ok E) E := by
  cases x with
  | ok a => exact r
  | error e => exact r
theorem RC.mono {ok' : α → Prop} (r : RC K G H x ok E) (m : ∀ a, x = .ok a → ok a → ok' a) : RC K G H x ok' E := by
  cases x with
  | ok a => exact m a rfl r
  | error e => exact r
/-- a message that the program writes is the document's -/
def msgOk (m : String) : Bool := decide (unitsOf (Str.ofString m) = R7237f.Spec.units m) && (narrow16 (Str.ofString m) && (asc (Str.ofString m) && Nat.ble (Str.ofString m).cps.size 1000))
theorem Rai.mk {e : Err} {m : String} (s : Same G H) (r : Rai K G H e E) (he : e.msg = R7237f.Spec.units m) (hm : msgOk m = true) (hc : e.cls ≠ .syntaxError) : ∃ v, [V.str (Str.ofString m)] = [v] ∧ ∀ d, H d = none → E (.ref (clsOf K e.cls)) (some d) (upd H d (.xd [(("words" : Str), v)])) := by
  unfold msgOk at hm
  rw [Bool.and_eq_true, Bool.and_eq_true, Bool.and_eq_true] at hm
  refine ⟨_, rfl, fun d hd => r _ _ d (Str.ofString m) ((ExtF.refl s).imm hd) upd_same ?_ hm.2.1 hm.2.2.1 (Nat.le_of_ble_eq_true hm.2.2.2) hc⟩
  rw [he]
  exact of_decide_eq_true hm.1
theorem RC.wrong {m : String} (s : Same G H) (r : Rai K G H (typeErr m) E) (hm : msgOk m = true) : ∃ v, [V.str (Str.ofString m)] = [v] ∧ ∀ d, H d = none → E (.ref (He.ga K "WrongKind")) (some d) (upd H d (.xd [(("words" : Str), v)])) := Rai.mk s r rfl hm (fun z => by cases z)
theorem RC.range {m : String} (s : Same G H) (r : Rai K G H (rangeErr m) E) (hm : msgOk m = true) : ∃ v, [V.str (Str.ofString m)] = [v] ∧ ∀ d, H d = none → E (.ref (He.ga K "OutOfRange")) (some d) (upd H d (.xd [(("words" : Str), v)])) := Rai.mk s r rfl hm (fun z => by cases z)
theorem RC.no {c : Bool} {e : Err} {ok : Unit → Prop} (r : RC K G H (require c e) ok E) (hc : c = false) : Rai K G H e E := by
  rw [hc] at r
  exact r
theorem RC.yes {c : Bool} {e : Err} {ok : Unit → Prop} (r : RC K G H (require c e) ok E) (hc : c = true) : ok () := by
  rw [hc] at r
  exact r
end
theorem req_ok {c : Bool} {e : Err} {u : Unit} (h : require c e = .ok u) : c = true := by
  cases c with
  | true => rfl
  | false => cases h
/-- what holds of a volume that came by at most c deeds -/
structure VOk (c : Nat) (v : Volume) : Prop where
  nn : v.nodes.length ≤ 8
  bl : v.disk.length ≤ 16
  apart : v.locks.Pairwise fun a b => ¬ (a.node = b.node ∧ a.block = b.block)
  tx : ∀ o ∈ v.ops, ∀ t e, o.way = .log t e → 0 < t
  tx0 : 0 < v.nextTx
  blk : ∀ o ∈ v.ops, ∀ x ∈ wItems o.way, x.block < v.disk.length
  few : ∀ o ∈ v.ops, 1 ≤ (wItems o.way).length ∧ (wItems o.way).length ≤ 8
  cblk : ∀ x ∈ v.nodes, ∀ y ∈ x.cache, y.block < v.disk.length
  held : ∀ i x, v.nodes[i]? = some x → x.running = true → ∀ l ∈ v.locks, l.node = i + 1 → itemOf x.cache l.block ≠ none
  free : ∀ i x, v.nodes[i]? = some x → x.freed = true → x.running = false ∧ ∀ l ∈ v.locks, l.node ≠ i + 1
  out : ∀ x ∈ v.nodes, x.out = true → x.running = false
  ids : ∀ o ∈ v.ops, 1 ≤ o.id ∧ o.id < v.nextOp
  nop : 1 ≤ v.nextOp ∧ v.nextOp ≤ c + 1
  opn : ∀ o ∈ v.ops, 1 ≤ o.node ∧ o.node ≤ v.nodes.length
  zl : v.locks.length ≤ c
  zo : v.ops.length ≤ c
  zc : v.committed.length ≤ c
  zn : ∀ x ∈ v.nodes, x.cache.length ≤ c ∧ x.journal.length ≤ 41 * c
/-- .. by so few that everything has room -/
def VGood (v : Volume) : Prop := ∃ c, c ≤ 10000 ∧ VOk c v
section
variable {v : Volume}
theorem VGood.nn (h : VGood v) : v.nodes.length ≤ 8 := h.elim fun _ z => z.2.nn
theorem VGood.bl (h : VGood v) : v.disk.length ≤ 16 := h.elim fun _ z => z.2.bl
theorem VGood.zl (h : VGood v) : v.locks.length ≤ 1000000 := by
  obtain ⟨c, hc, z⟩ := h
  have := z.zl
  omega
theorem VGood.zo (h : VGood v) : v.ops.length ≤ 1000000 := by
  obtain ⟨c, hc, z⟩ := h
  have := z.zo
  omega
theorem VGood.zc (h : VGood v) : v.committed.length ≤ 1000000 := by
  obtain ⟨c, hc, z⟩ := h
  have := z.zc
  omega
theorem node_mem {n : Nat} (h1 : 1 ≤ n) (h2 : n ≤ v.nodes.length) : v.node n ∈ v.nodes := List.mem_of_getElem? (node_get h1 h2)
theorem VGood.zn (h : VGood v) {x : R7237f.Spec.Node} (m : x ∈ v.nodes) : x.cache.length ≤ 10000 ∧ x.journal.length ≤ 410000 := by
  obtain ⟨c, hc, z⟩ := h
  have := z.zn x m
  omega
theorem VGood.few (h : VGood v) : ∀ o ∈ v.ops, (wItems o.way).length ≤ 1000 := fun o m => by
  obtain ⟨c, hc, z⟩ := h
  have := z.few o m
  omega
theorem any_eq {α : Type} {p q : α → Bool} : ∀ {l : List α}, (∀ a ∈ l, p a = q a) → l.any p = l.any q
  | [], _ => rfl
  | a :: r, h => by
    rw [List.any_cons, List.any_cons, h a List.mem_cons_self, any_eq fun b m => h b (List.mem_cons_of_mem _ m)]
theorem logs_eq (h : VGood v) (n : Nat) : logsOf v n = v.logs n := by
  unfold logsOf Volume.logs
  refine List.filter_congr fun o m => ?_
  obtain ⟨c, hc, z⟩ := h
  cases e : o.way with
  | log t l =>
    have := z.tx o m t l e
    show (o.node == n && decide (0 < t)) = (o.node == n && true)
    rw [decide_eq_true this]
  | home y => rfl
theorem logging_eq (h : VGood v) (n b : Nat) : ((logsOf v n).any fun o => R7237f.Spec.hasBlock b (wItems o.way)) = v.logging n b := by
  rw [logs_eq h]
  unfold Volume.logs Volume.logging
  rw [List.any_filter]
  congr 1
  funext o
  cases e : o.way with
  | log t l =>
    show ((o.node == n && true) && _) = _
    rw [Bool.and_true]
    rfl
  | home y =>
    show ((o.node == n && false) && _) = (o.node == n && false)
    rw [Bool.and_false, Bool.false_and]
theorem homing_eq (h : VGood v) (n b : Nat) : chUnder v n b = v.homing n b := by
  unfold chUnder Volume.homing
  obtain ⟨c, hc, z⟩ := h
  refine any_eq fun o m => ?_
  cases e : o.way with
  | log t l =>
    have := z.tx o m t l e
    have t0 : (wTx (.log t l) == 0) = false := beq_eq_false_iff_ne.mpr (by show t ≠ 0; omega)
    rw [t0, Bool.and_false, Bool.false_and]
  | home y =>
    show ((o.node == n && true) && (y.block == b || false)) = (o.node == n && (y.block == b))
    rw [Bool.and_true, Bool.or_false]
theorem holds_eq (n b : Nat) : (lockNo (lockOf v n b) == 0) = !(v.holds n b) := by
  unfold lockOf Volume.holds
  cases e : v.locks.find? fun l => l.node == n && l.block == b with
  | none =>
    rw [List.find?_eq_none] at e
    have : (v.locks.any fun l => l.node == n && l.block == b) = false := by
      rw [List.any_eq_false]
      exact e
    rw [this]
    rfl
  | some l =>
    have h1 := List.find?_some e
    have h2 := List.mem_of_find?_eq_some e
    have : (v.locks.any fun l => l.node == n && l.block == b) = true := List.any_eq_true.mpr ⟨l, h2, h1⟩
    rw [this]
    unfold lockNo
    cases ha : l.alone <;> simp [ha]
/-- the lock that is found, if there is one on the block by the node, is the only one -/
theorem alone_eq (h : VGood v) (n b : Nat) : (lockNo (lockOf v n b) == 2) = v.holdsAlone n b := by
  obtain ⟨c, _, z⟩ := h
  have ap := z.apart
  unfold lockOf Volume.holdsAlone
  generalize v.locks = ls at ap
  induction ls with
  | nil => rfl
  | cons l r ih =>
    rw [List.pairwise_cons] at ap
    rw [List.find?_cons, List.any_cons]
    cases e : (l.node == n && l.block == b) with
    | false =>
      rw [Bool.false_and, Bool.false_or]
      exact ih ap.2
    | true =>
      have hr : (r.any fun l => (l.node == n && l.block == b) && l.alone) = false := by
        rw [List.any_eq_false]
        intro m hm hc
        rw [Bool.and_eq_true, Bool.and_eq_true, beq_iff_eq, beq_iff_eq] at hc
        rw [Bool.and_eq_true, beq_iff_eq, beq_iff_eq] at e
        exact ap.1 m hm ⟨e.1.trans hc.1.1.symm, e.2.trans hc.1.2.symm⟩
      rw [hr, Bool.true_and, Bool.or_false]
      show (lockNo (some l) == 2) = l.alone
      unfold lockNo
      cases ha : l.alone <;> simp [ha]
end
end Ov
set_option maxHeartbeats 2000000
/-! V6: the checks. -/
namespace Ov
open PySem PySem.Spec PyProof.Rows L2
open R7237f.Spec (Plain Units Item Cell Lock Replay Op Way Volume Err Res andThen require typeErr rangeErr itemOf integerIn nodeArg blockArg aNode upNode aBlock held heldAlone still roomForOp)
theorem inR_yes {a b : Nat} {p : Plain} {n : Nat} (h : integerIn a b p = some n) : p = .num (some (n : Int)) ∧ a ≤ n ∧ n ≤ b := by
  cases p with
  | num x =>
    cases x with
    | none => cases h
    | some i =>
      have h' : (if Int.ofNat a ≤ i ∧ i ≤ Int.ofNat b then some i.toNat else none) = some n := h
      by_cases c : Int.ofNat a ≤ i ∧ i ≤ Int.ofNat b
      · rw [if_pos c] at h'
        have c1 : (a : Int) ≤ i := c.1
        have c2 : i ≤ (b : Int) := c.2
        have e := Option.some.inj h'
        have e2 : i = (n : Int) := by omega
        exact ⟨by rw [e2], by omega, by omega⟩
      · rw [if_neg c] at h'
        cases h'
  | _ => cases h
theorem inR_no {a b : Nat} {p : Plain} (h : integerIn a b p = none) : inR p a b = false := by
  cases p with
  | num x =>
    cases x with
    | none => rfl
    | some i =>
      have h' : (if Int.ofNat a ≤ i ∧ i ≤ Int.ofNat b then some i.toNat else none) = none := h
      by_cases c : Int.ofNat a ≤ i ∧ i ≤ Int.ofNat b
      · rw [if_pos c] at h'
        cases h'
      · show (decide ((a : Int) ≤ i) && decide (i ≤ (b : Int))) = false
        by_cases c1 : (a : Int) ≤ i
        · have c2 : ¬ i ≤ (b : Int) := fun z => c ⟨c1, z⟩
          rw [decide_eq_false c2, Bool.and_false]
        · rw [decide_eq_false c1, Bool.false_and]
  | _ => rfl
theorem inR_num (n : Nat) (a b : Int) : inR (.num (some (n : Int))) a b = (decide (a ≤ (n : Int)) && decide ((n : Int) ≤ b)) := rfl
/-- of a smaller range nothing that the greater one has not -/
theorem inR_less {p : Plain} {a b c : Int} (h : inR p a b = false) (hc : c ≤ b) : inR p a c = false := by
  cases p with
  | num x =>
    cases x with
    | none => rfl
    | some i =>
      have h' : (decide (a ≤ i) && decide (i ≤ b)) = false := h
      show (decide (a ≤ i) && decide (i ≤ c)) = false
      by_cases c1 : a ≤ i
      · rw [decide_eq_true c1, Bool.true_and] at h' ⊢
        have := of_decide_eq_false h'
        exact decide_eq_false (by omega)
      · rw [decide_eq_false c1, Bool.false_and]
  | _ => rfl
theorem node_in {v : Volume} (hn : v.nodes.length ≤ 8) (p : Plain) : inR p 1 (v.nodes.length : Int) = v.isNode (nodeArg p) := by
  unfold nodeArg
  cases h : integerIn 1 R7237f.Spec.maxNodes p with
  | some n =>
    obtain ⟨rfl, h1, h2⟩ := inR_yes h
    show (decide ((1 : Int) ≤ (n : Int)) && decide ((n : Int) ≤ (v.nodes.length : Int))) = (decide (1 ≤ n) && decide (n ≤ v.nodes.length))
    congr 1 <;> exact decide_eq_decide.mpr (by omega)
  | none => exact inR_less (inR_no h) (by show (v.nodes.length : Int) ≤ ((8 : Nat) : Int); omega)
theorem node_is {v : Volume} {p : Plain} (h : v.isNode (nodeArg p) = true) : p = .num (some (nodeArg p : Int)) := by
  unfold nodeArg at h ⊢
  cases q : integerIn 1 R7237f.Spec.maxNodes p with
  | some n => exact (inR_yes q).1
  | none =>
    rw [q] at h
    cases h
theorem isNode_b {v : Volume} {n : Nat} (h : v.isNode n = true) : 1 ≤ n ∧ n ≤ v.nodes.length := by
  unfold Volume.isNode at h
  rw [Bool.and_eq_true] at h
  exact ⟨of_decide_eq_true h.1, of_decide_eq_true h.2⟩
theorem block_in {v : Volume} (hn : v.disk.length ≤ 16) (p : Plain) : inR p 0 ((v.disk.length : Int) - 1) = decide (blockArg p < v.blocks) := by
  unfold blockArg
  cases h : integerIn 0 15 p with
  | some n =>
    obtain ⟨rfl, h1, h2⟩ := inR_yes h
    show (decide ((0 : Int) ≤ (n : Int)) && decide ((n : Int) ≤ (v.disk.length : Int) - 1)) = decide (n < v.disk.length)
    rw [decide_eq_true (by omega), Bool.true_and]
    exact decide_eq_decide.mpr (by omega)
  | none =>
    have e : inR p 0 ((v.disk.length : Int) - 1) = false := inR_less (inR_no h) (by show (v.disk.length : Int) - 1 ≤ ((15 : Nat) : Int); omega)
    rw [e]
    exact (decide_eq_false (show ¬ 16 < v.disk.length by omega)).symm
theorem block_is {v : Volume} (hn : v.disk.length ≤ 16) {p : Plain} (h : blockArg p < v.blocks) : p = .num (some (blockArg p : Int)) := by
  unfold blockArg at h ⊢
  cases q : integerIn 0 15 p with
  | some n => exact (inR_yes q).1
  | none =>
    rw [q] at h
    have h' : 16 < v.disk.length := h
    omega
theorem AtV.num {G : Hp} {i : Int} {v : V} (h : AtV G (.num (some i)) v) : ∃ a, v = .ref a ∧ G a = some (.tup [.int 4, .int i]) := by
  obtain ⟨a, j, e, ex, h⟩ := h
  cases ex
  exact ⟨a, e, h⟩
theorem aNode_ok {v : Volume} {n : Nat} {u : Unit} (h : aNode v n = .ok u) : 1 ≤ n ∧ n ≤ v.nodes.length := isNode_b (req_ok h)
theorem upNode_ok {v : Volume} {n : Nat} {u : Unit} (h : upNode v n = .ok u) : (1 ≤ n ∧ n ≤ v.nodes.length) ∧ (v.node n).running = true := by
  unfold upNode at h
  cases q : aNode v n with
  | error e =>
    rw [q] at h
    cases h
  | ok u =>
    rw [q] at h
    exact ⟨aNode_ok q, req_ok h⟩
theorem aBlock_ok {v : Volume} {b : Nat} {u : Unit} (h : aBlock v b = .ok u) : b < v.disk.length := of_decide_eq_true (req_ok h)
section
variable {P : Program} {w : World} {K : PySem.W.Frag} {mg : Str → Option Value} {base : Heap}
abbrev s_node_number : Stmt := top 54
theorem sc_node_number : FnScope ["volume", "value"] ["volume", "value"] (defScope s_node_number) := ⟨rfl, rfl, rfl, by decide +kernel, rfl, by decide +kernel, by decide +kernel⟩
theorem bd_node_number : Bd "node_number" "node_number" s_node_number ["volume", "value"] := fun _ _ _ _ _ _ us hl => match us, hl with | [_, _], _ => rfl
abbrev s_running_node : Stmt := top 55
theorem sc_running_node : FnScope ["volume", "value", "node"] ["volume", "value"] (defScope s_running_node) := ⟨rfl, rfl, rfl, by decide +kernel, rfl, by decide +kernel, by decide +kernel⟩
theorem bd_running_node : Bd "running_node" "running_node" s_running_node ["volume", "value"] := fun _ _ _ _ _ _ us hl => match us, hl with | [_, _], _ => rfl
abbrev s_block_number : Stmt := top 56
theorem sc_block_number : FnScope ["volume", "value"] ["volume", "value"] (defScope s_block_number) := ⟨rfl, rfl, rfl, by decide +kernel, rfl, by decide +kernel, by decide +kernel⟩
theorem bd_block_number : Bd "block_number" "block_number" s_block_number ["volume", "value"] := fun _ _ _ _ _ _ us hl => match us, hl with | [_, _], _ => rfl
abbrev s_need_held : Stmt := top 57
theorem sc_need_held : FnScope ["volume", "node", "block"] ["volume", "node", "block"] (defScope s_need_held) := ⟨rfl, rfl, rfl, by decide +kernel, rfl, by decide +kernel, by decide +kernel⟩
theorem bd_need_held : Bd "need_held" "need_held" s_need_held ["volume", "node", "block"] := fun _ _ _ _ _ _ us hl => match us, hl with | [_, _, _], _ => rfl
abbrev s_need_alone : Stmt := top 58
theorem sc_need_alone : FnScope ["volume", "node", "block"] ["volume", "node", "block"] (defScope s_need_alone) := ⟨rfl, rfl, rfl, by decide +kernel, rfl, by decide +kernel, by decide +kernel⟩
theorem bd_need_alone : Bd "need_alone" "need_alone" s_need_alone ["volume", "node", "block"] := fun _ _ _ _ _ _ us hl => match us, hl with | [_, _, _], _ => rfl
abbrev s_need_still : Stmt := top 59
theorem sc_need_still : FnScope ["volume", "node", "block"] ["volume", "node", "block"] (defScope s_need_still) := ⟨rfl, rfl, rfl, by decide +kernel, rfl, by decide +kernel, by decide +kernel⟩
theorem bd_need_still : Bd "need_still" "need_still" s_need_still ["volume", "node", "block"] := fun _ _ _ _ _ _ us hl => match us, hl with | [_, _, _], _ => rfl
abbrev s_need_room : Stmt := top 60
theorem sc_need_room : FnScope ["volume"] ["volume"] (defScope s_need_room) := ⟨rfl, rfl, rfl, by decide +kernel, rfl, by decide +kernel, by decide +kernel⟩
theorem bd_need_room : Bd "need_room" "need_room" s_need_room ["volume"] := fun _ _ _ _ _ _ us hl => match us, hl with | [_], _ => rfl
def fNodeNumber (K : PySem.W.Frag) : V → V → Hp → VK → XK → Prop := fun a b H Q E => ∃ G L v p, a = .ref L.self ∧ AtV G p b ∧ v.nodes.length ≤ 8 ∧ VolAt K G H L v ∧ RC K G H (aNode v (nodeArg p)) (fun _ => Q (.int (nodeArg p : Int)) H) E
theorem d_node_number (T : TxtX K mg) (D_is_integer : DefOk P w K mg base CX0 1 "is_integer" ["value", "low", "high"] (Sp3 fIsInteger)) (F : Fs K mg "node_number" s_node_number) : DefOk P w K mg base (L2N.CX P w) 2 "node_number" ["volume", "value"] (Sp2 (fNodeNumber K)) :=
  def_R F sc_node_number bd_node_number fun f cdv A outer s H vs Q E hr h => by
    obtain ⟨_, _, rfl, G, L, v, p, rfl, hp, hn, h, q⟩ := h
    refine ⟨_, (pss_cons (ps_if (pt_not (pt_val (pe_d D_is_integer (hr.mono (by decide)) pass0 (pa_cons (pv 1) (pa_cons pe_int (pa_cons (pe_callB call_len_seq (by rfl) T.z_len PySem.boot_len (pa_cons (pe_fld (pv 0) rfl) pa_nil)) pa_nil)))))) (pss_one (ps_rz T.x_WrongKind hr (pa_cons pe_str pa_nil))) pss_nil) (pss_one (ps_ret (pe_ix ix_tup (pv 1) pe_int (fun _ _ => rfl))))), ?_⟩
    refine ⟨_, rfl, _, rfl, _, _, _, _, _, rfl, h.obj, T.c_Volume, T.n_Volume _ mm4, rfl, _, _, rfl, .inl (SqL.of (h.sub _ _ h.nodes)), ?_⟩
    rw [List.length_map, List.length_range]
    refine ⟨_, _, _, rfl, G, p, 1, (v.nodes.length : Int), rfl, rfl, h.sub, hp, _, rfl, ?_⟩
    rw [node_in hn]
    cases c : v.isNode (nodeArg p) with
    | false => exact iteT (RC.wrong h.sub (q.no c) (by kernel_rfl))
    | true =>
      have hp' := hp
      rw [node_is c] at hp'
      obtain ⟨a, rfl, ha⟩ := hp'.num
      exact iteF ⟨_, rfl, a, _, _, _, rfl, rfl, SqT.of (h.sub _ _ ha), rfl, q.yes c⟩
def fRunningNode (K : PySem.W.Frag) : V → V → Hp → VK → XK → Prop := fun a b H Q E => ∃ G L v p, a = .ref L.self ∧ AtV G p b ∧ v.nodes.length ≤ 8 ∧ VolAt K G H L v ∧ RC K G H (upNode v (nodeArg p)) (fun _ => Q (.int (nodeArg p : Int)) H) E
theorem d_running_node (T : TxtX K mg) (D_Volume_node_at : MetOk P w K mg base CX0 1 (cVol K) "node_at" ["self", "node"] (Sp2 (fNodeAt K))) (D_node_number : DefOk P w K mg base (L2N.CX P w) 2 "node_number" ["volume", "value"] (Sp2 (fNodeNumber K))) (F : Fs K mg "running_node" s_running_node) : DefOk P w K mg base (L2N.CX P w) 3 "running_node" ["volume", "value"] (Sp2 (fRunningNode K)) :=
  def_R F sc_running_node bd_running_node fun f cdv A outer s H vs Q E hr h => by
    obtain ⟨_, _, rfl, G, L, v, p, rfl, hp, hn, h, q⟩ := h
    refine ⟨_, (pss_cons (ps_set (i := 2) sc_running_node.nd rfl (Or.inl rfl) (pe_d D_node_number (hr.mono (by decide)) passR (pa_cons (pv 0) (pa_cons (pv 1) pa_nil)))) (pss_cons (ps_if (pt_not (pt_val (pe_fld (pe_m T.c_Volume D_Volume_node_at (hr.mono (by decide)) pass0 (pv 0) (pa_cons (pv 2) pa_nil)) rfl))) (pss_one (ps_rz T.x_OutOfRange hr (pa_cons pe_str pa_nil))) pss_nil) (pss_one (ps_ret (pv 2))))), ?_⟩
    refine ⟨_, rfl, _, rfl, _, _, rfl, G, L, v, p, rfl, hp, hn, h, q.then.mono fun u hu q => ?_⟩
    obtain ⟨h1, h2⟩ := aNode_ok hu
    have hx := h.node _ _ (node_get h1 h2)
    refine ⟨_, rfl, _, _, _, rfl, h.obj, rfl, _, rfl, _, _, rfl, G, L, v, nodeArg p, rfl, rfl, h1, h2, h, _, _, _, _, _, rfl, hx.obj, T.c_Node, T.n_Node _ mm0, rfl, _, rfl, ?_⟩
    cases c : (v.node (nodeArg p)).running with
    | false => exact iteT (RC.range h.sub (q.no c) (by kernel_rfl))
    | true => exact iteF ⟨_, rfl, q.yes c⟩
def fBlockNumber (K : PySem.W.Frag) : V → V → Hp → VK → XK → Prop := fun a b H Q E => ∃ G L v p, a = .ref L.self ∧ AtV G p b ∧ v.disk.length ≤ 16 ∧ VolAt K G H L v ∧ RC K G H (aBlock v (blockArg p)) (fun _ => Q (.int (blockArg p : Int)) H) E
theorem d_block_number (T : TxtX K mg) (D_is_integer : DefOk P w K mg base CX0 1 "is_integer" ["value", "low", "high"] (Sp3 fIsInteger)) (F : Fs K mg "block_number" s_block_number) : DefOk P w K mg base (L2N.CX P w) 2 "block_number" ["volume", "value"] (Sp2 (fBlockNumber K)) :=
  def_R F sc_block_number bd_block_number fun f cdv A outer s H vs Q E hr h => by
    obtain ⟨_, _, rfl, G, L, v, p, rfl, hp, hn, h, q⟩ := h
    refine ⟨_, (pss_cons (ps_if (pt_not (pt_val (pe_d D_is_integer (hr.mono (by decide)) pass0 (pa_cons (pv 1) (pa_cons pe_int (pa_cons (pe_op op_sub (pe_fld (pv 0) rfl) pe_int) pa_nil)))))) (pss_one (ps_rz T.x_WrongKind hr (pa_cons pe_str pa_nil))) pss_nil) (pss_one (ps_ret (pe_ix ix_tup (pv 1) pe_int (fun _ _ => rfl))))), ?_⟩
    refine ⟨_, rfl, _, rfl, _, _, _, _, _, rfl, h.obj, T.c_Volume, T.n_Volume _ mm0, rfl, _, _, rfl, rfl, ?_⟩
    refine ⟨_, _, _, rfl, G, p, 0, (v.disk.length : Int) - 1, rfl, rfl, h.sub, hp, _, rfl, ?_⟩
    rw [block_in hn]
    by_cases c : blockArg p < v.blocks
    · rw [decide_eq_true c]
      have hp' := hp
      rw [block_is hn c] at hp'
      obtain ⟨a, rfl, ha⟩ := hp'.num
      exact iteF ⟨_, rfl, a, _, _, _, rfl, rfl, SqT.of (h.sub _ _ ha), rfl, q.yes (decide_eq_true c)⟩
    · rw [decide_eq_false c]
      exact iteT (RC.wrong h.sub (q.no (decide_eq_false c)) (by kernel_rfl))
def fNeedHeld (K : PySem.W.Frag) : V → V → V → Hp → VK → XK → Prop := fun a b c H Q E => ∃ G L v, ∃ n k : Nat, a = .ref L.self ∧ b = .int (n : Int) ∧ c = .int (k : Int) ∧ VolAt K G H L v ∧ RC K G H (held v n k) (fun _ => Q .non H) E
theorem d_need_held (T : TxtX K mg) (D_lock_of : DefOk P w K mg base CX0 1 "lock_of" ["volume", "node", "block"] (Sp3 (fLockOf K))) (F : Fs K mg "need_held" s_need_held) : DefOk P w K mg base (L2N.CX P w) 2 "need_held" ["volume", "node", "block"] (Sp3 (fNeedHeld K)) :=
  def_R F sc_need_held bd_need_held fun f cdv A outer s H vs Q E hr h => by
    obtain ⟨_, _, _, rfl, G, L, v, n, k, rfl, rfl, rfl, h, q⟩ := h
    refine ⟨_, (pss_one (ps_if (pt_cmpR op_eq (pe_d D_lock_of (hr.mono (by decide)) pass0 (pa_cons (pv 0) (pa_cons (pv 1) (pa_cons (pv 2) pa_nil)))) pe_int (nomark _)) (pss_one (ps_rz T.x_OutOfRange hr (pa_cons pe_str pa_nil))) pss_nil)), ?_⟩
    refine ⟨_, rfl, _, rfl, _, rfl, _, _, _, rfl, G, L, v, n, k, rfl, rfl, rfl, h, rfl, _, rfl, ?_⟩
    have e := dI (a := lockNo (lockOf v n k)) (b := 0)
    rw [holds_eq] at e
    rw [show (V.int 0) = V.int ((0 : Nat) : Int) from rfl, e]
    cases c : v.holds n k with
    | false => exact iteT (RC.range h.sub (q.no c) (by kernel_rfl))
    | true => exact iteF (q.yes c)
def fNeedAlone (K : PySem.W.Frag) : V → V → V → Hp → VK → XK → Prop := fun a b c H Q E => ∃ G L v, ∃ n k : Nat, a = .ref L.self ∧ b = .int (n : Int) ∧ c = .int (k : Int) ∧ VGood v ∧ VolAt K G H L v ∧ RC K G H (heldAlone v n k) (fun _ => Q .non H) E
theorem d_need_alone (T : TxtX K mg) (D_lock_of : DefOk P w K mg base CX0 1 "lock_of" ["volume", "node", "block"] (Sp3 (fLockOf K))) (F : Fs K mg "need_alone" s_need_alone) : DefOk P w K mg base (L2N.CX P w) 2 "need_alone" ["volume", "node", "block"] (Sp3 (fNeedAlone K)) :=
  def_R F sc_need_alone bd_need_alone fun f cdv A outer s H vs Q E hr h => by
    obtain ⟨_, _, _, rfl, G, L, v, n, k, rfl, rfl, rfl, hg, h, q⟩ := h
    refine ⟨_, (pss_one (ps_if (pt_cmpR op_ne (pe_d D_lock_of (hr.mono (by decide)) pass0 (pa_cons (pv 0) (pa_cons (pv 1) (pa_cons (pv 2) pa_nil)))) pe_int (nomark _)) (pss_one (ps_rz T.x_OutOfRange hr (pa_cons pe_str pa_nil))) pss_nil)), ?_⟩
    refine ⟨_, rfl, _, rfl, _, rfl, _, _, _, rfl, G, L, v, n, k, rfl, rfl, rfl, h, rfl, _, rfl, ?_⟩
    have e := dI (a := lockNo (lockOf v n k)) (b := 2)
    rw [alone_eq hg] at e
    rw [show (V.int 2) = V.int ((2 : Nat) : Int) from rfl, e]
    cases c : v.holdsAlone n k with
    | false => exact iteT (RC.range h.sub (q.no c) (by kernel_rfl))
    | true => exact iteF (q.yes c)
def fNeedStill (K : PySem.W.Frag) : V → V → V → Hp → VK → XK → Prop := fun a b c H Q E => ∃ G L v, ∃ n k : Nat, a = .ref L.self ∧ b = .int (n : Int) ∧ c = .int (k : Int) ∧ VGood v ∧ VolAt K G H L v ∧ RC K G H (still v n k) (fun _ => RetV G H .non Q) E
theorem d_need_still (T : TxtX K mg) (D_transaction_under_way : DefOk P w K mg base CX0 2 "transaction_under_way" ["volume", "node", "block"] (Sp3 (fTxUnder K))) (F : Fs K mg "need_still" s_need_still) : DefOk P w K mg base (L2N.CX P w) 3 "need_still" ["volume", "node", "block"] (Sp3 (fNeedStill K)) :=
  def_R F sc_need_still bd_need_still fun f cdv A outer s H vs Q E hr h => by
    obtain ⟨_, _, _, rfl, G, L, v, n, k, rfl, rfl, rfl, hg, h, q⟩ := h
    refine ⟨_, (pss_one (ps_if (pt_val (pe_d D_transaction_under_way (hr.mono (by decide)) pass0 (pa_cons (pv 0) (pa_cons (pv 1) (pa_cons (pv 2) pa_nil))))) (pss_one (ps_rz T.x_OutOfRange hr (pa_cons pe_str pa_nil))) pss_nil)), ?_⟩
    refine ⟨_, rfl, _, rfl, _, rfl, _, _, _, rfl, G, L, v, n, k, rfl, rfl, rfl, hg.zo, hg.few, h, fun G1 H1 e1 => ⟨_, rfl, ?_⟩⟩
    rw [logging_eq hg]
    cases c : v.logging n k with
    | true => exact iteT (RC.range e1.sub ((q.no (by rw [c]; rfl)).ext e1) (by kernel_rfl))
    | false => exact iteF (q.yes (by rw [c]; rfl) _ _ e1)
def fNeedRoom (K : PySem.W.Frag) : V → Hp → VK → XK → Prop := fun a H Q E => ∃ G L v, a = .ref L.self ∧ VolAt K G H L v ∧ RC K G H (roomForOp v) (fun _ => Q .non H) E
theorem d_need_room (T : TxtX K mg) (F : Fs K mg "need_room" s_need_room) : DefOk P w K mg base (L2N.CX P w) 2 "need_room" ["volume"] (Sp1 (fNeedRoom K)) := DefOk.mono (def_R F sc_need_room bd_need_room (k := 0) fun f cdv A outer s H vs Q E hr h => by
    obtain ⟨_, rfl, G, L, v, rfl, h, q⟩ := h
    obtain ⟨ls, hl, pl⟩ := h.writes
    refine ⟨_, (pss_one (ps_if (pt_cmpR op_ge (pe_callB call_len_seq (by rfl) T.z_len PySem.boot_len (pa_cons (pe_fld (pv 0) rfl) pa_nil)) pe_int (nomark _)) (pss_one (ps_rz T.x_OutOfRange hr (pa_cons pe_str pa_nil))) pss_nil)), ?_⟩
    refine ⟨_, rfl, _, _, _, _, _, rfl, h.obj, T.c_Volume, T.n_Volume _ mm6, rfl, _, _, rfl, .inl (SqL.of hl), _, _, rfl, rfl, _, rfl, ?_⟩
    have z := Pd.len pl
    by_cases c : v.ops.length < R7237f.Spec.maxOps
    · have c' : v.ops.length < 100 := c
      rw [decide_eq_false (by omega : ¬ (ls.length : Int) ≥ 100)]
      exact iteF (q.yes (decide_eq_true c))
    · have c' : ¬ v.ops.length < 100 := c
      rw [decide_eq_true (by omega : (ls.length : Int) ≥ 100)]
      exact iteT (RC.range h.sub (q.no (decide_eq_false c)) (by kernel_rfl))) (by decide)
end
end Ov
set_option maxHeartbeats 2000000
/-! V7: locking. -/
namespace Ov
open PySem PySem.Spec PyProof.Rows L2
open R7237f.Spec (Plain Units Item Cell Lock Replay Op Way Volume Err Res andThen require typeErr rangeErr itemOf integerIn nodeArg blockArg aNode upNode aBlock held heldAlone still roomForOp boolArg doLock doUnlock readOf isFlushed mayShare Told toldPlain)
/-- t and u: both are asked, if t holds; u may lay things -/
theorem tAnd_of {t u : TT} {σ : St} {G H : Hp} {Q : Bool → Hp → Prop} (c d : Bool) (s : Same G H) (h1 : ∀ Q' : Bool → Hp → Prop, Q' c H → t σ H Q') (h2 : ∀ Q' : Bool → Hp → Prop, (∀ G' H', Ext G H G' H' → Q' d H') → u σ H Q') (q : ∀ G' H', Ext G H G' H' → Q (c && d) H') : tAnd t u σ H Q := by
  refine h1 _ ?_
  cases c with
  | true => exact iteT (h2 _ q)
  | false => exact iteF (q _ _ (ExtF.refl s))
theorem tSeq_if {c : TT} {t e u : TS} {D : Ends} {σ : St} {H : Hp} (h : c σ H fun b H1 => if b = true then t { D with nx := u D } σ H1 else e { D with nx := u D } σ H1) : tSeq (tIfS c t e) u D σ H := h
def withLock (v : Volume) (l : Lock) : Volume := { v with locks := v.locks ++ [l] }
def sansLock (v : Volume) (n b : Nat) : Volume := { v with locks := v.locks.filter fun l => !(l.node == n && l.block == b) }
/-- what a deed owes its caller -/
def Door (K : PySem.W.Frag) (G H : Hp) (L : VA) (r : Res (Volume × Told)) (Q : VK) (E : XK) : Prop := RC K G H r (fun ut => ∀ G' H' L' x, Step L G H L' G' H' → VolAt K G' H' L' ut.1 → AtV G' (toldPlain ut.2) x → Q x H') E
theorem bool_no {p : Plain} (h : isB p = false) : boolArg p = .error (typeErr "alone must be a boolean") := by
  cases p <;> first | rfl | cases h
theorem bool_yes {p : Plain} (h : isB p = true) : ∃ b, p = .bool b := by
  cases p <;> first | exact ⟨_, rfl⟩ | cases h
theorem AtV.bool {G : Hp} {b : Bool} {v : V} (h : AtV G (.bool b) v) : ∃ a, v = .ref a ∧ G a = some (.tup [.int (if b then 3 else 2), .int 0]) := h
def against (v : Volume) (n b : Nat) (al : Bool) : Bool := v.locks.any fun l => (!(l.node == n) && l.block == b) && (al || l.alone)
theorem against_eq {v : Volume} {n b : Nat} (al : Bool) (h : v.holds n b = false) : against v n b al = !(v.locks.all fun l => !(l.block == b) || mayShare al l) := by
  unfold against
  unfold Volume.holds at h
  rw [List.any_eq_false] at h
  rw [List.not_all_eq_any_not]
  refine any_eq fun l m => ?_
  have h1 := h l m
  unfold mayShare
  cases c : (l.block == b) with
  | false => simp
  | true =>
    rw [c, Bool.and_true] at h1
    have h2 : (l.node == n) = false := by simpa using h1
    rw [h2]
    cases al <;> cases l.alone <;> rfl
theorem cell_at {v : Volume} {b : Nat} (h : b < v.disk.length) : v.disk[b]? = some (v.cell b) := by
  unfold Volume.cell
  rw [List.getD_eq_getElem?_getD, List.getElem?_eq_getElem h]
  rfl
/-- the cell of a block, read off the disk's list -/
theorem VolAt.cellAt {K : PySem.W.Frag} {G H : Hp} {L : VA} {v : Volume} (h : VolAt K G H L v) {b : Nat} (hb : b < v.disk.length) : ∃ ds t, H L.disk = some (.lst ds) ∧ atI ds (b : Int) = some (.ref t) ∧ G t = some (.tup [.int ((v.cell b).version : Int), .int ((v.cell b).value : Int)]) := by
  obtain ⟨ds, hd, pd⟩ := h.disk
  obtain ⟨y, hy, t, rfl, ht⟩ := Pd.get' pd (cell_at hb)
  exact ⟨ds, t, hd, atI_nat hy, ht⟩
section
variable {P : Program} {w : World} {K : PySem.W.Frag} {mg : Str → Option Value} {base : Heap}
abbrev s_is_held_against : Stmt := top 62
theorem sc_is_held_against : FnScope ["volume", "node", "block", "alone", "owner", "place", "other_alone"] ["volume", "node", "block", "alone"] (defScope s_is_held_against) := ⟨rfl, rfl, rfl, by decide +kernel, rfl, by decide +kernel, by decide +kernel⟩
theorem bd_is_held_against : Bd "is_held_against" "is_held_against" s_is_held_against ["volume", "node", "block", "alone"] := fun _ _ _ _ _ _ us hl => match us, hl with | [_, _, _, _], _ => rfl
abbrev s_lock_block : Stmt := top 63
theorem sc_lock_block : FnScope ["volume", "node_value", "block_value", "alone_value", "alone", "node", "block", "version", "octet"] ["volume", "node_value", "block_value", "alone_value"] (defScope s_lock_block) := ⟨rfl, rfl, rfl, by decide +kernel, rfl, by decide +kernel, by decide +kernel⟩
theorem bd_lock_block : Bd "lock_block" "lock_block" s_lock_block ["volume", "node_value", "block_value", "alone_value"] := fun _ _ _ _ _ _ us hl => match us, hl with | [_, _, _, _], _ => rfl
abbrev s_is_flushed : Stmt := top 64
theorem sc_is_flushed : FnScope ["volume", "node", "block"] ["volume", "node", "block"] (defScope s_is_flushed) := ⟨rfl, rfl, rfl, by decide +kernel, rfl, by decide +kernel, by decide +kernel⟩
theorem bd_is_flushed : Bd "is_flushed" "is_flushed" s_is_flushed ["volume", "node", "block"] := fun _ _ _ _ _ _ us hl => match us, hl with | [_, _, _], _ => rfl
abbrev s_unlock_block : Stmt := top 65
theorem sc_unlock_block : FnScope ["volume", "node_value", "block_value", "node", "block"] ["volume", "node_value", "block_value"] (defScope s_unlock_block) := ⟨rfl, rfl, rfl, by decide +kernel, rfl, by decide +kernel, by decide +kernel⟩
theorem bd_unlock_block : Bd "unlock_block" "unlock_block" s_unlock_block ["volume", "node_value", "block_value"] := fun _ _ _ _ _ _ us hl => match us, hl with | [_, _, _], _ => rfl
abbrev s_read_block : Stmt := top 66
theorem sc_read_block : FnScope ["volume", "node_value", "block_value", "node", "block"] ["volume", "node_value", "block_value"] (defScope s_read_block) := ⟨rfl, rfl, rfl, by decide +kernel, rfl, by decide +kernel, by decide +kernel⟩
theorem bd_read_block : Bd "read_block" "read_block" s_read_block ["volume", "node_value", "block_value"] := fun _ _ _ _ _ _ us hl => match us, hl with | [_, _, _], _ => rfl
def fAgainst (K : PySem.W.Frag) : V → V → V → V → Hp → VK → XK → Prop := fun a b c d H Q _ => ∃ G L v, ∃ (n k : Nat) (al : Bool), a = .ref L.self ∧ b = .int (n : Int) ∧ c = .int (k : Int) ∧ d = .bl al ∧ VolAt K G H L v ∧ Q (.bl (against v n k al)) H
theorem d_is_held_against (T : TxtX K mg) (F : Fs K mg "is_held_against" s_is_held_against) : DefOk P w K mg base CX0 1 "is_held_against" ["volume", "node", "block", "alone"] (Sp4 (fAgainst K)) :=
  def_C F sc_is_held_against bd_is_held_against fun f cdv A outer s H vs Q E hr h => by
    obtain ⟨_, _, _, _, rfl, G, L, v, n, k, al, rfl, rfl, rfl, rfl, h, q⟩ := h
    obtain ⟨ls, hl, pl⟩ := h.locks
    refine ⟨_, (pss_cons (ps_for PassesOwn.never rfl (pi_list (pe_fld (pv 0) rfl)) (pg_tup rfl (pgs_cons (pg_name (i := 4) sc_is_held_against.nd rfl (Or.inl rfl)) (pgs_cons (pg_name (i := 5) sc_is_held_against.nd rfl (Or.inl rfl)) (pgs_cons (pg_name (i := 6) sc_is_held_against.nd rfl (Or.inl rfl)) pgs_nil)))) (pss_one (ps_if (PW.pt (pw_and (pt_cmpR op_ne (pv 4) (pv 1) (nomark _)) (pw_and (pt_cmpR op_eq (pv 5) (pv 2) (nomark _)) (pw_and1 (PW.pt (pw_or (pt_val (pv 3)) (pw_or1 (pt_val (pv 6))))))))) (pss_one (ps_ret pe_bl)) pss_nil))) (pss_one (ps_ret pe_bl))), ?_⟩
    refine ⟨_, rfl, _, _, _, _, _, rfl, h.obj, T.c_Volume, T.n_Volume _ mm5, rfl, _, rfl, ⟨_, SqL.of hl⟩, for_run (K := K) (a := L.locks) (xs := ls)
      (fun r σ H' => H' = H ∧ (∃ x4 x5 x6, σ = [some (.ref L.self), some (.int (n : Int)), some (.int (k : Int)), some (.bl al), x4, x5, x6]) ∧ ∃ rest, Paired (LockAt G) rest r ∧ against v n k al = rest.any fun l => (!(l.node == n) && l.block == k) && (al || l.alone)) ⟨rfl, ⟨_, _, _, rfl⟩, _, pl, rfl⟩ ?_ ?_ ?_⟩
    · rintro r σ H' ⟨rfl, _⟩
      exact SqL.of hl
    · rintro t r σ H' ⟨rfl, ⟨x4, x5, x6, rfl⟩, rest, pr, ef⟩
      cases pr with
      | cons hm pr =>
      rename_i m rest
      obtain ⟨a, rfl, ha⟩ := hm
      rw [List.any_cons] at ef
      refine ⟨a, _, rfl, SqT.of (h.sub _ _ ha), rfl, _, _, rfl, _, _, rfl, _, _, rfl, rfl, _, rfl, _, rfl, rfl, _, rfl, ?_⟩
      rw [dI]
      cases c : (m.node == n) with
      | true =>
        rw [c] at ef
        exact iteF (iteF ⟨rfl, ⟨_, _, _, rfl⟩, rest, pr, ef⟩)
      | false =>
        refine iteT ⟨_, rfl, _, rfl, rfl, _, rfl, ?_⟩
        rw [dI]
        cases c2 : (m.block == k) with
        | false =>
          rw [c2, Bool.and_false, Bool.false_and] at ef
          exact iteF (iteF ⟨rfl, ⟨_, _, _, rfl⟩, rest, pr, ef⟩)
        | true =>
          rw [c, c2] at ef
          refine iteT ⟨_, rfl, _, rfl, ?_⟩
          cases c3 : al with
          | true =>
            rw [c3] at ef q
            rw [ef] at q
            exact iteT (iteT q)
          | false =>
            rw [c3] at ef q
            refine iteF ⟨_, rfl, _, rfl, ?_⟩
            cases c4 : m.alone with
            | true =>
              rw [c4] at ef
              rw [ef] at q
              exact iteT q
            | false =>
              rw [c4] at ef
              exact iteF ⟨rfl, ⟨_, _, _, rfl⟩, rest, pr, ef⟩
    · rintro σ H' ⟨rfl, ⟨x4, x5, x6, rfl⟩, rest, pr, ef⟩
      cases pr
      rw [ef] at q
      exact q
def fLockBlock (K : PySem.W.Frag) : V → V → V → V → Hp → VK → XK → Prop := fun a b c d H Q E => ∃ G L v p1 p2 p3, a = .ref L.self ∧ AtV G p1 b ∧ AtV G p2 c ∧ AtV G p3 d ∧ VGood v ∧ VolAt K G H L v ∧ Door K G H L (andThen (boolArg p3) fun al => doLock v (nodeArg p1) (blockArg p2) al) Q E
theorem d_lock_block (T : TxtX K mg) (D_is_boolean : DefOk P w K mg base CX0 1 "is_boolean" ["value"] (Sp1 fIsBoolean)) (D_running_node : DefOk P w K mg base (L2N.CX P w) 3 "running_node" ["volume", "value"] (Sp2 (fRunningNode K))) (D_block_number : DefOk P w K mg base (L2N.CX P w) 2 "block_number" ["volume", "value"] (Sp2 (fBlockNumber K)))
    (D_lock_of : DefOk P w K mg base CX0 1 "lock_of" ["volume", "node", "block"] (Sp3 (fLockOf K))) (D_is_held_against : DefOk P w K mg base CX0 1 "is_held_against" ["volume", "node", "block", "alone"] (Sp4 (fAgainst K)))
    (D_Volume_give_lock : MetOk P w K mg base CX0 1 (cVol K) "give_lock" ["self", "node", "block", "alone"] (Sp4 (fGiveLock K))) (D_Volume_node_at : MetOk P w K mg base CX0 1 (cVol K) "node_at" ["self", "node"] (Sp2 (fNodeAt K))) (D_Node_keep : MetOk P w K mg base CX0 1 (cNode K) "keep" ["self", "change"] (Sp2 (fKeep K)))
    (D_nothing : DefOk P w K mg base CX0 1 "nothing" [] (Sp0 fNothing)) (F : Fs K mg "lock_block" s_lock_block) : DefOk P w K mg base (L2N.CX P w) 4 "lock_block" ["volume", "node_value", "block_value", "alone_value"] (Sp4 (fLockBlock K)) :=
  def_R F sc_lock_block bd_lock_block fun f cdv A outer s H vs Q E hr h => by
    obtain ⟨_, _, _, _, rfl, G, L, v, p1, p2, p3, rfl, a1, a2, a3, hg, h, q⟩ := h
    refine ⟨_, (pss_cons (ps_if (pt_not (pt_val (pe_d D_is_boolean (hr.mono (by decide)) pass0 (pa_cons (pv 3) pa_nil)))) (pss_one (ps_rz T.x_WrongKind hr (pa_cons pe_str pa_nil))) pss_nil) (pss_cons (ps_set (i := 4) sc_lock_block.nd rfl (Or.inl rfl) (pe_cmpR op_eq (pe_ix ix_tup (pv 3) pe_int (fun _ _ => rfl)) (pe_gi T.i_TRUE) (nomark _))) (pss_cons (ps_set (i := 5) sc_lock_block.nd rfl (Or.inl rfl) (pe_d D_running_node (hr.mono (by decide)) passR (pa_cons (pv 0) (pa_cons (pv 1) pa_nil)))) (pss_cons (ps_set (i := 6) sc_lock_block.nd rfl (Or.inl rfl) (pe_d D_block_number (hr.mono (by decide)) passR (pa_cons (pv 0) (pa_cons (pv 2) pa_nil)))) (pss_cons (ps_if (pt_cmpR op_ne (pe_d D_lock_of (hr.mono (by decide)) pass0 (pa_cons (pv 0) (pa_cons (pv 5) (pa_cons (pv 6) pa_nil)))) pe_int (nomark _)) (pss_one (ps_rz T.x_OutOfRange hr (pa_cons pe_str pa_nil))) pss_nil) (pss_cons (ps_if (pt_val (pe_d D_is_held_against (hr.mono (by decide)) pass0 (pa_cons (pv 0) (pa_cons (pv 5) (pa_cons (pv 6) (pa_cons (pv 4) pa_nil)))))) (pss_one (ps_rz T.x_OutOfRange hr (pa_cons pe_str pa_nil))) pss_nil) (pss_cons (ps_expr (pe_m T.c_Volume D_Volume_give_lock (hr.mono (by decide)) pass0 (pv 0) (pa_cons (pv 5) (pa_cons (pv 6) (pa_cons (pv 4) pa_nil))))) (pss_cons (ps_asg (pe_ix ix_list (pe_fld (pv 0) rfl) (pv 6) (fun _ _ => rfl)) (pg_tup rfl (pgs_cons (pg_name (i := 7) sc_lock_block.nd rfl (Or.inl rfl)) (pgs_cons (pg_name (i := 8) sc_lock_block.nd rfl (Or.inl rfl)) pgs_nil)))) (pss_cons (ps_expr (pe_m T.c_Node D_Node_keep (hr.mono (by decide)) pass0 (pe_m T.c_Volume D_Volume_node_at (hr.mono (by decide)) pass0 (pv 0) (pa_cons (pv 5) pa_nil)) (pa_cons (pe_tup (pa_cons (pv 6) (pa_cons (pv 7) (pa_cons (pv 8) pa_nil)))) pa_nil))) (pss_one (ps_ret (pe_d0 D_nothing (hr.mono (by decide)) pass0)))))))))))), ?_⟩
    refine ⟨_, rfl, _, rfl, G, p3, h.sub, a3, _, rfl, ?_⟩
    cases c : isB p3 with
    | false =>
      rw [bool_no c] at q
      exact iteT (RC.wrong h.sub q (by kernel_rfl))
    | true =>
    obtain ⟨al, rfl⟩ := bool_yes c
    have q : Door K G H L (doLock v (nodeArg p1) (blockArg p2) al) Q E := q
    obtain ⟨a, rfl, ha⟩ := a3.bool
    refine iteF ⟨_, rfl, a, _, _, _, rfl, rfl, SqT.of (h.sub _ _ ha), rfl, rfl, ?_⟩
    have ea : decide (V.int (if al then 3 else 2) = V.int 3) = al := by cases al <;> rfl
    rw [ea]
    refine ⟨_, rfl, _, rfl, _, _, rfl, G, L, v, p1, rfl, a1, hg.nn, h, (RC.then q).mono fun u hu q => ?_⟩
    obtain ⟨⟨n1, n2⟩, hrun⟩ := upNode_ok hu
    refine ⟨_, rfl, _, rfl, _, _, rfl, G, L, v, p2, rfl, a2, hg.bl, h, q.then.mono fun u hu q => ?_⟩
    have hb := aBlock_ok hu
    refine ⟨_, rfl, _, rfl, _, rfl, _, _, _, rfl, G, L, v, nodeArg p1, blockArg p2, rfl, rfl, rfl, h, rfl, _, rfl, ?_⟩
    have e0 := dI (a := lockNo (lockOf v (nodeArg p1) (blockArg p2))) (b := 0)
    rw [holds_eq] at e0
    rw [show (V.int 0) = V.int ((0 : Nat) : Int) from rfl, e0]
    cases c1 : v.holds (nodeArg p1) (blockArg p2) with
    | true => exact iteT (RC.range h.sub (q.then.no (by rw [c1]; rfl)) (by kernel_rfl))
    | false =>
    have q := q.then.yes (by rw [c1]; rfl)
    refine iteF ⟨_, rfl, _, rfl, _, rfl, _, rfl, _, _, _, _, rfl, G, L, v, nodeArg p1, blockArg p2, al, rfl, rfl, rfl, rfl, h, _, rfl, ?_⟩
    rw [against_eq al c1]
    cases c2 : (v.locks.all fun l => !(l.block == blockArg p2) || mayShare al l) with
    | false => exact iteT (RC.range h.sub (q.then.no c2) (by kernel_rfl))
    | true =>
    have q := q.then.yes c2
    refine iteF ⟨_, rfl, _, _, _, rfl, h.obj, rfl, _, rfl, _, rfl, _, rfl, _, _, _, _, rfl, G, L, v, ⟨nodeArg p1, blockArg p2, al⟩, rfl, rfl, rfl, rfl, h, hg.zl, fun G1 H1 L1 s1 v1 => ?_⟩
    rw [← s1.self]
    have v1 : VolAt K G1 H1 L1 (withLock v ⟨nodeArg p1, blockArg p2, al⟩) := v1
    obtain ⟨ds, t, hd, hat, ht⟩ := v1.cellAt (b := blockArg p2) hb
    refine ⟨_, rfl, _, _, _, _, _, rfl, v1.obj, T.c_Volume, T.n_Volume _ mm2, rfl, _, rfl, _, _, _, _, rfl, rfl, SqL.of hd, hat, t, _, rfl, SqT.of (v1.sub _ _ ht), rfl, _, _, rfl, _, _, rfl, rfl, ?_⟩
    have hx := v1.node _ _ (node_get (v := withLock v ⟨nodeArg p1, blockArg p2, al⟩) n1 n2)
    refine ⟨_, rfl, _, _, _, rfl, v1.obj, rfl, _, rfl, _, _, rfl, G1, L1, withLock v ⟨nodeArg p1, blockArg p2, al⟩, nodeArg p1, rfl, rfl, n1, n2, v1, _, _, _, rfl, hx.obj, rfl, _, rfl, _, rfl, _, rfl, sz3, fun p hp => ?_⟩
    have e1 := (ExtF.refl (F := NoF) v1.sub).imm (o := .tup [.int (blockArg p2 : Int), .int ((v.cell (blockArg p2)).version : Int), .int ((v.cell (blockArg p2)).value : Int)]) hp
    have v2 := v1.ext e1
    refine ⟨_, _, rfl, _, L1, withLock v ⟨nodeArg p1, blockArg p2, al⟩, nodeArg p1 - 1, _, ⟨blockArg p2, (v.cell (blockArg p2)).version, (v.cell (blockArg p2)).value⟩, rfl, node_get (v := withLock v ⟨nodeArg p1, blockArg p2, al⟩) n1 n2, ⟨p, rfl, upd_same⟩, Nat.le_trans (hg.zn (node_mem n1 n2)).1 (by decide), v2, fun G3 H3 L3 s3 v3 => ?_⟩
    refine ⟨rfl, G3, v3.sub, fun G4 H4 x e4 hx => ?_⟩
    exact q G4 H4 L3 x (((s1.trans (Step.ext e1)).trans s3).trans (Step.ext e4)) (v3.ext e4) hx
/-- the program's word for flushed -/
def flushedP (v : Volume) (n b : Nat) : Bool := if v.homing n b then false else (cachedOf (v.node n) b).version == (v.cell b).version
def fIsFlushed (K : PySem.W.Frag) : V → V → V → Hp → VK → XK → Prop := fun a b c H Q _ => ∃ G L v, ∃ n k : Nat, a = .ref L.self ∧ b = .int (n : Int) ∧ c = .int (k : Int) ∧ 1 ≤ n ∧ n ≤ v.nodes.length ∧ k < v.disk.length ∧ VGood v ∧ VolAt K G H L v ∧ RetV G H (.bl (flushedP v n k)) Q
theorem d_is_flushed (T : TxtX K mg) (D_change_under_way : DefOk P w K mg base CX0 2 "change_under_way" ["volume", "node", "block"] (Sp3 (fChUnder K))) (D_cached : DefOk P w K mg base CX0 2 "cached" ["volume", "node", "block"] (Sp3 (fCached K))) (F : Fs K mg "is_flushed" s_is_flushed) : DefOk P w K mg base CX0 3 "is_flushed" ["volume", "node", "block"] (Sp3 (fIsFlushed K)) :=
  def_C F sc_is_flushed bd_is_flushed fun f cdv A outer s H vs Q E hr h => by
    obtain ⟨_, _, _, rfl, G, L, v, n, k, rfl, rfl, rfl, n1, n2, hk, hg, h, q⟩ := h
    refine ⟨_, (pss_cons (ps_if (pt_val (pe_d D_change_under_way (hr.mono (by decide)) pass0 (pa_cons (pv 0) (pa_cons (pv 1) (pa_cons (pv 2) pa_nil))))) (pss_one (ps_ret pe_bl)) pss_nil) (pss_one (ps_ret (pe_cmpR op_eq (pe_ix ix_tup (pe_d D_cached (hr.mono (by decide)) pass0 (pa_cons (pv 0) (pa_cons (pv 1) (pa_cons (pv 2) pa_nil)))) pe_int (fun _ _ => rfl)) (pe_ix ix_tup (pe_ix ix_list (pe_fld (pv 0) rfl) (pv 2) (fun _ _ => rfl)) pe_int (fun _ _ => rfl)) (nomark _))))), ?_⟩
    refine ⟨_, rfl, _, rfl, _, rfl, _, _, _, rfl, G, L, v, n, k, rfl, rfl, rfl, hg.few, h, fun G1 H1 e1 => ⟨_, rfl, ?_⟩⟩
    rw [homing_eq hg]
    unfold flushedP at q
    cases c : v.homing n k with
    | true =>
      rw [c] at q
      exact iteT (q _ _ e1)
    | false =>
      rw [c] at q
      refine iteF ⟨_, rfl, _, rfl, _, rfl, _, _, _, rfl, G1, L, v, n, k, rfl, rfl, rfl, n1, n2, h.ext e1, fun G2 H2 y e2 ⟨t, ey, ht⟩ => ?_⟩
      subst ey
      have h2 := (h.ext e1).ext e2
      obtain ⟨ds, u, hd, hat, hu⟩ := h2.cellAt hk
      refine ⟨t, _, _, _, rfl, rfl, SqT.of (h2.sub _ _ ht), rfl, _, rfl, _, _, _, _, _, rfl, h2.obj, T.c_Volume, T.n_Volume _ mm2, rfl, _, rfl, _, _, _, _, rfl, rfl, SqL.of hd, hat, u, _, _, _, rfl, rfl, SqT.of (h2.sub _ _ hu), rfl, rfl, ?_⟩
      rw [dI]
      exact q _ _ (e1.trans e2)
theorem flushed_eq {v : Volume} {n b : Nat} (hg : VGood v) (n1 : 1 ≤ n) (n2 : n ≤ v.nodes.length) (hr : (v.node n).running = true) (hh : v.holds n b = true) : flushedP v n b = isFlushed v n b := by
  obtain ⟨c, _, z⟩ := hg
  unfold Volume.holds at hh
  obtain ⟨l, hl, hc⟩ := List.any_eq_true.mp hh
  rw [Bool.and_eq_true, beq_iff_eq, beq_iff_eq] at hc
  have h1 := z.held _ _ (node_get n1 n2) hr l hl (by omega)
  rw [hc.2] at h1
  unfold flushedP isFlushed cachedOf
  cases e : itemOf (v.node n).cache b with
  | none => exact absurd e h1
  | some x => cases v.homing n b <;> rfl
def fUnlockBlock (K : PySem.W.Frag) : V → V → V → Hp → VK → XK → Prop := fun a b c H Q E => ∃ G L v p1 p2, a = .ref L.self ∧ AtV G p1 b ∧ AtV G p2 c ∧ VGood v ∧ VolAt K G H L v ∧ Door K G H L (doUnlock v (nodeArg p1) (blockArg p2)) Q E
theorem d_unlock_block (T : TxtX K mg) (D_running_node : DefOk P w K mg base (L2N.CX P w) 3 "running_node" ["volume", "value"] (Sp2 (fRunningNode K))) (D_block_number : DefOk P w K mg base (L2N.CX P w) 2 "block_number" ["volume", "value"] (Sp2 (fBlockNumber K)))
    (D_need_held : DefOk P w K mg base (L2N.CX P w) 2 "need_held" ["volume", "node", "block"] (Sp3 (fNeedHeld K))) (D_need_still : DefOk P w K mg base (L2N.CX P w) 3 "need_still" ["volume", "node", "block"] (Sp3 (fNeedStill K))) (D_is_flushed : DefOk P w K mg base CX0 3 "is_flushed" ["volume", "node", "block"] (Sp3 (fIsFlushed K)))
    (D_Volume_drop_lock : MetOk P w K mg base CX0 1 (cVol K) "drop_lock" ["self", "node", "block"] (Sp3 (fDropLock K))) (D_Volume_node_at : MetOk P w K mg base CX0 1 (cVol K) "node_at" ["self", "node"] (Sp2 (fNodeAt K))) (D_Node_leave : MetOk P w K mg base CX0 1 (cNode K) "leave" ["self", "block"] (Sp2 (fLeave K)))
    (D_nothing : DefOk P w K mg base CX0 1 "nothing" [] (Sp0 fNothing)) (F : Fs K mg "unlock_block" s_unlock_block) : DefOk P w K mg base (L2N.CX P w) 4 "unlock_block" ["volume", "node_value", "block_value"] (Sp3 (fUnlockBlock K)) :=
  def_R F sc_unlock_block bd_unlock_block fun f cdv A outer s H vs Q E hr h => by
    obtain ⟨_, _, _, rfl, G, L, v, p1, p2, rfl, a1, a2, hg, h, q⟩ := h
    refine ⟨_, (pss_cons (ps_set (i := 3) sc_unlock_block.nd rfl (Or.inl rfl) (pe_d D_running_node (hr.mono (by decide)) passR (pa_cons (pv 0) (pa_cons (pv 1) pa_nil)))) (pss_cons (ps_set (i := 4) sc_unlock_block.nd rfl (Or.inl rfl) (pe_d D_block_number (hr.mono (by decide)) passR (pa_cons (pv 0) (pa_cons (pv 2) pa_nil)))) (pss_cons (ps_expr (pe_d D_need_held (hr.mono (by decide)) passR (pa_cons (pv 0) (pa_cons (pv 3) (pa_cons (pv 4) pa_nil))))) (pss_cons (ps_expr (pe_d D_need_still (hr.mono (by decide)) passR (pa_cons (pv 0) (pa_cons (pv 3) (pa_cons (pv 4) pa_nil))))) (pss_cons (ps_if (PW.pt (pw_and (pt_val (pe_ix ix_tup (pe_fld (pv 0) rfl) (pe_gi T.i_FLUSH) (fun _ _ => rfl))) (pw_and1 (pt_not (pt_val (pe_d D_is_flushed (hr.mono (by decide)) pass0 (pa_cons (pv 0) (pa_cons (pv 3) (pa_cons (pv 4) pa_nil))))))))) (pss_one (ps_rz T.x_OutOfRange hr (pa_cons pe_str pa_nil))) pss_nil) (pss_cons (ps_expr (pe_m T.c_Volume D_Volume_drop_lock (hr.mono (by decide)) pass0 (pv 0) (pa_cons (pv 3) (pa_cons (pv 4) pa_nil)))) (pss_cons (ps_expr (pe_m T.c_Node D_Node_leave (hr.mono (by decide)) pass0 (pe_m T.c_Volume D_Volume_node_at (hr.mono (by decide)) pass0 (pv 0) (pa_cons (pv 3) pa_nil)) (pa_cons (pv 4) pa_nil))) (pss_one (ps_ret (pe_d0 D_nothing (hr.mono (by decide)) pass0)))))))))), ?_⟩
    refine ⟨_, rfl, _, rfl, _, _, rfl, G, L, v, p1, rfl, a1, hg.nn, h, (RC.then q).mono fun u hu q => ?_⟩
    obtain ⟨⟨n1, n2⟩, hrun⟩ := upNode_ok hu
    refine ⟨_, rfl, _, rfl, _, _, rfl, G, L, v, p2, rfl, a2, hg.bl, h, q.then.mono fun u hu q => ?_⟩
    have hb := aBlock_ok hu
    refine ⟨_, rfl, _, rfl, _, rfl, _, _, _, rfl, G, L, v, nodeArg p1, blockArg p2, rfl, rfl, rfl, h, q.then.mono fun u hu q => ?_⟩
    have hh := req_ok hu
    refine ⟨_, rfl, _, rfl, _, rfl, _, _, _, rfl, G, L, v, nodeArg p1, blockArg p2, rfl, rfl, rfl, hg, h, q.then.mono fun u hu q G1 H1 e1 => ?_⟩
    have h1 := h.ext e1
    have q := RC.ext q e1
    have fe := flushed_eq hg n1 n2 hrun hh
    dsimp only
    refine tSeq_if ?_
    refine tAnd_of (G := G1) v.rules.flush (!flushedP v (nodeArg p1) (blockArg p2)) h1.sub (fun Q' k => ⟨_, rfl, _, _, _, _, _, rfl, h1.obj, T.c_Volume, T.n_Volume _ mm1, rfl, _, _, _, _, rfl, rfl, SqT.of (h1.sub _ _ h1.rules), rfl, _, rfl, k⟩)
      (fun Q' k => ⟨_, rfl, _, rfl, _, rfl, _, _, _, rfl, G1, L, v, nodeArg p1, blockArg p2, rfl, rfl, rfl, n1, n2, hb, hg, h1, fun G2 H2 e2 => ⟨_, rfl, k _ _ e2⟩⟩) fun G2 H2 e2 => ?_
    rw [fe]
    have h2 := h1.ext e2
    have q := RC.ext q e2
    have ec : (v.rules.flush && !isFlushed v (nodeArg p1) (blockArg p2)) = !(!v.rules.flush || isFlushed v (nodeArg p1) (blockArg p2)) := by cases v.rules.flush <;> cases isFlushed v (nodeArg p1) (blockArg p2) <;> rfl
    rw [ec]
    cases c : (!v.rules.flush || isFlushed v (nodeArg p1) (blockArg p2)) with
    | false => exact iteT (RC.range h2.sub (q.then.no c) (by kernel_rfl))
    | true =>
    have q := q.then.yes c
    refine iteF ⟨_, rfl, _, _, _, rfl, h2.obj, rfl, _, rfl, _, rfl, _, _, _, rfl, G2, L, v, nodeArg p1, blockArg p2, rfl, rfl, rfl, h2, hg.zl, fun G3 H3 L3 s3 v3 => ?_⟩
    rw [← s3.self]
    have v3 : VolAt K G3 H3 L3 (sansLock v (nodeArg p1) (blockArg p2)) := v3
    have hx := v3.node _ _ (node_get (v := sansLock v (nodeArg p1) (blockArg p2)) n1 n2)
    refine ⟨_, rfl, _, _, _, rfl, v3.obj, rfl, _, rfl, _, _, rfl, G3, L3, sansLock v (nodeArg p1) (blockArg p2), nodeArg p1, rfl, rfl, n1, n2, v3, _, _, _, rfl, hx.obj, rfl, _, rfl, _, _, rfl, G3, L3, sansLock v (nodeArg p1) (blockArg p2), nodeArg p1 - 1, _, blockArg p2, rfl, node_get (v := sansLock v (nodeArg p1) (blockArg p2)) n1 n2, rfl, Nat.le_trans (hg.zn (node_mem n1 n2)).1 (by decide), v3, fun G4 H4 L4 s4 v4 => ?_⟩
    refine ⟨rfl, G4, v4.sub, fun G5 H5 x e5 hx => ?_⟩
    exact q G5 H5 L4 x (((Step.ext (e1.trans e2)).trans s3).trans (s4.trans (Step.ext e5))) (v4.ext e5) hx
def fReadBlock (K : PySem.W.Frag) : V → V → V → Hp → VK → XK → Prop := fun a b c H Q E => ∃ G L v p1 p2, a = .ref L.self ∧ AtV G p1 b ∧ AtV G p2 c ∧ VGood v ∧ VolAt K G H L v ∧ RC K G H (readOf v (nodeArg p1) (blockArg p2)) (fun n => Ret G H (R7237f.Spec.nat n) Q) E
theorem d_read_block (T : TxtX K mg) (D_running_node : DefOk P w K mg base (L2N.CX P w) 3 "running_node" ["volume", "value"] (Sp2 (fRunningNode K))) (D_block_number : DefOk P w K mg base (L2N.CX P w) 2 "block_number" ["volume", "value"] (Sp2 (fBlockNumber K)))
    (D_need_held : DefOk P w K mg base (L2N.CX P w) 2 "need_held" ["volume", "node", "block"] (Sp3 (fNeedHeld K))) (D_need_still : DefOk P w K mg base (L2N.CX P w) 3 "need_still" ["volume", "node", "block"] (Sp3 (fNeedStill K))) (D_cached : DefOk P w K mg base CX0 2 "cached" ["volume", "node", "block"] (Sp3 (fCached K)))
    (D_integer : DefOk P w K mg base CX0 1 "integer" ["number"] (Sp1 fInteger)) (F : Fs K mg "read_block" s_read_block) : DefOk P w K mg base (L2N.CX P w) 4 "read_block" ["volume", "node_value", "block_value"] (Sp3 (fReadBlock K)) :=
  def_R F sc_read_block bd_read_block fun f cdv A outer s H vs Q E hr h => by
    obtain ⟨_, _, _, rfl, G, L, v, p1, p2, rfl, a1, a2, hg, h, q⟩ := h
    refine ⟨_, (pss_cons (ps_set (i := 3) sc_read_block.nd rfl (Or.inl rfl) (pe_d D_running_node (hr.mono (by decide)) passR (pa_cons (pv 0) (pa_cons (pv 1) pa_nil)))) (pss_cons (ps_set (i := 4) sc_read_block.nd rfl (Or.inl rfl) (pe_d D_block_number (hr.mono (by decide)) passR (pa_cons (pv 0) (pa_cons (pv 2) pa_nil)))) (pss_cons (ps_expr (pe_d D_need_held (hr.mono (by decide)) passR (pa_cons (pv 0) (pa_cons (pv 3) (pa_cons (pv 4) pa_nil))))) (pss_cons (ps_expr (pe_d D_need_still (hr.mono (by decide)) passR (pa_cons (pv 0) (pa_cons (pv 3) (pa_cons (pv 4) pa_nil))))) (pss_one (ps_ret (pe_d D_integer (hr.mono (by decide)) pass0 (pa_cons (pe_ix ix_tup (pe_d D_cached (hr.mono (by decide)) pass0 (pa_cons (pv 0) (pa_cons (pv 3) (pa_cons (pv 4) pa_nil)))) pe_int (fun _ _ => rfl)) pa_nil)))))))), ?_⟩
    refine ⟨_, rfl, _, rfl, _, _, rfl, G, L, v, p1, rfl, a1, hg.nn, h, (RC.then q).mono fun u hu q => ?_⟩
    obtain ⟨⟨n1, n2⟩, hrun⟩ := upNode_ok hu
    refine ⟨_, rfl, _, rfl, _, _, rfl, G, L, v, p2, rfl, a2, hg.bl, h, q.then.mono fun u hu q => ?_⟩
    refine ⟨_, rfl, _, rfl, _, rfl, _, _, _, rfl, G, L, v, nodeArg p1, blockArg p2, rfl, rfl, rfl, h, q.then.mono fun u hu q => ?_⟩
    refine ⟨_, rfl, _, rfl, _, rfl, _, _, _, rfl, G, L, v, nodeArg p1, blockArg p2, rfl, rfl, rfl, hg, h, q.then.mono fun u hu q G1 H1 e1 => ?_⟩
    refine ⟨_, rfl, _, rfl, _, rfl, _, _, _, rfl, G1, L, v, nodeArg p1, blockArg p2, rfl, rfl, rfl, n1, n2, h.ext e1, fun G2 H2 y e2 ⟨t, ey, ht⟩ => ?_⟩
    subst ey
    have h2 := (h.ext e1).ext e2
    refine ⟨t, _, _, _, rfl, rfl, SqT.of (h2.sub _ _ ht), rfl, _, rfl, G2, _, rfl, h2.sub, fun G3 H3 x e3 hx => ?_⟩
    refine q G3 H3 x ((e1.trans e2).trans e3) ?_
    have ev : ((itemOf (v.node (nodeArg p1)).cache (blockArg p2)).map (·.value)).getD 0 = (cachedOf (v.node (nodeArg p1)) (blockArg p2)).value := by
      unfold cachedOf
      cases itemOf (v.node (nodeArg p1)).cache (blockArg p2) <;> rfl
    rw [ev]
    exact hx
end
end Ov
set_option maxHeartbeats 2000000
/-! V8: writing, first part: the pairs. -/
namespace Ov
open PySem PySem.Spec PyProof.Rows L2
open R7237f.Spec (Plain Units Item Cell Lock Replay Op Way Volume Err Res andThen require typeErr rangeErr itemOf integerIn nodeArg blockArg changeArg changesArg changesOk noTwice changesOf setAll setItem pendingBytes)
def isPairP (v : Volume) (p : Plain) : Bool := match p with
  | .arr [a, b] => inR a 0 ((v.disk.length : Int) - 1) && inR b 0 255
  | _ => false
theorem pair_eq {v : Volume} (hn : v.disk.length ≤ 16) (p : Plain) : isPairP v p = (decide ((changeArg p).1 < v.blocks) && decide ((changeArg p).2 < 256)) := by
  have no : ((decide (16 < v.blocks)) && decide (256 < 256)) = false := by rw [Bool.and_comm]; rfl
  unfold isPairP
  match p with
  | .arr [a, b] =>
    show (inR a 0 ((v.disk.length : Int) - 1) && inR b 0 255) = (decide (blockArg a < v.blocks) && decide ((integerIn 0 255 b).getD 256 < 256))
    rw [block_in hn]
    congr 1
    cases h : integerIn 0 255 b with
    | some n =>
      obtain ⟨rfl, h1, h2⟩ := inR_yes h
      show (decide ((0 : Int) ≤ (n : Int)) && decide ((n : Int) ≤ 255)) = decide (n < 256)
      rw [decide_eq_true (by omega), Bool.true_and]
      exact decide_eq_decide.mpr (by omega)
    | none =>
      have := inR_no h
      exact this
  | .arr [] => exact no.symm
  | .arr [_] => exact no.symm
  | .arr (_ :: _ :: _ :: _) => exact no.symm
  | .undef => exact no.symm
  | .null => exact no.symm
  | .bool _ => exact no.symm
  | .num _ => exact no.symm
  | .str _ => exact no.symm
  | .obj _ => exact no.symm
  | .big _ => exact no.symm
theorem pair_is {v : Volume} (hn : v.disk.length ≤ 16) {p : Plain} (h : isPairP v p = true) : p = .arr [.num (some ((changeArg p).1 : Int)), .num (some ((changeArg p).2 : Int))] := by
  rw [pair_eq hn, Bool.and_eq_true] at h
  have h1 := of_decide_eq_true h.1
  have h2 := of_decide_eq_true h.2
  have no : ¬ 16 < v.blocks := by
    show ¬ 16 < v.disk.length
    omega
  match p, h1, h2 with
  | .arr [a, b], h1, h2 =>
    have h1' : blockArg a < v.blocks := h1
    have h2' : (integerIn 0 255 b).getD 256 < 256 := h2
    have e1 := block_is hn h1'
    have e2 : b = .num (some (((integerIn 0 255 b).getD 256 : Nat) : Int)) := by
      cases q : integerIn 0 255 b with
      | some n => exact (inR_yes q).1
      | none =>
        rw [q] at h2'
        exact absurd h2' (Nat.lt_irrefl _)
    show Plain.arr [a, b] = .arr [.num (some (blockArg a : Int)), .num (some (((integerIn 0 255 b).getD 256 : Nat) : Int))]
    rw [← e1, ← e2]
  | .arr [], h1, _ => exact absurd h1 no
  | .arr [_], h1, _ => exact absurd h1 no
  | .arr (_ :: _ :: _ :: _), h1, _ => exact absurd h1 no
  | .undef, h1, _ => exact absurd h1 no
  | .null, h1, _ => exact absurd h1 no
  | .bool _, h1, _ => exact absurd h1 no
  | .num _, h1, _ => exact absurd h1 no
  | .str _, h1, _ => exact absurd h1 no
  | .obj _, h1, _ => exact absurd h1 no
  | .big _, h1, _ => exact absurd h1 no
theorem AtV.arr {G : Hp} {xs : List Plain} {v : V} (h : AtV G (.arr xs) v) : ∃ a l vs, v = .ref a ∧ G a = some (.tup [.int 7, .ref l]) ∧ G l = some (.lst vs) ∧ Paired (AtV G) xs vs := by
  obtain ⟨a, l, vs, e, h1, h2, h3⟩ := h
  exact ⟨a, l, vs, e, h1, h2, h3.pd⟩
theorem kind_list {p : Plain} : decide (V.int (kindOf p) = V.int 7) = (match p with | .arr _ => true | _ => false) := by
  cases p with
  | bool b => cases b <;> rfl
  | _ => rfl
theorem noTwice_iff : ∀ l : List (Nat × Nat), noTwice l = true ↔ (l.map (·.1)).Nodup
  | [] => by simp [noTwice]
  | c :: r => by
    have ih := noTwice_iff r
    rw [List.map_cons, List.nodup_cons, ← ih]
    rw [show noTwice (c :: r) = (!(r.any fun d => d.1 == c.1) && noTwice r) from rfl, Bool.and_eq_true, Bool.not_eq_true', List.any_eq_false]
    refine and_congr ⟨fun h m => ?_, fun h d hd hc => ?_⟩ Iff.rfl
    · obtain ⟨d, hd, e⟩ := List.mem_map.mp m
      exact h d hd (by rw [e]; exact beq_self_eq_true _)
    · exact h (List.mem_map.mpr ⟨d, hd, beq_iff_eq.mp hc⟩)
section
variable {P : Program} {w : World} {K : PySem.W.Frag} {mg : Str → Option Value} {base : Heap}
abbrev s_is_pair : Stmt := top 98
theorem sc_is_pair : FnScope ["volume", "value"] ["volume", "value"] (defScope s_is_pair) := ⟨rfl, rfl, rfl, by decide +kernel, rfl, by decide +kernel, by decide +kernel⟩
theorem bd_is_pair : Bd "is_pair" "is_pair" s_is_pair ["volume", "value"] := fun _ _ _ _ _ _ us hl => match us, hl with | [_, _], _ => rfl
abbrev s_are_pairs : Stmt := top 99
theorem sc_are_pairs : FnScope ["volume", "value", "seen", "pair"] ["volume", "value"] (defScope s_are_pairs) := ⟨rfl, rfl, rfl, by decide +kernel, rfl, by decide +kernel, by decide +kernel⟩
theorem bd_are_pairs : Bd "are_pairs" "are_pairs" s_are_pairs ["volume", "value"] := fun _ _ _ _ _ _ us hl => match us, hl with | [_, _], _ => rfl
abbrev s_pairs_of : Stmt := top 100
theorem sc_pairs_of : FnScope ["volume", "value", "pair"] ["volume", "value"] (defScope s_pairs_of) := ⟨rfl, rfl, rfl, by decide +kernel, rfl, by decide +kernel, by decide +kernel⟩
theorem bd_pairs_of : Bd "pairs_of" "pairs_of" s_pairs_of ["volume", "value"] := fun _ _ _ _ _ _ us hl => match us, hl with | [_, _], _ => rfl
def fIsPair (K : PySem.W.Frag) : V → V → Hp → VK → XK → Prop := fun a b H Q _ => ∃ G L v p, a = .ref L.self ∧ AtV G p b ∧ VolAt K G H L v ∧ Q (.bl (isPairP v p)) H
theorem d_is_pair (T : TxtX K mg) (D_is_integer : DefOk P w K mg base CX0 1 "is_integer" ["value", "low", "high"] (Sp3 fIsInteger)) (F : Fs K mg "is_pair" s_is_pair) : DefOk P w K mg base CX0 2 "is_pair" ["volume", "value"] (Sp2 (fIsPair K)) :=
  def_C F sc_is_pair bd_is_pair fun f cdv A outer s H vs Q E hr h => by
    obtain ⟨_, _, rfl, G, L, v, p, rfl, hp, h, q⟩ := h
    obtain ⟨a, c, rfl, ha⟩ := hp.pair
    have tt := SqT.of (K := K) (h.sub _ _ ha)
    refine ⟨_, (pss_cons (ps_if (PW.pt (pw_or (pt_cmpR op_ne (pe_ix ix_tup (pv 1) pe_int (fun _ _ => rfl)) (pe_gi T.i_LIST) (nomark _)) (pw_or1 (pt_cmpR op_ne (pe_callB call_len_seq (by rfl) T.z_len PySem.boot_len (pa_cons (pe_ix ix_tup (pv 1) pe_int (fun _ _ => rfl)) pa_nil)) pe_int (nomark _))))) (pss_one (ps_ret pe_bl)) pss_nil) (pss_one (ps_ret (pe_and (pe_d D_is_integer (hr.mono (by decide)) pass0 (pa_cons (pe_ix ix_list (pe_ix ix_tup (pv 1) pe_int (fun _ _ => rfl)) pe_int (fun _ _ => rfl)) (pa_cons pe_int (pa_cons (pe_op op_sub (pe_fld (pv 0) rfl) pe_int) pa_nil)))) (pe_one (pe_d D_is_integer (hr.mono (by decide)) pass0 (pa_cons (pe_ix ix_list (pe_ix ix_tup (pv 1) pe_int (fun _ _ => rfl)) pe_int (fun _ _ => rfl)) (pa_cons pe_int (pa_cons pe_int pa_nil))))))))), ?_⟩
    refine ⟨_, rfl, a, _, _, _, rfl, rfl, tt, rfl, rfl, _, rfl, ?_⟩
    rw [kind_list]
    match p, hp, ha, tt, q with
    | .arr xs, hp, ha, tt, q =>
      obtain ⟨a', l, ys, e, h1, h2, pd⟩ := hp.arr
      cases e
      rw [ha] at h1
      cases h1
      have hl := SqL.of (K := K) (h.sub _ _ h2)
      refine iteF ⟨_, rfl, a, _, _, _, rfl, rfl, tt, rfl, l, _, rfl, .inl hl, rfl, _, rfl, ?_⟩
      have len := Pd.len pd
      match xs, ys, pd, len, q, hl with
      | [x, y], [u, z], .cons hx (.cons hy .nil), _, q, hl =>
        refine iteF ⟨_, rfl, a, _, _, _, rfl, rfl, tt, rfl, l, _, _, _, rfl, rfl, hl, rfl, _, rfl, _, _, _, _, _, rfl, h.obj, T.c_Volume, T.n_Volume _ mm0, rfl, _, _, rfl, rfl, _, _, _, rfl, G, x, 0, _, rfl, rfl, h.sub, hx, _, rfl, ?_⟩
        show if inR x 0 ((v.disk.length : Int) - 1) = true then _ else _
        have q' : Q (.bl (inR x 0 ((v.disk.length : Int) - 1) && inR y 0 255)) H := q
        cases c : inR x 0 ((v.disk.length : Int) - 1) with
        | false =>
          rw [c] at q'
          exact iteF q'
        | true =>
          rw [c] at q'
          exact iteT ⟨_, rfl, a, _, _, _, rfl, rfl, tt, rfl, l, _, _, _, rfl, rfl, hl, rfl, _, _, _, rfl, G, y, 0, 255, rfl, rfl, h.sub, hy, q'⟩
      | [], [], .nil, _, q, hl => exact iteT q
      | [_], [_], .cons _ .nil, _, q, hl => exact iteT q
      | _ :: _ :: _ :: r, y1 :: y2 :: y3 :: t, .cons _ (.cons _ (.cons _ _)), _, q, hl =>
        have ne : (!decide (V.int (((y1 :: y2 :: y3 :: t : List V).length : Nat) : Int) = V.int 2)) = true := by
          rw [show V.int 2 = V.int ((2 : Nat) : Int) from rfl, dI_f (by simp only [List.length_cons]; omega)]
          rfl
        rw [ne]
        exact iteT q
    | .undef, _, _, _, q => exact iteT (iteT q)
    | .null, _, _, _, q => exact iteT (iteT q)
    | .bool b, _, _, _, q => exact iteT (iteT q)
    | .num _, _, _, _, q => exact iteT (iteT q)
    | .str _, _, _, _, q => exact iteT (iteT q)
    | .obj _, _, _, _, q => exact iteT (iteT q)
    | .big _, _, _, _, q => exact iteT (iteT q)
/-- a pair of a block and an octet -/
def PairAt (G : Hp) (c : Nat × Nat) (v : V) : Prop := ∃ a, v = .ref a ∧ G a = some (.tup [.int (c.1 : Int), .int (c.2 : Int)])
theorem PairAt.mono {G G' : Hp} (s : Same G G') {c : Nat × Nat} {v : V} : PairAt G c v → PairAt G' c v
  | ⟨a, e, h⟩ => ⟨a, e, s _ _ h⟩
/-- a pair's parts, as the program reads them -/
theorem pair_read {K : PySem.W.Frag} {v : Volume} (hn : v.disk.length ≤ 16) {p : Plain} (hp : isPairP v p = true) {G : Hp} {u : V} (h : AtV G p u) : ∃ a l b1 b2, u = .ref a ∧ G a = some (.tup [.int 7, .ref l]) ∧ G l = some (.lst [.ref b1, .ref b2]) ∧ G b1 = some (.tup [.int 4, .int ((changeArg p).1 : Int)]) ∧ G b2 = some (.tup [.int 4, .int ((changeArg p).2 : Int)]) := by
  rw [pair_is hn hp] at h
  obtain ⟨a, l, ys, e, h1, h2, pd⟩ := h.arr
  cases pd with
  | cons x1 pd =>
  cases pd with
  | cons x2 pd =>
  cases pd
  obtain ⟨b1, rfl, g1⟩ := x1.num
  obtain ⟨b2, rfl, g2⟩ := x2.num
  exact ⟨a, l, b1, b2, e, h1, h2, g1, g2⟩
def pairOk (v : Volume) (c : Nat × Nat) : Bool := decide (c.1 < v.blocks) && decide (c.2 < 256)
theorem inV_ints (n : Nat) : ∀ l : List Nat, inV (.int (n : Int)) (nlst l) = l.contains n
  | [] => rfl
  | x :: r => by
    have q := inV_ints n r
    unfold inV nlst at q ⊢
    rw [List.map_cons, List.any_cons, q, List.contains_cons]
    congr 1
    show ((x : Int) == (n : Int)) = (n == x)
    by_cases c : n = x
    · rw [beq_iff_eq.mpr c, beq_iff_eq.mpr (by omega : (x : Int) = (n : Int))]
    · rw [beq_eq_false_iff_ne.mpr c, beq_eq_false_iff_ne.mpr (by omega : (x : Int) ≠ (n : Int))]
theorem flat_ints (l : List Nat) : (nlst l).all flatV = true := by
  unfold nlst
  rw [List.all_map, List.all_eq_true]
  exact fun _ _ => rfl
def fArePairs (K : PySem.W.Frag) : V → V → Hp → VK → XK → Prop := fun a b H Q _ => ∃ G L v p, a = .ref L.self ∧ AtV G p b ∧ v.disk.length ≤ 16 ∧ VolAt K G H L v ∧ RetV G H (.bl (changesOk v (changesArg p))) Q
theorem d_are_pairs (T : TxtX K mg) (D_is_pair : DefOk P w K mg base CX0 2 "is_pair" ["volume", "value"] (Sp2 (fIsPair K))) (F : Fs K mg "are_pairs" s_are_pairs) : DefOk P w K mg base CX0 3 "are_pairs" ["volume", "value"] (Sp2 (fArePairs K)) :=
  def_C F sc_are_pairs bd_are_pairs fun f cdv A outer s H vs Q E hr h => by
    obtain ⟨_, _, rfl, G, L, v, p, rfl, hp, hn, h, q⟩ := h
    obtain ⟨a, c, rfl, ha⟩ := hp.pair
    have tt := SqT.of (K := K) (h.sub _ _ ha)
    refine ⟨_, (pss_cons (ps_if (PW.pt (pw_or (pt_cmpR op_ne (pe_ix ix_tup (pv 1) pe_int (fun _ _ => rfl)) (pe_gi T.i_LIST) (nomark _)) (pw_or (pt_cmpR op_lt (pe_callB call_len_seq (by rfl) T.z_len PySem.boot_len (pa_cons (pe_ix ix_tup (pv 1) pe_int (fun _ _ => rfl)) pa_nil)) pe_int (nomark _)) (pw_or1 (pt_cmpR op_gt (pe_callB call_len_seq (by rfl) T.z_len PySem.boot_len (pa_cons (pe_ix ix_tup (pv 1) pe_int (fun _ _ => rfl)) pa_nil)) pe_int (nomark _)))))) (pss_one (ps_ret pe_bl)) pss_nil) (pss_cons (ps_set (i := 2) sc_are_pairs.nd rfl (Or.inl rfl) (pe_lst pa_nil)) (pss_cons (ps_for PassesOwn.never rfl (pi_list (pe_ix ix_tup (pv 1) pe_int (fun _ _ => rfl))) (pg_name (i := 3) sc_are_pairs.nd rfl (Or.inl rfl)) (pss_cons (ps_if (pt_not (pt_val (pe_d D_is_pair (hr.mono (by decide)) pass0 (pa_cons (pv 0) (pa_cons (pv 3) pa_nil))))) (pss_one (ps_ret pe_bl)) pss_nil) (pss_cons (ps_if (pt_cmpR op_in_seq (pe_ix ix_tup (pe_ix ix_list (pe_ix ix_tup (pv 3) pe_int (fun _ _ => rfl)) pe_int (fun _ _ => rfl)) pe_int (fun _ _ => rfl)) (pv 2) (by rfl)) (pss_one (ps_ret pe_bl)) pss_nil) (pss_one (ps_expr (pe_bm PySem.F.plainAttrs_list PySem.F.slot_list_append PySem.F.type_list_append mt_append (pv 2) (pa_cons (pe_ix ix_tup (pe_ix ix_list (pe_ix ix_tup (pv 3) pe_int (fun _ _ => rfl)) pe_int (fun _ _ => rfl)) pe_int (fun _ _ => rfl)) pa_nil))))))) (pss_one (ps_ret pe_bl))))), ?_⟩
    refine ⟨_, rfl, a, _, _, _, rfl, rfl, tt, rfl, rfl, _, rfl, ?_⟩
    rw [kind_list]
    have q0 := q _ _ (ExtF.refl h.sub)
    match p, hp, ha, tt, q, q0 with
    | .undef, _, _, _, _, q => exact iteT (iteT q)
    | .null, _, _, _, _, q => exact iteT (iteT q)
    | .bool b, _, _, _, _, q => exact iteT (iteT q)
    | .num _, _, _, _, _, q => exact iteT (iteT q)
    | .str _, _, _, _, _, q => exact iteT (iteT q)
    | .obj _, _, _, _, _, q => exact iteT (iteT q)
    | .big _, _, _, _, _, q => exact iteT (iteT q)
    | .arr xs, hp, ha, tt, q, q0 =>
    obtain ⟨a', l, ys, e, h1, h2, pd⟩ := hp.arr
    cases e
    rw [ha] at h1
    cases h1
    have hl := SqL.of (K := K) (h.sub _ _ h2)
    have len := Pd.len pd
    refine iteF ⟨_, rfl, a, _, _, _, rfl, rfl, tt, rfl, l, _, rfl, .inl hl, _, _, rfl, rfl, _, rfl, ?_⟩
    have el : (changesArg (.arr xs)).length = xs.length := List.length_map _
    by_cases c1 : 1 ≤ xs.length
    case neg =>
      rw [decide_eq_true (by omega : (ys.length : Int) < 1)]
      have e : changesOk v (changesArg (.arr xs)) = false := by
        unfold changesOk
        rw [el, decide_eq_false c1]
        rfl
      rw [e] at q0
      exact iteT (iteT q0)
    rw [decide_eq_false (by omega : ¬ (ys.length : Int) < 1)]
    refine iteF ⟨_, rfl, a, _, _, _, rfl, rfl, tt, rfl, l, _, rfl, .inl hl, _, _, rfl, rfl, _, rfl, ?_⟩
    by_cases c2 : xs.length ≤ 8
    case neg =>
      rw [decide_eq_true (by omega : (ys.length : Int) > 8)]
      have e : changesOk v (changesArg (.arr xs)) = false := by
        unfold changesOk
        rw [el, decide_eq_false (show ¬ xs.length ≤ R7237f.Spec.maxItems from c2), Bool.and_false]
        rfl
      rw [e] at q0
      exact iteT q0
    rw [decide_eq_false (by omega : ¬ (ys.length : Int) > 8)]
    have e8 : changesOk v (changesArg (.arr xs)) = (noTwice (xs.map changeArg) && (xs.map changeArg).all (pairOk v)) := by
      unfold changesOk
      rw [el, decide_eq_true c1, decide_eq_true (show xs.length ≤ R7237f.Spec.maxItems from c2)]
      rfl
    rw [e8] at q
    refine iteF ⟨sz0, fun D hD => ?_⟩
    have up : ∀ y b o, G b = some o → upd H D y b = some o := fun y b o z => by rw [upd_ne (ne_of_none (h.sub _ _ z) hD)]; exact h.sub _ _ z
    refine ⟨_, rfl, a, _, _, _, rfl, rfl, SqT.of (up _ _ _ ha), rfl, l, rfl, ⟨_, SqL.of (up _ _ _ h2)⟩, for_run (K := K) (a := l) (xs := ys)
      (fun r σ H' => (∃ x3, σ = [some (.ref L.self), some (.ref a), some (.ref D), x3]) ∧ ∃ pre rest, pre ++ rest = xs ∧ Paired (AtV G) rest r ∧ H' = upd H D (.lst (nlst (pre.map fun x => (changeArg x).1))) ∧ ((pre.map changeArg).map (·.1)).Nodup ∧ (pre.map changeArg).all (pairOk v) = true) ⟨⟨_, rfl⟩, [], xs, rfl, pd, rfl, .nil, rfl⟩ ?_ ?_ ?_⟩
    · rintro r σ H' ⟨_, pre, rest, _, _, rfl, _⟩
      exact SqL.of (up _ _ _ h2)
    · rintro t r σ H' ⟨⟨x3, rfl⟩, pre, rest, e0, pr, rfl, nd, al⟩
      cases pr with
      | cons hm pr =>
      rename_i m rest
      have eD := (ExtF.refl (F := NoF) h.sub).mut (o := .lst (nlst (pre.map fun x => (changeArg x).1))) hD
      have hv := h.ext eD
      refine ⟨_, rfl, _, rfl, _, _, rfl, G, L, v, m, rfl, hm, hv, _, rfl, ?_⟩
      cases c3 : isPairP v m with
      | false =>
        have z := q _ _ eD
        have e : ((xs.map changeArg).all (pairOk v)) = false := by
          rw [← e0, List.map_append, List.all_append, List.map_cons, List.all_cons]
          have : pairOk v (changeArg m) = false := (pair_eq hn m).symm.trans c3
          rw [this, Bool.false_and, Bool.and_false]
        rw [e, Bool.and_false] at z
        exact iteT z
      | true =>
      obtain ⟨b, l2, b1, b2, rfl, g1, g2, g3, g4⟩ := pair_read (K := K) hn c3 hm
      refine iteF ⟨_, rfl, b, _, _, _, rfl, rfl, SqT.of (hv.sub _ _ g1), rfl, l2, _, _, _, rfl, rfl, SqL.of (hv.sub _ _ g2), rfl, b1, _, _, _, rfl, rfl, SqT.of (hv.sub _ _ g3), rfl, _, rfl, D, _, rfl, .inl (SqL.of upd_same), rfl, flat_ints _, _, rfl, ?_⟩
      rw [if_neg Bool.false_ne_true, inV_ints]
      cases c4 : (pre.map fun x => (changeArg x).1).contains (changeArg m).1 with
      | true =>
        have z := q _ _ eD
        have e : noTwice (xs.map changeArg) = false := by
          rw [Bool.eq_false_iff]
          intro y
          rw [noTwice_iff, ← e0, List.map_append, List.map_append, List.map_cons, List.map_cons, List.nodup_append] at y
          refine y.2.2 _ (by simpa using c4) _ List.mem_cons_self ?_
          rfl
        rw [e, Bool.false_and] at z
        exact iteT z
      | false =>
      refine iteF ⟨_, rfl, .inl ⟨rfl, _, SqL.of upd_same⟩, _, rfl, b, _, _, _, rfl, rfl, SqT.of (hv.sub _ _ g1), rfl, l2, _, _, _, rfl, rfl, SqL.of (hv.sub _ _ g2), rfl, b1, _, _, _, rfl, rfl, SqT.of (hv.sub _ _ g3), rfl, D, _, _, rfl, rfl, upd_same, szk ?_, ?_⟩
      · have z := len_cut e0
        rw [nlst_len, List.length_map]
        omega
      · rw [upd_upd]
        refine ⟨⟨_, rfl⟩, pre ++ [m], rest, by rw [List.append_assoc]; exact e0, pr, ?_, ?_, ?_⟩
        · rw [List.map_append, nlst_app]
          rfl
        · rw [List.map_append, List.map_append, List.nodup_append]
          refine ⟨nd, by simp, fun x hx y hy => ?_⟩
          intro e
          have hy' : y = (changeArg m).1 := by simpa using hy
          rw [Bool.eq_false_iff] at c4
          exact c4 (by rw [List.contains_iff_mem, ← hy', ← e]; simpa using hx)
        · rw [List.map_append, List.all_append, al]
          have : pairOk v (changeArg m) = true := (pair_eq hn m).symm.trans c3
          show (pairOk v (changeArg m) && true) = true
          rw [this]
          rfl
    · rintro σ H' ⟨⟨x3, rfl⟩, pre, rest, e0, pr, rfl, nd, al⟩
      cases pr
      rw [List.append_nil] at e0
      subst e0
      have z := q _ _ ((ExtF.refl (F := NoF) h.sub).mut (o := .lst (nlst (pre.map fun x => (changeArg x).1))) hD)
      rw [(noTwice_iff _).mpr nd, al] at z
      exact z
def fPairsOf (K : PySem.W.Frag) : V → V → Hp → VK → XK → Prop := fun a b H Q E => ∃ G L v p, a = .ref L.self ∧ AtV G p b ∧ v.disk.length ≤ 16 ∧ VolAt K G H L v ∧ RC K G H (require (changesOk v (changesArg p)) (typeErr "changes must be a list of 1 to 8 pairs of different blocks and bytes")) (fun _ => ∀ G' H' D ys, Ext G H G' H' → G' D = some (.lst ys) → Paired (PairAt G') (changesArg p) ys → Q (.ref D) H') E
theorem d_pairs_of (T : TxtX K mg) (D_are_pairs : DefOk P w K mg base CX0 3 "are_pairs" ["volume", "value"] (Sp2 (fArePairs K))) (F : Fs K mg "pairs_of" s_pairs_of) : DefOk P w K mg base (L2N.CX P w) 4 "pairs_of" ["volume", "value"] (Sp2 (fPairsOf K)) :=
  def_R F sc_pairs_of bd_pairs_of fun f cdv A outer s H vs Q E hr h => by
    obtain ⟨_, _, rfl, G, L, v, p, rfl, hp, hn, h, q⟩ := h
    refine ⟨_, (pss_cons (ps_if (pt_not (pt_val (pe_d D_are_pairs (hr.mono (by decide)) pass0 (pa_cons (pv 0) (pa_cons (pv 1) pa_nil))))) (pss_one (ps_rz T.x_WrongKind hr (pa_cons pe_str pa_nil))) pss_nil) (pss_one (ps_ret (pe_lc (own := [("pair", 2)]) (g := (gName 2)) (tt := tYes) rfl sc_pairs_of.nd (pi_list (pe_ix ix_tup (pv 1) pe_int (fun _ _ => rfl))) (blkOk_by (N := ["volume", "value", "pair"]) (sc := defScope s_pairs_of) (by decide +kernel)) (fun _ _ _ _ _ => (pg_name (i := 2) sc_pairs_of.nd rfl (Or.inl rfl))) (fun _ _ _ _ _ => pts_nil) (fun _ _ _ _ _ => (pe_tup (pa_cons (pe_ix (ix_tupK (K := K)) (pe_ix (ix_listK (K := K)) (pe_ix (ix_tupK (K := K)) (pv 2) pe_int (fun _ _ => rfl)) pe_int (fun _ _ => rfl)) pe_int (fun _ _ => rfl)) (pa_cons (pe_ix (ix_tupK (K := K)) (pe_ix (ix_listK (K := K)) (pe_ix (ix_tupK (K := K)) (pv 2) pe_int (fun _ _ => rfl)) pe_int (fun _ _ => rfl)) pe_int (fun _ _ => rfl)) pa_nil)))))))), ?_⟩
    refine ⟨_, rfl, _, rfl, _, _, rfl, G, L, v, p, rfl, hp, hn, h, fun G1 H1 e1 => ⟨_, rfl, ?_⟩⟩
    cases c : changesOk v (changesArg p) with
    | false => exact iteT (RC.wrong e1.sub ((q.no c).ext e1) (by kernel_rfl))
    | true =>
    have q := q.yes c
    match p, hp, c, q with
    | .arr xs, hp, c, q =>
    obtain ⟨a, l, ys, rfl, h1, h2, pd⟩ := hp.arr
    unfold changesOk at c
    rw [Bool.and_eq_true, Bool.and_eq_true, Bool.and_eq_true] at c
    have len : xs.length ≤ 8 := by
      have z := of_decide_eq_true c.1.1.2
      have el : (changesArg (.arr xs)).length = xs.length := List.length_map _
      rw [el] at z
      exact z
    have al : ∀ x ∈ xs, isPairP v x = true := fun x hx => (pair_eq hn x).trans (List.all_eq_true.mp c.2 _ (List.mem_map.mpr ⟨x, hx, rfl⟩))
    refine iteF ⟨_, rfl, a, _, _, _, rfl, rfl, SqT.of (e1.same _ _ (h.sub _ _ h1)), rfl, l, rfl, ⟨_, SqL.of (e1.same _ _ (h.sub _ _ h2))⟩, fun D hD => lc_map (S := AtV G) (R := fun G x v => PairAt G (changeArg x) v) (.lst (SqL.of (e1.same _ _ (h.sub _ _ h2)))) e1.sub hD pd (by omega) (fun _ _ _ _ s h => h.mono s) ?_ ?_⟩
    · rintro m x G2 H2 Y N hx hm e2 y
      obtain ⟨b, l2, b1, b2, rfl, g1, g2, g3, g4⟩ := pair_read (K := K) hn (al m hm) hx
      have up : ∀ b o, G b = some o → H2 b = some o := fun b o z => e2.same _ _ (e1.same _ _ (h.sub _ _ z))
      refine ⟨rfl, _, rfl, b, _, _, _, rfl, rfl, SqT.of (up _ _ g1), rfl, l2, _, _, _, rfl, rfl, SqL.of (up _ _ g2), rfl, b1, _, _, _, rfl, rfl, SqT.of (up _ _ g3), rfl, _, rfl, b, _, _, _, rfl, rfl, SqT.of (up _ _ g1), rfl, l2, _, _, _, rfl, rfl, SqL.of (up _ _ g2), rfl, b2, _, _, _, rfl, rfl, SqT.of (up _ _ g4), rfl, sz2, fun p hp => ?_⟩
      exact y _ _ _ ((ExtF.refl e2.sub).imm hp) ⟨p, rfl, upd_same⟩
    · intro G2 H2 zs e2 g2 h2 pd2
      refine q _ _ D zs ((e1.trans e2).freeze (e1.free hD) h2 g2) upd_same (Pd.map_left (Pd.mono (fun _ _ z => z.mono fun b o hb => ?_) pd2))
      rw [upd_ne (ne_of_none hb g2)]
      exact hb
end
end Ov
set_option maxHeartbeats 4000000
/-! V9: writing, the deeds. -/
namespace Ov
open PySem PySem.Spec PyProof.Rows L2
open R7237f.Spec (Plain Units Item Cell Lock Replay Op Way Volume Err Res andThen require typeErr rangeErr itemOf integerIn nodeArg blockArg changeArg changesArg changesOk noTwice changesOf setAll pendingBytes entryBytes doCommit doFlush doTrim doLand heldAlone opArg findOp dropOp onDisk)
theorem set_self {v : Volume} {n : Nat} (h1 : 1 ≤ n) (h2 : n ≤ v.nodes.length) : { v with nodes := v.nodes.set (n - 1) (v.node n) } = v := by
  have e : v.nodes.set (n - 1) (v.node n) = v.nodes := by
    refine List.ext_getElem? fun i => ?_
    rw [List.getElem?_set]
    by_cases c : n - 1 = i
    · rw [if_pos c, ← c, node_get h1 h2, if_pos (by omega)]
    · rw [if_neg c]
  rw [e]
theorem setAll_len (e : List Item) : ∀ c : List Item, (setAll e c).length = c.length := by
  induction e with
  | nil => exact fun _ => rfl
  | cons x r ih =>
    intro c
    show (setAll r (R7237f.Spec.setItem x c)).length = _
    rw [ih]
    exact List.length_map _
theorem setAll_snoc (e : List Item) (x : Item) (c : List Item) : setAll (e ++ [x]) c = R7237f.Spec.setItem x (setAll e c) := by
  unfold setAll
  rw [List.foldl_append]
  rfl
theorem cached_ver (x : R7237f.Spec.Node) (b : Nat) : ((itemOf x.cache b).map (·.version)).getD 0 = (cachedOf x b).version := by
  unfold cachedOf
  cases itemOf x.cache b <;> rfl
theorem need_eq {v : Volume} (hg : VGood v) (n : Nat) : needOf v n = (v.node n).journal.length + pendingBytes v n := by
  unfold needOf pendingBytes
  rw [logs_eq hg, List.length_flatten, List.map_map]
  congr 2
  refine List.map_congr_left fun o m => ?_
  have m' := (List.mem_filter.mp m).2
  show (entryBytes (wItems o.way)).length = (R7237f.Spec.wayBytes o.way).length
  cases e : o.way with
  | log t l => rfl
  | home y =>
    rw [e, Bool.and_eq_true] at m'
    cases m'.2
def cachedV (v : Volume) (n : Nat) (e : List Item) : Volume := { v with nodes := v.nodes.set (n - 1) { v.node n with cache := setAll e (v.node n).cache } }
section
variable {P : Program} {w : World} {K : PySem.W.Frag} {mg : Str → Option Value} {base : Heap}
abbrev s_commit_pairs : Stmt := top 101
theorem sc_commit_pairs : FnScope ["volume", "node_value", "pairs_value", "node", "pairs", "block", "octet", "changes", "version", "change"] ["volume", "node_value", "pairs_value"] (defScope s_commit_pairs) := ⟨rfl, rfl, rfl, by decide +kernel, rfl, by decide +kernel, by decide +kernel⟩
theorem bd_commit_pairs : Bd "commit_pairs" "commit_pairs" s_commit_pairs ["volume", "node_value", "pairs_value"] := fun _ _ _ _ _ _ us hl => match us, hl with | [_, _, _], _ => rfl
abbrev s_flush_block : Stmt := top 102
theorem sc_flush_block : FnScope ["volume", "node_value", "block_value", "node", "block", "change"] ["volume", "node_value", "block_value"] (defScope s_flush_block) := ⟨rfl, rfl, rfl, by decide +kernel, rfl, by decide +kernel, by decide +kernel⟩
theorem bd_flush_block : Bd "flush_block" "flush_block" s_flush_block ["volume", "node_value", "block_value"] := fun _ _ _ _ _ _ us hl => match us, hl with | [_, _, _], _ => rfl
abbrev s_is_needed : Stmt := top 103
theorem sc_is_needed : FnScope ["volume", "node", "block", "version", "octet"] ["volume", "node"] (defScope s_is_needed) := ⟨rfl, rfl, rfl, by decide +kernel, rfl, by decide +kernel, by decide +kernel⟩
theorem bd_is_needed : Bd "is_needed" "is_needed" s_is_needed ["volume", "node"] := fun _ _ _ _ _ _ us hl => match us, hl with | [_, _], _ => rfl
abbrev s_trim_journal : Stmt := top 104
theorem sc_trim_journal : FnScope ["volume", "node_value", "node"] ["volume", "node_value"] (defScope s_trim_journal) := ⟨rfl, rfl, rfl, by decide +kernel, rfl, by decide +kernel, by decide +kernel⟩
theorem bd_trim_journal : Bd "trim_journal" "trim_journal" s_trim_journal ["volume", "node_value"] := fun _ _ _ _ _ _ us hl => match us, hl with | [_, _], _ => rfl
abbrev s_write_of : Stmt := top 105
theorem sc_write_of : FnScope ["volume", "value", "write"] ["volume", "value"] (defScope s_write_of) := ⟨rfl, rfl, rfl, by decide +kernel, rfl, by decide +kernel, by decide +kernel⟩
theorem bd_write_of : Bd "write_of" "write_of" s_write_of ["volume", "value"] := fun _ _ _ _ _ _ us hl => match us, hl with | [_, _], _ => rfl
abbrev s_land_write : Stmt := top 106
theorem sc_land_write : FnScope ["volume", "write_value", "number", "node", "transaction", "changes"] ["volume", "write_value"] (defScope s_land_write) := ⟨rfl, rfl, rfl, by decide +kernel, rfl, by decide +kernel, by decide +kernel⟩
theorem bd_land_write : Bd "land_write" "land_write" s_land_write ["volume", "write_value"] := fun _ _ _ _ _ _ us hl => match us, hl with | [_, _], _ => rfl
def fCommitPairs (K : PySem.W.Frag) : V → V → V → Hp → VK → XK → Prop := fun a b c H Q E => ∃ G L v p1 p2, a = .ref L.self ∧ AtV G p1 b ∧ AtV G p2 c ∧ VGood v ∧ VolAt K G H L v ∧ Door K G H L (doCommit v (nodeArg p1) (changesArg p2)) Q E
theorem d_commit_pairs (T : TxtX K mg) (D_running_node : DefOk P w K mg base (L2N.CX P w) 3 "running_node" ["volume", "value"] (Sp2 (fRunningNode K))) (D_pairs_of : DefOk P w K mg base (L2N.CX P w) 4 "pairs_of" ["volume", "value"] (Sp2 (fPairsOf K)))
    (D_need_alone : DefOk P w K mg base (L2N.CX P w) 2 "need_alone" ["volume", "node", "block"] (Sp3 (fNeedAlone K))) (D_cached : DefOk P w K mg base CX0 2 "cached" ["volume", "node", "block"] (Sp3 (fCached K))) (D_need_room : DefOk P w K mg base (L2N.CX P w) 2 "need_room" ["volume"] (Sp1 (fNeedRoom K)))
    (D_journal_need : DefOk P w K mg base CX0 2 "journal_need" ["volume", "node"] (Sp2 (fNeed K))) (D_entry_octets : DefOk P w K mg base CX0 1 "entry_octets" ["changes"] (Sp1 (fEntryOctets (K := K)))) (D_Volume_node_at : MetOk P w K mg base CX0 1 (cVol K) "node_at" ["self", "node"] (Sp2 (fNodeAt K)))
    (D_Node_renew : MetOk P w K mg base CX0 1 (cNode K) "renew" ["self", "change"] (Sp2 (fRenew K))) (D_Volume_start_transaction : MetOk P w K mg base CX0 2 (cVol K) "start_transaction" ["self", "node", "changes"] (Sp3 (fStartTx K))) (D_integer : DefOk P w K mg base CX0 1 "integer" ["number"] (Sp1 fInteger))
    (F : Fs K mg "commit_pairs" s_commit_pairs) : DefOk P w K mg base (L2N.CX P w) 5 "commit_pairs" ["volume", "node_value", "pairs_value"] (Sp3 (fCommitPairs K)) :=
  def_R F sc_commit_pairs bd_commit_pairs fun f cdv A outer s H vs Q E hr h => by
    obtain ⟨_, b, c, rfl, G, L, v, p1, p2, rfl, a1, a2, hg, h, q⟩ := h
    refine ⟨_, (pss_cons (ps_set (i := 3) sc_commit_pairs.nd rfl (Or.inr rfl) (pe_d D_running_node (hr.mono (by decide)) passR (pa_cons (pv 0) (pa_cons (pv 1) pa_nil)))) (pss_cons (ps_set (i := 4) sc_commit_pairs.nd rfl (Or.inl rfl) (pe_d D_pairs_of (hr.mono (by decide)) passR (pa_cons (pv 0) (pa_cons (pv 2) pa_nil)))) (pss_cons (ps_for passO rfl (pi_list (pv 4)) (pg_tup rfl (pgs_cons (pg_name (i := 5) sc_commit_pairs.nd rfl (Or.inl rfl)) (pgs_cons (pg_name (i := 6) sc_commit_pairs.nd rfl (Or.inl rfl)) pgs_nil))) (pss_one (ps_expr (pe_d D_need_alone (hr.mono (by decide)) passR (pa_cons (pv 0) (pa_cons (pv 3) (pa_cons (pv 5) pa_nil))))))) (pss_cons (ps_setLc (i := 7) (own := [("block", 5), ("octet", 6)]) (g := (gTup K 2 (gCons (gName 5) (gCons (gName 6) gNil)))) (tt := tYes) rfl sc_commit_pairs.nd rfl rfl (sw_true rfl rfl rfl (by decide +kernel)) (pi_list (pv 4)) (blkOk_by (N := ["volume", "node_value", "pairs_value", "node", "pairs", "block", "octet", "changes", "version", "change"]) (sc := defScope s_commit_pairs) (by decide +kernel)) (fun _ _ _ _ _ => (pg_tup rfl (pgs_cons (pg_name (i := 5) sc_commit_pairs.nd rfl (Or.inl rfl)) (pgs_cons (pg_name (i := 6) sc_commit_pairs.nd rfl (Or.inl rfl)) pgs_nil)))) (fun _ _ _ _ _ => pts_nil) (fun _ _ _ _ _ => (pe_tup (pa_cons (pv 5) (pa_cons (pe_op op_add (pe_ix (ix_tupK (K := K)) (pe_d D_cached (hr.mono (by decide)) pass0 (pa_cons (pv 0) (pa_cons (pv 3) (pa_cons (pv 5) pa_nil)))) pe_int (fun _ _ => rfl)) pe_int) (pa_cons (pv 6) pa_nil)))))) (pss_cons (ps_for passO rfl (pi_list (pv 7)) (pg_tup rfl (pgs_cons (pg_name (i := 5) sc_commit_pairs.nd rfl (Or.inl rfl)) (pgs_cons (pg_name (i := 8) sc_commit_pairs.nd rfl (Or.inl rfl)) (pgs_cons (pg_name (i := 6) sc_commit_pairs.nd rfl (Or.inl rfl)) pgs_nil)))) (pss_one (ps_if (pt_cmpR op_gt (pv 8) pe_int (nomark _)) (pss_one (ps_rz T.x_OutOfRange hr (pa_cons pe_str pa_nil))) pss_nil))) (pss_cons (ps_expr (pe_d D_need_room (hr.mono (by decide)) passR (pa_cons (pv 0) pa_nil))) (pss_cons (ps_if (pt_cmpR op_gt (pe_op op_add (pe_d D_journal_need (hr.mono (by decide)) pass0 (pa_cons (pv 0) (pa_cons (pv 3) pa_nil))) (pe_callB call_len_seq (by rfl) T.z_len PySem.boot_len (pa_cons (pe_d D_entry_octets (hr.mono (by decide)) pass0 (pa_cons (pv 7) pa_nil)) pa_nil))) pe_int (nomark _)) (pss_one (ps_rz T.x_OutOfRange hr (pa_cons pe_str pa_nil))) pss_nil) (pss_cons (ps_for passO rfl (pi_list (pv 7)) (pg_name (i := 9) sc_commit_pairs.nd rfl (Or.inl rfl)) (pss_one (ps_expr (pe_m T.c_Node D_Node_renew (hr.mono (by decide)) pass0 (pe_m T.c_Volume D_Volume_node_at (hr.mono (by decide)) pass0 (pv 0) (pa_cons (pv 3) pa_nil)) (pa_cons (pv 9) pa_nil))))) (pss_one (ps_ret (pe_d D_integer (hr.mono (by decide)) pass0 (pa_cons (pe_m T.c_Volume D_Volume_start_transaction (hr.mono (by decide)) pass0 (pv 0) (pa_cons (pv 3) (pa_cons (pv 7) pa_nil))) pa_nil)))))))))))), ?_⟩
    refine ⟨_, rfl, _, rfl, _, _, rfl, G, L, v, p1, rfl, a1, hg.nn, h, (RC.then q).mono fun u hu q => ?_⟩
    obtain ⟨⟨n1, n2⟩, hrun⟩ := upNode_ok hu
    refine ⟨_, rfl, _, rfl, _, _, rfl, G, L, v, p2, rfl, a2, hg.bl, h, q.then.mono fun u hu q G1 H1 D ys e1 gD pD => ?_⟩
    have hok := req_ok hu
    have h1 := h.ext e1
    have q := RC.ext q e1
    have small : (changesArg p2).length ≤ 8 := by
      unfold changesOk at hok
      rw [Bool.and_eq_true, Bool.and_eq_true, Bool.and_eq_true] at hok
      exact of_decide_eq_true hok.1.1.2
    have hv : ∀ e, cachedV v (nodeArg p1) e = cachedV v (nodeArg p1) e := fun _ => rfl
    -- every block is held alone
    refine ⟨_, rfl, D, rfl, ⟨_, SqL.of (e1.sub _ _ gD)⟩, for_run (K := K) (a := D) (xs := ys)
      (fun r σ H' => H' = H1 ∧ (∃ x5 x6, σ = [some (.ref L.self), some b, some c, some (.int (nodeArg p1 : Int)), some (.ref D), x5, x6, none, none, none]) ∧ ∃ pre rest, pre ++ rest = changesArg p2 ∧ Paired (PairAt G1) rest r ∧ (pre.all fun c => v.holdsAlone (nodeArg p1) c.1) = true) ⟨rfl, ⟨_, _, rfl⟩, [], _, rfl, pD, rfl⟩ ?_ ?_ ?_⟩
    · rintro r σ H' ⟨rfl, _⟩
      exact SqL.of (e1.sub _ _ gD)
    · rintro t r σ H' ⟨rfl, ⟨x5, x6, rfl⟩, pre, rest, e0, pr, al⟩
      cases pr with
      | cons hm pr =>
      rename_i m rest
      obtain ⟨a, rfl, ha⟩ := hm
      refine ⟨a, _, rfl, SqT.of (h1.sub _ _ ha), rfl, _, _, rfl, _, _, rfl, rfl, _, rfl, _, rfl, _, rfl, _, _, _, rfl, G1, L, v, nodeArg p1, m.1, rfl, rfl, rfl, hg, h1, ?_⟩
      cases c1 : v.holdsAlone (nodeArg p1) m.1 with
      | false =>
        unfold heldAlone
        rw [c1]
        refine q.then.no ?_
        rw [← e0, List.all_append, List.all_cons, c1, Bool.false_and, Bool.and_false]
      | true =>
        unfold heldAlone
        rw [c1]
        refine ⟨rfl, ⟨_, _, rfl⟩, pre ++ [m], rest, by rw [List.append_assoc]; exact e0, pr, ?_⟩
        rw [List.all_append, al]
        show (v.holdsAlone (nodeArg p1) m.1 && true) = true
        rw [c1]
        rfl
    rintro σ H' ⟨rfl, ⟨x5, x6, rfl⟩, pre, rest, e0, pr, al⟩
    cases pr
    rw [List.append_nil] at e0
    subst e0
    have q := q.then.yes al
    -- the changes
    refine ⟨_, rfl, D, rfl, ⟨_, SqL.of (e1.sub _ _ gD)⟩, fun D2 hD2 => lc_map (S := PairAt G1) (R := fun G c t => ItemAt G ⟨c.1, ((itemOf (v.node (nodeArg p1)).cache c.1).map (·.version)).getD 0 + 1, c.2⟩ t) (.lst (SqL.of (e1.sub _ _ gD))) e1.sub hD2 pD (by omega) (fun _ _ _ _ s h => h.mono s) ?_ ?_⟩
    · rintro m t G2 H2 Y N ⟨a, rfl, ha⟩ hm e2 y
      refine ⟨a, _, rfl, SqT.of (e2.same _ _ (h1.sub _ _ ha)), rfl, _, _, rfl, _, _, rfl, rfl, rfl, _, rfl, _, rfl, _, rfl, _, rfl, _, _, _, rfl, G2, L, v, nodeArg p1, m.1, rfl, rfl, rfl, n1, n2, h1.ext e2, fun G3 H3 z e3 ⟨u, ez, hu⟩ => ?_⟩
      subst ez
      refine ⟨u, _, _, _, rfl, rfl, SqT.of (e3.sub _ _ hu), rfl, _, _, rfl, rfl, _, rfl, sz3, fun p hp => ?_⟩
      refine y _ _ _ (e3.imm hp) ⟨p, rfl, ?_⟩
      rw [upd_same, cached_ver]
      congr 2
    intro G2 H2 zs e2 g2 h2 pZ
    have e3 := e2.freeze hD2 h2 g2
    have pC : Paired (ItemAt (upd G2 D2 (.lst zs))) (changesOf (v.node (nodeArg p1)) (changesArg p2)) zs := Pd.map_left (Pd.mono (fun _ _ z => z.mono fun b o hb => by rw [upd_ne (ne_of_none hb g2)]; exact hb) pZ)
    have gC : upd G2 D2 (.lst zs) D2 = some (.lst zs) := upd_same
    generalize upd G2 D2 (.lst zs) = G2 at e3 pC gC
    generalize hes : changesOf (v.node (nodeArg p1)) (changesArg p2) = es at pC q
    have les : es.length ≤ 8 := by
      rw [← hes]
      exact Nat.le_trans (Nat.le_of_eq (List.length_map _)) small
    have h2 := h1.ext e3
    have q := RC.ext q e3
    -- no version is too great
    refine ⟨_, rfl, D2, rfl, ⟨_, SqL.of (e3.sub _ _ gC)⟩, for_run (K := K) (a := D2) (xs := zs)
      (fun r σ H' => H' = H2 ∧ (∃ x5 x6 x8, σ = [some (.ref L.self), some b, some c, some (.int (nodeArg p1 : Int)), some (.ref D), x5, x6, some (.ref D2), x8, none]) ∧ ∃ pre rest, pre ++ rest = es ∧ Paired (ItemAt G2) rest r ∧ (pre.all fun x => decide (x.version ≤ R7237f.Spec.maxVersion)) = true) ⟨rfl, ⟨_, _, _, rfl⟩, [], _, rfl, pC, rfl⟩ ?_ ?_ ?_⟩
    · rintro r σ H' ⟨rfl, _⟩
      exact SqL.of (e3.sub _ _ gC)
    · rintro t r σ H' ⟨rfl, ⟨x5, x6, x8, rfl⟩, pre, rest, e0, pr, al⟩
      cases pr with
      | cons hm pr =>
      rename_i m rest
      obtain ⟨a, rfl, ha⟩ := hm
      refine ⟨a, _, rfl, SqT.of (h2.sub _ _ ha), rfl, _, _, rfl, _, _, rfl, _, _, rfl, rfl, _, rfl, _, _, rfl, rfl, _, rfl, ?_⟩
      by_cases c1 : m.version ≤ R7237f.Spec.maxVersion
      · have c1' : m.version ≤ 16777215 := c1
        rw [decide_eq_false (by omega : ¬ (m.version : Int) > 16777215)]
        refine iteF ⟨rfl, ⟨_, _, _, rfl⟩, pre ++ [m], rest, by rw [List.append_assoc]; exact e0, pr, ?_⟩
        rw [List.all_append, al]
        show (decide (m.version ≤ R7237f.Spec.maxVersion) && true) = true
        rw [decide_eq_true c1]
        rfl
      · have c1' : ¬ m.version ≤ 16777215 := c1
        rw [decide_eq_true (by omega : (m.version : Int) > 16777215)]
        refine iteT (RC.range h2.sub (q.then.no ?_) (by kernel_rfl))
        rw [← e0, List.all_append, List.all_cons, decide_eq_false c1, Bool.false_and, Bool.and_false]
    rintro σ H' ⟨rfl, ⟨x5, x6, x8, rfl⟩, pre, rest, e0, pr, al⟩
    cases pr
    rw [List.append_nil] at e0
    subst e0
    have q := q.then.yes al
    -- there is room
    refine ⟨_, rfl, _, rfl, G2, L, v, rfl, h2, (RC.then q).mono fun u hu q => ?_⟩
    refine ⟨_, rfl, _, rfl, _, _, rfl, G2, L, v, nodeArg p1, rfl, rfl, n1, n2, hg.zo, hg.few, h2, fun G3 H3 e4 => ?_⟩
    refine ⟨_, rfl, _, rfl, G3, D2, zs, pre, rfl, SqL.of (e4.sub _ _ (e4.g _ _ gC)), e4.sub, Pd.mono (fun _ _ z => z.mono e4.g) pC, by omega, fun D3 hD3 => ⟨_, _, rfl, .inl (SqL.of upd_same), _, _, rfl, rfl, _, _, rfl, rfl, _, rfl, ?_⟩⟩
    have e5 := e4.mut (o := .lst (nlst (entryBytes pre))) hD3
    have h5 := h2.ext e5
    have q := RC.ext q e5
    rw [nlst_len, need_eq hg]
    by_cases c1 : (v.node (nodeArg p1)).journal.length + pendingBytes v (nodeArg p1) + (entryBytes pre).length ≤ R7237f.Spec.maxJournal
    case neg =>
      have c1' : ¬ (v.node (nodeArg p1)).journal.length + pendingBytes v (nodeArg p1) + (entryBytes pre).length ≤ 2000 := c1
      rw [decide_eq_true (by omega : (((v.node (nodeArg p1)).journal.length + pendingBytes v (nodeArg p1) : Nat) : Int) + ((entryBytes pre).length : Int) > 2000)]
      exact iteT (RC.range h5.sub (q.then.no (decide_eq_false c1)) (by kernel_rfl))
    have c1' : (v.node (nodeArg p1)).journal.length + pendingBytes v (nodeArg p1) + (entryBytes pre).length ≤ 2000 := c1
    rw [decide_eq_false (by omega : ¬ (((v.node (nodeArg p1)).journal.length + pendingBytes v (nodeArg p1) : Nat) : Int) + ((entryBytes pre).length : Int) > 2000)]
    have q := q.then.yes (decide_eq_true c1)
    refine iteF ?_
    generalize upd H3 D3 (.lst (nlst (entryBytes pre))) = H5 at e5 h5 q
    -- the cache is renewed
    have gC3 := e5.g _ _ gC
    have zc := (hg.zn (node_mem n1 n2)).1
    refine ⟨_, rfl, D2, rfl, ⟨_, SqL.of (e5.sub _ _ gC3)⟩, for_run (K := K) (a := D2) (xs := zs)
      (fun r σ H' => (∃ x5 x6 x8 x9, σ = [some (.ref L.self), some b, some c, some (.int (nodeArg p1 : Int)), some (.ref D), x5, x6, some (.ref D2), x8, x9]) ∧ ∃ pre' rest G' L', pre' ++ rest = pre ∧ Paired (ItemAt G3) rest r ∧ Step L G3 H5 L' G' H' ∧ VolAt K G' H' L' (cachedV v (nodeArg p1) pre')) ?_ ?_ ?_ ?_⟩
    · refine ⟨⟨_, _, _, _, rfl⟩, [], pre, G3, L, rfl, Pd.mono (fun _ _ z => z.mono e5.g) pC, Step.refl e5.sub, ?_⟩
      have e := set_self (v := v) n1 n2
      unfold cachedV
      show VolAt K G3 H5 L { v with nodes := v.nodes.set (nodeArg p1 - 1) (v.node (nodeArg p1)) }
      rw [e]
      exact h5
    · rintro r σ H' ⟨_, pre', rest, G', L', _, _, s, h'⟩
      exact SqL.of (h'.sub _ _ (s.e.g _ _ gC3))
    · rintro t r σ H' ⟨⟨x5, x6, x8, x9, rfl⟩, pre', rest, G', L', e0, pr, s, h'⟩
      cases pr with
      | cons hm pr =>
      rename_i m rest
      have hi : (cachedV v (nodeArg p1) pre').nodes[nodeArg p1 - 1]? = some { v.node (nodeArg p1) with cache := setAll pre' (v.node (nodeArg p1)).cache } := set_at (node_get n1 n2)
      have hx := h'.node _ _ hi
      rw [← s.self]
      refine ⟨_, rfl, _, _, _, rfl, h'.obj, rfl, _, rfl, _, _, rfl, G', L', cachedV v (nodeArg p1) pre', nodeArg p1, rfl, rfl, n1, by unfold cachedV; rw [List.length_set]; exact n2, h', _, _, _, rfl, hx.obj, rfl, _, rfl, _, _, rfl, G', L', cachedV v (nodeArg p1) pre', nodeArg p1 - 1, _, m, rfl, hi, hm.mono s.e.g, ?_, h', fun G6 H6 L6 s6 h6 => ?_⟩
      · show (setAll pre' (v.node (nodeArg p1)).cache).length ≤ 1000000
        rw [setAll_len]
        omega
      · refine ⟨⟨_, _, _, _, rfl⟩, pre' ++ [m], rest, G6, L6, by rw [List.append_assoc]; exact e0, pr, s.trans s6, ?_⟩
        have e : cachedV v (nodeArg p1) (pre' ++ [m]) = { cachedV v (nodeArg p1) pre' with nodes := (cachedV v (nodeArg p1) pre').nodes.set (nodeArg p1 - 1) (nRenew { v.node (nodeArg p1) with cache := setAll pre' (v.node (nodeArg p1)).cache } m) } := by
          unfold cachedV nRenew
          rw [setAll_snoc, set_set']
        rw [e]
        exact h6
    rintro σ H' ⟨⟨x5, x6, x8, x9, rfl⟩, pre', rest, G', L', e0, pr, s, h'⟩
    cases pr
    rw [List.append_nil] at e0
    subst e0
    rw [← s.self]
    refine ⟨_, rfl, _, _, _, rfl, h'.obj, rfl, _, rfl, _, rfl, _, _, _, rfl, G', L', cachedV v (nodeArg p1) pre', nodeArg p1, pre', D2, zs, rfl, rfl, rfl, s.e.g _ _ gC3, Pd.mono (fun _ _ z => z.mono (e5.g.trans s.e.g)) pC, h', hg.zo, fun G6 H6 L6 s6 h6 => ?_⟩
    refine ⟨_, rfl, G6, _, rfl, h6.sub, fun G7 H7 x e7 hx => ?_⟩
    exact q G7 H7 L6 x ((((Step.ext (e1.trans (e3.trans e5))).trans s).trans s6).trans (Step.ext e7)) (h6.ext e7) hx
def fFlushBlock (K : PySem.W.Frag) : V → V → V → Hp → VK → XK → Prop := fun a b c H Q E => ∃ G L v p1 p2, a = .ref L.self ∧ AtV G p1 b ∧ AtV G p2 c ∧ VGood v ∧ VolAt K G H L v ∧ Door K G H L (doFlush v (nodeArg p1) (blockArg p2)) Q E
theorem d_flush_block (T : TxtX K mg) (D_running_node : DefOk P w K mg base (L2N.CX P w) 3 "running_node" ["volume", "value"] (Sp2 (fRunningNode K))) (D_block_number : DefOk P w K mg base (L2N.CX P w) 2 "block_number" ["volume", "value"] (Sp2 (fBlockNumber K)))
    (D_need_alone : DefOk P w K mg base (L2N.CX P w) 2 "need_alone" ["volume", "node", "block"] (Sp3 (fNeedAlone K))) (D_need_still : DefOk P w K mg base (L2N.CX P w) 3 "need_still" ["volume", "node", "block"] (Sp3 (fNeedStill K))) (D_change_under_way : DefOk P w K mg base CX0 2 "change_under_way" ["volume", "node", "block"] (Sp3 (fChUnder K)))
    (D_cached : DefOk P w K mg base CX0 2 "cached" ["volume", "node", "block"] (Sp3 (fCached K))) (D_need_room : DefOk P w K mg base (L2N.CX P w) 2 "need_room" ["volume"] (Sp1 (fNeedRoom K))) (D_Volume_start_write : MetOk P w K mg base CX0 1 (cVol K) "start_write" ["self", "node", "transaction", "changes"] (Sp4 (fStartWrite K)))
    (D_integer : DefOk P w K mg base CX0 1 "integer" ["number"] (Sp1 fInteger)) (F : Fs K mg "flush_block" s_flush_block) : DefOk P w K mg base (L2N.CX P w) 4 "flush_block" ["volume", "node_value", "block_value"] (Sp3 (fFlushBlock K)) :=
  def_R F sc_flush_block bd_flush_block fun f cdv A outer s H vs Q E hr h => by
    obtain ⟨_, _, _, rfl, G, L, v, p1, p2, rfl, a1, a2, hg, h, q⟩ := h
    refine ⟨_, (pss_cons (ps_set (i := 3) sc_flush_block.nd rfl (Or.inl rfl) (pe_d D_running_node (hr.mono (by decide)) passR (pa_cons (pv 0) (pa_cons (pv 1) pa_nil)))) (pss_cons (ps_set (i := 4) sc_flush_block.nd rfl (Or.inl rfl) (pe_d D_block_number (hr.mono (by decide)) passR (pa_cons (pv 0) (pa_cons (pv 2) pa_nil)))) (pss_cons (ps_expr (pe_d D_need_alone (hr.mono (by decide)) passR (pa_cons (pv 0) (pa_cons (pv 3) (pa_cons (pv 4) pa_nil))))) (pss_cons (ps_expr (pe_d D_need_still (hr.mono (by decide)) passR (pa_cons (pv 0) (pa_cons (pv 3) (pa_cons (pv 4) pa_nil))))) (pss_cons (ps_if (pt_val (pe_d D_change_under_way (hr.mono (by decide)) pass0 (pa_cons (pv 0) (pa_cons (pv 3) (pa_cons (pv 4) pa_nil))))) (pss_one (ps_rz T.x_OutOfRange hr (pa_cons pe_str pa_nil))) pss_nil) (pss_cons (ps_set (i := 5) sc_flush_block.nd rfl (Or.inl rfl) (pe_d D_cached (hr.mono (by decide)) pass0 (pa_cons (pv 0) (pa_cons (pv 3) (pa_cons (pv 4) pa_nil))))) (pss_cons (ps_if (pt_cmpR op_ge (pe_ix ix_tup (pe_ix ix_list (pe_fld (pv 0) rfl) (pv 4) (fun _ _ => rfl)) pe_int (fun _ _ => rfl)) (pe_ix ix_tup (pv 5) pe_int (fun _ _ => rfl)) (nomark _)) (pss_one (ps_rz T.x_OutOfRange hr (pa_cons pe_str pa_nil))) pss_nil) (pss_cons (ps_expr (pe_d D_need_room (hr.mono (by decide)) passR (pa_cons (pv 0) pa_nil))) (pss_one (ps_ret (pe_d D_integer (hr.mono (by decide)) pass0 (pa_cons (pe_m T.c_Volume D_Volume_start_write (hr.mono (by decide)) pass0 (pv 0) (pa_cons (pv 3) (pa_cons pe_int (pa_cons (pe_lst (pa_cons (pv 5) pa_nil)) pa_nil)))) pa_nil)))))))))))), ?_⟩
    refine ⟨_, rfl, _, rfl, _, _, rfl, G, L, v, p1, rfl, a1, hg.nn, h, (RC.then q).mono fun u hu q => ?_⟩
    obtain ⟨⟨n1, n2⟩, hrun⟩ := upNode_ok hu
    refine ⟨_, rfl, _, rfl, _, _, rfl, G, L, v, p2, rfl, a2, hg.bl, h, q.then.mono fun u hu q => ?_⟩
    have hb := aBlock_ok hu
    refine ⟨_, rfl, _, rfl, _, rfl, _, _, _, rfl, G, L, v, nodeArg p1, blockArg p2, rfl, rfl, rfl, hg, h, q.then.mono fun u hu q => ?_⟩
    refine ⟨_, rfl, _, rfl, _, rfl, _, _, _, rfl, G, L, v, nodeArg p1, blockArg p2, rfl, rfl, rfl, hg, h, q.then.mono fun u hu q G1 H1 e1 => ?_⟩
    have h1 := h.ext e1
    refine ⟨_, rfl, _, rfl, _, rfl, _, _, _, rfl, G1, L, v, nodeArg p1, blockArg p2, rfl, rfl, rfl, hg.few, h1, fun G2 H2 e2 => ⟨_, rfl, ?_⟩⟩
    have q := RC.ext q (e1.trans e2)
    have h2 := h1.ext e2
    rw [homing_eq hg]
    cases c : v.homing (nodeArg p1) (blockArg p2) with
    | true => exact iteT (RC.range h2.sub (q.then.no (by rw [c]; rfl)) (by kernel_rfl))
    | false =>
    have q := q.then.yes (by rw [c]; rfl)
    refine iteF ⟨_, rfl, _, rfl, _, rfl, _, _, _, rfl, G2, L, v, nodeArg p1, blockArg p2, rfl, rfl, rfl, n1, n2, h2, fun G3 H3 y e3 ⟨t, ey, ht⟩ => ?_⟩
    subst ey
    have q := RC.ext q e3
    have h3 := h2.ext e3
    obtain ⟨ds, u, hd, hat, hu⟩ := h3.cellAt hb
    refine ⟨_, rfl, _, _, _, _, _, rfl, h3.obj, T.c_Volume, T.n_Volume _ mm2, rfl, _, rfl, _, _, _, _, rfl, rfl, SqL.of hd, hat, u, _, _, _, rfl, rfl, SqT.of (h3.sub _ _ hu), rfl, _, rfl, t, _, _, _, rfl, rfl, SqT.of (h3.sub _ _ ht), rfl, _, _, rfl, rfl, _, rfl, ?_⟩
    cases ci : itemOf (v.node (nodeArg p1)).cache (blockArg p2) with
    | none =>
      rw [ci] at q
      have e0 : (cachedOf (v.node (nodeArg p1)) (blockArg p2)).version = 0 := by
        unfold cachedOf
        rw [ci]
        rfl
      rw [e0, decide_eq_true (by omega : (((v.cell (blockArg p2)).version : Nat) : Int) ≥ ((0 : Nat) : Int))]
      exact iteT (RC.range h3.sub q (by kernel_rfl))
    | some x =>
    rw [ci] at q
    have ex : cachedOf (v.node (nodeArg p1)) (blockArg p2) = x := by
      unfold cachedOf
      rw [ci]
      rfl
    rw [ex] at ht ⊢
    by_cases c1 : (v.cell (blockArg p2)).version < x.version
    case neg =>
      rw [decide_eq_true (by omega : (((v.cell (blockArg p2)).version : Nat) : Int) ≥ (x.version : Int))]
      exact iteT (RC.range h3.sub (q.then.no (decide_eq_false c1)) (by kernel_rfl))
    rw [decide_eq_false (by omega : ¬ (((v.cell (blockArg p2)).version : Nat) : Int) ≥ (x.version : Int))]
    have q := q.then.yes (decide_eq_true c1)
    refine iteF ⟨_, rfl, _, rfl, G3, L, v, rfl, h3, (RC.then q).mono fun u hu q => ?_⟩
    refine ⟨_, rfl, _, _, _, rfl, h3.obj, rfl, _, rfl, _, rfl, sz1, fun l hl => ?_⟩
    have e4 := (ExtF.refl (F := NoF) h3.sub).imm (o := .lst [.ref t]) hl
    refine ⟨_, _, _, _, rfl, _, L, v, nodeArg p1, .home x, l, [.ref t], rfl, rfl, rfl, rfl, upd_same, .cons (ItemAt.mono e4.g ⟨t, rfl, ht⟩) .nil, h3.ext e4, hg.zo, fun G5 H5 L5 s5 h5 => ?_⟩
    refine ⟨_, rfl, G5, _, rfl, h5.sub, fun G6 H6 y e6 hy => ?_⟩
    exact q G6 H6 L5 y (((Step.ext (((e1.trans e2).trans e3).trans e4)).trans s5).trans (Step.ext e6)) (h5.ext e6) hy
def neededP (v : Volume) (n : Nat) : Bool := !((v.logs n).isEmpty && (v.items n).all fun x => onDisk v x)
def fIsNeeded (K : PySem.W.Frag) : V → V → Hp → VK → XK → Prop := fun a b H Q _ => ∃ G L v, ∃ n : Nat, a = .ref L.self ∧ b = .int (n : Int) ∧ 1 ≤ n ∧ n ≤ v.nodes.length ∧ VGood v ∧ VolAt K G H L v ∧ RetV G H (.bl (neededP v n)) Q
theorem d_is_needed (T : TxtX K mg) (D_entries_under_way : DefOk P w K mg base CX0 1 "entries_under_way" ["volume", "node"] (Sp2 (fEntries K))) (D_read_changes : DefOk P w K mg base CX0 4 "read_changes" ["blocks", "octets"] (Sp2 (fReadChanges (K := K)))) (D_Volume_node_at : MetOk P w K mg base CX0 1 (cVol K) "node_at" ["self", "node"] (Sp2 (fNodeAt K))) (F : Fs K mg "is_needed" s_is_needed) : DefOk P w K mg base CX0 5 "is_needed" ["volume", "node"] (Sp2 (fIsNeeded K)) :=
  def_C F sc_is_needed bd_is_needed fun f cdv A outer s H vs Q E hr h => by
    obtain ⟨_, _, rfl, G, L, v, n, rfl, rfl, n1, n2, hg, h, q⟩ := h
    refine ⟨_, (pss_cons (ps_if (pt_cmpR op_gt (pe_callB call_len_seq (by rfl) T.z_len PySem.boot_len (pa_cons (pe_d D_entries_under_way (hr.mono (by decide)) pass0 (pa_cons (pv 0) (pa_cons (pv 1) pa_nil))) pa_nil)) pe_int (nomark _)) (pss_one (ps_ret pe_bl)) pss_nil) (pss_cons (ps_for PassesOwn.never rfl (pi_list (pe_d D_read_changes (hr.mono (by decide)) pass0 (pa_cons (pe_fld (pv 0) rfl) (pa_cons (pe_fld (pe_m T.c_Volume D_Volume_node_at (hr.mono (by decide)) pass0 (pv 0) (pa_cons (pv 1) pa_nil)) rfl) pa_nil)))) (pg_tup rfl (pgs_cons (pg_name (i := 2) sc_is_needed.nd rfl (Or.inl rfl)) (pgs_cons (pg_name (i := 3) sc_is_needed.nd rfl (Or.inl rfl)) (pgs_cons (pg_name (i := 4) sc_is_needed.nd rfl (Or.inl rfl)) pgs_nil)))) (pss_one (ps_if (pt_cmpR op_lt (pe_ix ix_tup (pe_ix ix_list (pe_fld (pv 0) rfl) (pv 2) (fun _ _ => rfl)) pe_int (fun _ _ => rfl)) (pv 3) (nomark _)) (pss_one (ps_ret pe_bl)) pss_nil))) (pss_one (ps_ret pe_bl)))), ?_⟩
    refine ⟨_, rfl, _, rfl, _, _, rfl, G, L, v, n, rfl, rfl, hg.zo, h, fun D ys hD pd => ⟨_, _, rfl, .inl (SqL.of upd_same), _, _, rfl, rfl, _, rfl, ?_⟩⟩
    have e1 := (ExtF.refl (F := NoF) h.sub).mut (o := .lst ys) hD
    have h1 := h.ext e1
    rw [logs_eq hg] at pd
    have len := Pd.len pd
    unfold neededP at q
    by_cases c : ys.length = 0
    case neg =>
      rw [decide_eq_true (by omega : (ys.length : Int) > 0)]
      have ee : (v.logs n).isEmpty = false := by
        cases e : v.logs n with
        | nil =>
          rw [e] at len
          exact absurd len.symm c
        | cons _ _ => rfl
      rw [ee] at q
      exact iteT (q _ _ e1)
    rw [decide_eq_false (by omega : ¬ (ys.length : Int) > 0)]
    have ee : (v.logs n).isEmpty = true := by
      cases e : v.logs n with
      | nil => rfl
      | cons _ _ =>
        rw [e, List.length_cons] at len
        omega
    rw [ee, Bool.true_and] at q
    have hx := h1.node _ _ (node_get n1 n2)
    refine iteF ⟨_, rfl, _, _, _, _, _, rfl, h1.obj, T.c_Volume, T.n_Volume _ mm0, rfl, _, rfl, _, _, _, rfl, h1.obj, rfl, _, rfl, _, _, rfl, G, L, v, n, rfl, rfl, n1, n2, h1, _, _, _, _, _, rfl, hx.obj, T.c_Node, T.n_Node _ mm6, rfl, _, _, rfl, G, _, _, v.disk.length, rfl, rfl, h1.sub, SqL.of (h1.sub _ _ hx.js), Nat.le_trans (hg.zn (node_mem n1 n2)).2 (by decide), fun G2 H2 D2 zs e2 g2 p2 => ?_⟩
    have e12 := e1.trans e2
    have h2 := h1.ext e2
    have pI : Paired (ItemAt G2) (v.items n) zs := p2
    have bI : ∀ x ∈ v.items n, x.block < v.disk.length := fun x hx => by
      obtain ⟨e, he, hx⟩ := List.mem_flatten.mp hx
      exact journal_blk e he x hx
    refine ⟨D2, rfl, ⟨_, SqL.of (e2.sub _ _ g2)⟩, for_run (K := K) (a := D2) (xs := zs)
      (fun r σ H' => H' = H2 ∧ (∃ x2 x3 x4, σ = [some (.ref L.self), some (.int (n : Int)), x2, x3, x4]) ∧ ∃ rest, Paired (ItemAt G2) rest r ∧ (∀ x ∈ rest, x.block < v.disk.length) ∧ ((v.items n).all fun x => onDisk v x) = rest.all fun x => onDisk v x) ⟨rfl, ⟨_, _, _, rfl⟩, _, pI, bI, rfl⟩ ?_ ?_ ?_⟩
    · rintro r σ H' ⟨rfl, _⟩
      exact SqL.of (e2.sub _ _ g2)
    · rintro t r σ H' ⟨rfl, ⟨x2, x3, x4, rfl⟩, rest, pr, hb, ef⟩
      cases pr with
      | cons hm pr =>
      rename_i m rest
      obtain ⟨a, rfl, ha⟩ := hm
      obtain ⟨ds, u, hd, hat, hu⟩ := h2.cellAt (hb m List.mem_cons_self)
      rw [List.all_cons] at ef
      refine ⟨a, _, rfl, SqT.of (h2.sub _ _ ha), rfl, _, _, rfl, _, _, rfl, _, _, rfl, rfl, _, rfl, _, _, _, _, _, rfl, h2.obj, T.c_Volume, T.n_Volume _ mm2, rfl, _, rfl, _, _, _, _, rfl, rfl, SqL.of hd, hat, u, _, _, _, rfl, rfl, SqT.of (h2.sub _ _ hu), rfl, _, rfl, _, _, rfl, rfl, _, rfl, ?_⟩
      by_cases c1 : m.version ≤ (v.cell m.block).version
      · rw [decide_eq_false (by omega : ¬ (((v.cell m.block).version : Nat) : Int) < (m.version : Int))]
        have eo : onDisk v m = true := decide_eq_true c1
        rw [eo, Bool.true_and] at ef
        exact iteF ⟨rfl, ⟨_, _, _, rfl⟩, rest, pr, fun x hx => hb x (List.mem_cons_of_mem _ hx), ef⟩
      · rw [decide_eq_true (by omega : (((v.cell m.block).version : Nat) : Int) < (m.version : Int))]
        have eo : onDisk v m = false := decide_eq_false c1
        rw [eo, Bool.false_and] at ef
        rw [ef] at q
        exact iteT (q _ _ e12)
    · rintro σ H' ⟨rfl, ⟨x2, x3, x4, rfl⟩, rest, pr, hb, ef⟩
      cases pr
      rw [ef] at q
      exact q _ _ e12
def fTrim (K : PySem.W.Frag) : V → V → Hp → VK → XK → Prop := fun a b H Q E => ∃ G L v p1, a = .ref L.self ∧ AtV G p1 b ∧ VGood v ∧ VolAt K G H L v ∧ Door K G H L (doTrim v (nodeArg p1)) Q E
theorem d_trim_journal (T : TxtX K mg) (D_running_node : DefOk P w K mg base (L2N.CX P w) 3 "running_node" ["volume", "value"] (Sp2 (fRunningNode K))) (D_is_needed : DefOk P w K mg base CX0 5 "is_needed" ["volume", "node"] (Sp2 (fIsNeeded K))) (D_Volume_node_at : MetOk P w K mg base CX0 1 (cVol K) "node_at" ["self", "node"] (Sp2 (fNodeAt K)))
    (D_Node_empty : MetOk P w K mg base CX0 1 (cNode K) "empty" ["self"] (Sp1 (fN0 K nEmpty))) (D_nothing : DefOk P w K mg base CX0 1 "nothing" [] (Sp0 fNothing)) (F : Fs K mg "trim_journal" s_trim_journal) : DefOk P w K mg base (L2N.CX P w) 6 "trim_journal" ["volume", "node_value"] (Sp2 (fTrim K)) :=
  def_R F sc_trim_journal bd_trim_journal fun f cdv A outer s H vs Q E hr h => by
    obtain ⟨_, _, rfl, G, L, v, p1, rfl, a1, hg, h, q⟩ := h
    refine ⟨_, (pss_cons (ps_set (i := 2) sc_trim_journal.nd rfl (Or.inl rfl) (pe_d D_running_node (hr.mono (by decide)) passR (pa_cons (pv 0) (pa_cons (pv 1) pa_nil)))) (pss_cons (ps_if (pt_val (pe_d D_is_needed (hr.mono (by decide)) pass0 (pa_cons (pv 0) (pa_cons (pv 2) pa_nil)))) (pss_one (ps_rz T.x_OutOfRange hr (pa_cons pe_str pa_nil))) pss_nil) (pss_cons (ps_expr (pe_m0 T.c_Node D_Node_empty (hr.mono (by decide)) pass0 (pe_m T.c_Volume D_Volume_node_at (hr.mono (by decide)) pass0 (pv 0) (pa_cons (pv 2) pa_nil)))) (pss_one (ps_ret (pe_d0 D_nothing (hr.mono (by decide)) pass0)))))), ?_⟩
    refine ⟨_, rfl, _, rfl, _, _, rfl, G, L, v, p1, rfl, a1, hg.nn, h, (RC.then q).mono fun u hu q => ?_⟩
    obtain ⟨⟨n1, n2⟩, hrun⟩ := upNode_ok hu
    refine ⟨_, rfl, _, rfl, _, _, rfl, G, L, v, nodeArg p1, rfl, rfl, n1, n2, hg, h, fun G1 H1 e1 => ⟨_, rfl, ?_⟩⟩
    have q := RC.ext q e1
    have h1 := h.ext e1
    unfold neededP
    cases c : ((v.logs (nodeArg p1)).isEmpty && (v.items (nodeArg p1)).all fun x => onDisk v x) with
    | false => exact iteT (RC.range h1.sub (q.then.no c) (by kernel_rfl))
    | true =>
    have q := q.then.yes c
    have hx := h1.node _ _ (node_get n1 n2)
    refine iteF ⟨_, rfl, _, _, _, rfl, h1.obj, rfl, _, rfl, _, _, rfl, G1, L, v, nodeArg p1, rfl, rfl, n1, n2, h1, _, _, _, rfl, hx.obj, rfl, _, rfl, G1, L, v, nodeArg p1 - 1, _, rfl, node_get n1 n2, h1, fun G2 H2 L2 s2 h2 => ?_⟩
    refine ⟨rfl, G2, h2.sub, fun G3 H3 y e3 hy => ?_⟩
    exact q G3 H3 L2 y (((Step.ext e1).trans s2).trans (Step.ext e3)) (h2.ext e3) hy
def RetO (K : PySem.W.Frag) (G H : Hp) (o : Option Op) (Q : VK) (E : XK) : Prop := match o with
  | some o => ∀ x, OpAt G o x → Q x H
  | none => Rai K G H (typeErr "write must be the number of a write under way") E
theorem op_find {v : Volume} (hg : VGood v) (i : Int) : findOp v (opArg (.num (some i))) = v.ops.find? fun o => decide ((o.id : Int) = i) := by
  obtain ⟨c, hc, z⟩ := hg
  have nop := z.nop.2
  unfold findOp
  have key : ∀ o ∈ v.ops, (o.id == opArg (.num (some i))) = decide ((o.id : Int) = i) := fun o m => by
    have ids := z.ids o m
    unfold opArg
    cases h : integerIn 1 9007199254740991 (.num (some i)) with
    | some n =>
      have e := (inR_yes h).1
      injection e with e
      injection e with e
      subst e
      show (o.id == n) = decide ((o.id : Int) = (n : Int))
      by_cases c1 : o.id = n
      · rw [beq_iff_eq.mpr c1, decide_eq_true (by omega)]
      · rw [beq_eq_false_iff_ne.mpr c1, decide_eq_false (by omega)]
    | none =>
      show (o.id == 0) = _
      rw [beq_eq_false_iff_ne.mpr (by omega : o.id ≠ 0)]
      symm
      refine decide_eq_false fun e => ?_
      subst e
      have h' : (if Int.ofNat 1 ≤ (o.id : Int) ∧ (o.id : Int) ≤ Int.ofNat 9007199254740991 then some ((o.id : Int)).toNat else none) = none := h
      rw [if_pos ⟨by show ((1 : Nat) : Int) ≤ _; omega, by show _ ≤ ((9007199254740991 : Nat) : Int); omega⟩] at h'
      cases h'
  generalize v.ops = l at key
  induction l with
  | nil => rfl
  | cons o r ih =>
    rw [List.find?_cons, List.find?_cons, key o List.mem_cons_self, ih fun o m => key o (List.mem_cons_of_mem _ m)]
theorem op_none {v : Volume} (hg : VGood v) {p : Plain} (h : opArg p = 0) : findOp v (opArg p) = none := by
  obtain ⟨c, hc, z⟩ := hg
  unfold findOp
  rw [h, List.find?_eq_none]
  intro o m e
  have ids := z.ids o m
  have := beq_iff_eq.mp e
  omega
def fWriteOf (K : PySem.W.Frag) : V → V → Hp → VK → XK → Prop := fun a b H Q E => ∃ G L v p, a = .ref L.self ∧ AtV G p b ∧ VGood v ∧ VolAt K G H L v ∧ RetO K G H (findOp v (opArg p)) Q E
theorem d_write_of (T : TxtX K mg) (F : Fs K mg "write_of" s_write_of) : DefOk P w K mg base (L2N.CX P w) 2 "write_of" ["volume", "value"] (Sp2 (fWriteOf K)) := DefOk.mono (def_R F sc_write_of bd_write_of (k := 0) fun f cdv A outer s H vs Q E hr h => by
    obtain ⟨_, _, rfl, G, L, v, p, rfl, hp, hg, h, q⟩ := h
    obtain ⟨a, c, rfl, ha⟩ := hp.pair
    have tt := SqT.of (K := K) (h.sub _ _ ha)
    refine ⟨_, (pss_cons (ps_if (pt_cmpR op_eq (pe_ix ix_tup (pv 1) pe_int (fun _ _ => rfl)) (pe_gi T.i_INTEGER) (nomark _)) (pss_one (ps_for passO rfl (pi_list (pe_fld (pv 0) rfl)) (pg_name (i := 2) sc_write_of.nd rfl (Or.inl rfl)) (pss_one (ps_if (pt_cmpR op_eq (pe_ix ix_tup (pv 2) pe_int (fun _ _ => rfl)) (pe_ix ix_tup (pv 1) pe_int (fun _ _ => rfl)) (nomark _)) (pss_one (ps_ret (pv 2))) pss_nil)))) pss_nil) (pss_one (ps_rz T.x_WrongKind hr (pa_cons pe_str pa_nil)))), ?_⟩
    refine ⟨_, rfl, a, _, _, _, rfl, rfl, tt, rfl, rfl, _, rfl, ?_⟩
    have fin : findOp v (opArg p) = none → Rai K G H (typeErr "write must be the number of a write under way") E := fun e => by
      rw [e] at q
      exact q
    match p, hp, ha, tt, q, fin with
    | .undef, _, _, _, _, fin => exact iteF (RC.wrong h.sub (fin (op_none hg rfl)) (by kernel_rfl))
    | .null, _, _, _, _, fin => exact iteF (RC.wrong h.sub (fin (op_none hg rfl)) (by kernel_rfl))
    | .bool true, _, _, _, _, fin => exact iteF (RC.wrong h.sub (fin (op_none hg rfl)) (by kernel_rfl))
    | .bool false, _, _, _, _, fin => exact iteF (RC.wrong h.sub (fin (op_none hg rfl)) (by kernel_rfl))
    | .str _, _, _, _, _, fin => exact iteF (RC.wrong h.sub (fin (op_none hg rfl)) (by kernel_rfl))
    | .arr _, _, _, _, _, fin => exact iteF (RC.wrong h.sub (fin (op_none hg rfl)) (by kernel_rfl))
    | .obj _, _, _, _, _, fin => exact iteF (RC.wrong h.sub (fin (op_none hg rfl)) (by kernel_rfl))
    | .num x, hp, ha, tt, q, fin =>
    obtain ⟨_, i, e, rfl, h2⟩ := hp
    cases e
    rw [ha] at h2
    cases h2
    rw [op_find hg] at q fin
    obtain ⟨ls, hl, pl⟩ := h.writes
    refine iteT ⟨_, rfl, _, _, _, _, _, rfl, h.obj, T.c_Volume, T.n_Volume _ mm6, rfl, _, rfl, ⟨_, SqL.of hl⟩, for_run (K := K) (a := L.writes) (xs := ls)
      (fun r σ H' => H' = H ∧ (∃ x2, σ = [some (.ref L.self), some (.ref a), x2]) ∧ ∃ rest, Paired (OpAt G) rest r ∧ (v.ops.find? fun o => decide ((o.id : Int) = i)) = rest.find? fun o => decide ((o.id : Int) = i)) ⟨rfl, ⟨_, rfl⟩, _, pl, rfl⟩ ?_ ?_ ?_⟩
    · rintro r σ H' ⟨rfl, _⟩
      exact SqL.of hl
    · rintro t r σ H' ⟨rfl, ⟨x2, rfl⟩, rest, pr, ef⟩
      cases pr with
      | cons hm pr =>
      rename_i m rest
      have hm0 := hm
      obtain ⟨b, l2, vs2, rfl, hb, _⟩ := hm
      rw [List.find?_cons] at ef
      refine ⟨_, rfl, b, _, _, _, rfl, rfl, SqT.of (h.sub _ _ hb), rfl, _, rfl, a, _, _, _, rfl, rfl, tt, rfl, rfl, _, rfl, ?_⟩
      by_cases c1 : (m.id : Int) = i
      · rw [decide_eq_true c1] at ef
        rw [decide_eq_true (by rw [c1] : V.int (m.id : Int) = V.int i)]
        rw [ef] at q
        exact iteT ⟨_, rfl, q _ hm0⟩
      · rw [decide_eq_false c1] at ef
        rw [decide_eq_false (fun z : V.int (m.id : Int) = V.int i => c1 (by injection z))]
        exact iteF ⟨rfl, ⟨_, rfl⟩, rest, pr, ef⟩
    · rintro σ H' ⟨rfl, ⟨x2, rfl⟩, rest, pr, ef⟩
      cases pr
      exact RC.wrong h.sub (fin ef) (by kernel_rfl)) (by decide)
end
end Ov
set_option maxHeartbeats 4000000
/-! V10: writes land; losing. -/
namespace Ov
open PySem PySem.Spec PyProof.Rows L2
open R7237f.Spec (Plain Units Item Cell Lock Replay Op Way Volume Err Res andThen require typeErr rangeErr itemOf integerIn nodeArg blockArg entryBytes doLand doCrash doShut doReplay doFree doBoot opArg findOp dropOp tornArg tornOff shutNode logged writeCell isOldest mayReplay replayIndex Told toldPlain)
theorem cut_take (ns : List Nat) (k : Nat) : cutV (nlst ns) none (some (k : Int)) = nlst (ns.take k) := by
  unfold cutV
  rw [HT.sIx_none, HT.sIx_nat, List.drop_zero, Nat.sub_zero]
  unfold nlst
  rw [List.map_take, List.length_map]
  by_cases c : k ≤ ns.length
  · rw [Nat.min_eq_left c]
  · rw [Nat.min_eq_right (by omega), List.take_of_length_le (by rw [List.length_map]; exact Nat.le_refl _), List.take_of_length_le (by rw [List.length_map]; omega)]
theorem find_mem {v : Volume} {k : Nat} {o : Op} (h : findOp v k = some o) : o ∈ v.ops ∧ o.id = k := by
  have h' : (v.ops.find? fun o => o.id == k) = some o := h
  have e := List.find?_some h'
  exact ⟨List.mem_of_find?_eq_some h', beq_iff_eq.mp e⟩
theorem land_none {v : Volume} {k : Nat} (h : findOp v k = none) : doLand v k = .error (typeErr "write must be the number of a write under way") := by
  unfold doLand
  rw [h]
theorem land_home {v : Volume} {k : Nat} {o : Op} {y : Item} (h : findOp v k = some o) (hw : o.way = .home y) : doLand v k = .ok (writeCell (dropOp v k) y, .nothing) := by
  unfold doLand
  rw [h]
  simp only [hw]
theorem land_log {v : Volume} {k t : Nat} {o : Op} {e : List Item} (h : findOp v k = some o) (hw : o.way = .log t e) : doLand v k = if isOldest v o then .ok (logged (dropOp v k) o.node t e, .number t) else .error (rangeErr "an earlier entry is under way") := by
  unfold doLand
  rw [h]
  simp only [hw]
theorem bytes_le {e : List Item} (h : e.length ≤ 8) : (entryBytes e).length ≤ 41 := by
  rw [eb_len]
  omega
theorem bytes_le' {e : List Item} (h : e.length ≤ 1000) : (entryBytes e).length ≤ 6000 := by
  rw [eb_len]
  omega
def arriveV (v : Volume) (n : Nat) (os : List Nat) : Volume := { v with nodes := v.nodes.set (n - 1) { v.node n with journal := (v.node n).journal ++ os } }
def commV (v : Volume) (t : Nat) (e : List Item) : Volume := { v with committed := v.committed ++ [(t, e)] }
section
variable {P : Program} {w : World} {K : PySem.W.Frag} {mg : Str → Option Value} {base : Heap}
abbrev s_crash_node : Stmt := top 68
theorem sc_crash_node : FnScope ["volume", "node_value", "node"] ["volume", "node_value"] (defScope s_crash_node) := ⟨rfl, rfl, rfl, by decide +kernel, rfl, by decide +kernel, by decide +kernel⟩
theorem bd_crash_node : Bd "crash_node" "crash_node" s_crash_node ["volume", "node_value"] := fun _ _ _ _ _ _ us hl => match us, hl with | [_, _], _ => rfl
abbrev s_torn_number : Stmt := top 69
theorem sc_torn_number : FnScope ["value"] ["value"] (defScope s_torn_number) := ⟨rfl, rfl, rfl, by decide +kernel, rfl, by decide +kernel, by decide +kernel⟩
theorem bd_torn_number : Bd "torn_number" "torn_number" s_torn_number ["value"] := fun _ _ _ _ _ _ us hl => match us, hl with | [_], _ => rfl
abbrev s_tear : Stmt := top 70
theorem sc_tear : FnScope ["volume", "write", "torn", "number", "node", "transaction", "changes", "octets"] ["volume", "write", "torn"] (defScope s_tear) := ⟨rfl, rfl, rfl, by decide +kernel, rfl, by decide +kernel, by decide +kernel⟩
theorem bd_tear : Bd "tear" "tear" s_tear ["volume", "write", "torn"] := fun _ _ _ _ _ _ us hl => match us, hl with | [_, _, _], _ => rfl
abbrev s_shut_node : Stmt := top 71
theorem sc_shut_node : FnScope ["volume", "node_value", "torn_value", "torn", "node", "entries"] ["volume", "node_value", "torn_value"] (defScope s_shut_node) := ⟨rfl, rfl, rfl, by decide +kernel, rfl, by decide +kernel, by decide +kernel⟩
theorem bd_shut_node : Bd "shut_node" "shut_node" s_shut_node ["volume", "node_value", "torn_value"] := fun _ _ _ _ _ _ us hl => match us, hl with | [_, _, _], _ => rfl
def fLand (K : PySem.W.Frag) : V → V → Hp → VK → XK → Prop := fun a b H Q E => ∃ G L v p1, a = .ref L.self ∧ AtV G p1 b ∧ VGood v ∧ VolAt K G H L v ∧ Door K G H L (doLand v (opArg p1)) Q E
theorem d_land_write (T : TxtX K mg) (D_write_of : DefOk P w K mg base (L2N.CX P w) 2 "write_of" ["volume", "value"] (Sp2 (fWriteOf K))) (D_Volume_put : MetOk P w K mg base CX0 1 (cVol K) "put" ["self", "change"] (Sp2 (fPut K))) (D_Volume_end_write : MetOk P w K mg base CX0 1 (cVol K) "end_write" ["self", "number"] (Sp2 (fEndWrite K)))
    (D_nothing : DefOk P w K mg base CX0 1 "nothing" [] (Sp0 fNothing)) (D_entries_under_way : DefOk P w K mg base CX0 1 "entries_under_way" ["volume", "node"] (Sp2 (fEntries K))) (D_Volume_node_at : MetOk P w K mg base CX0 1 (cVol K) "node_at" ["self", "node"] (Sp2 (fNodeAt K)))
    (D_Node_arrive : MetOk P w K mg base CX0 1 (cNode K) "arrive" ["self", "octets"] (Sp2 (fArrive K))) (D_entry_octets : DefOk P w K mg base CX0 1 "entry_octets" ["changes"] (Sp1 (fEntryOctets (K := K)))) (D_Volume_settle : MetOk P w K mg base CX0 1 (cVol K) "settle" ["self", "transaction", "changes"] (Sp3 (fSettle K)))
    (D_integer : DefOk P w K mg base CX0 1 "integer" ["number"] (Sp1 fInteger)) (F : Fs K mg "land_write" s_land_write) : DefOk P w K mg base (L2N.CX P w) 3 "land_write" ["volume", "write_value"] (Sp2 (fLand K)) :=
  def_R F sc_land_write bd_land_write fun f cdv A outer s H vs Q E hr h => by
    obtain ⟨_, _, rfl, G, L, v, p1, rfl, a1, hg, h, q⟩ := h
    obtain ⟨c, hc, z⟩ := id hg
    refine ⟨_, (pss_cons (ps_asg (pe_d D_write_of (hr.mono (by decide)) passR (pa_cons (pv 0) (pa_cons (pv 1) pa_nil))) (pg_tup rfl (pgs_cons (pg_name (i := 2) sc_land_write.nd rfl (Or.inl rfl)) (pgs_cons (pg_name (i := 3) sc_land_write.nd rfl (Or.inl rfl)) (pgs_cons (pg_name (i := 4) sc_land_write.nd rfl (Or.inl rfl)) (pgs_cons (pg_name (i := 5) sc_land_write.nd rfl (Or.inl rfl)) pgs_nil)))))) (pss_cons (ps_if (pt_cmpR op_eq (pv 4) pe_int (nomark _)) (pss_cons (ps_expr (pe_m T.c_Volume D_Volume_put (hr.mono (by decide)) pass0 (pv 0) (pa_cons (pe_ix ix_list (pv 5) pe_int (fun _ _ => rfl)) pa_nil))) (pss_cons (ps_expr (pe_m T.c_Volume D_Volume_end_write (hr.mono (by decide)) pass0 (pv 0) (pa_cons (pv 2) pa_nil))) (pss_one (ps_ret (pe_d0 D_nothing (hr.mono (by decide)) pass0))))) pss_nil) (pss_cons (ps_if (pt_cmpR op_ne (pe_ix ix_tup (pe_ix ix_list (pe_d D_entries_under_way (hr.mono (by decide)) pass0 (pa_cons (pv 0) (pa_cons (pv 3) pa_nil))) pe_int (fun _ _ => rfl)) pe_int (fun _ _ => rfl)) (pv 2) (nomark _)) (pss_one (ps_rz T.x_OutOfRange hr (pa_cons pe_str pa_nil))) pss_nil) (pss_cons (ps_expr (pe_m T.c_Node D_Node_arrive (hr.mono (by decide)) pass0 (pe_m T.c_Volume D_Volume_node_at (hr.mono (by decide)) pass0 (pv 0) (pa_cons (pv 3) pa_nil)) (pa_cons (pe_d D_entry_octets (hr.mono (by decide)) pass0 (pa_cons (pv 5) pa_nil)) pa_nil))) (pss_cons (ps_expr (pe_m T.c_Volume D_Volume_settle (hr.mono (by decide)) pass0 (pv 0) (pa_cons (pv 4) (pa_cons (pv 5) pa_nil)))) (pss_cons (ps_expr (pe_m T.c_Volume D_Volume_end_write (hr.mono (by decide)) pass0 (pv 0) (pa_cons (pv 2) pa_nil))) (pss_one (ps_ret (pe_d D_integer (hr.mono (by decide)) pass0 (pa_cons (pv 4) pa_nil)))))))))), ?_⟩
    refine ⟨_, rfl, _, rfl, _, _, rfl, G, L, v, p1, rfl, a1, hg, h, ?_⟩
    cases eo : findOp v (opArg p1) with
    | none =>
      rw [land_none eo] at q
      exact q
    | some o =>
    obtain ⟨om, oid⟩ := find_mem eo
    intro x hx
    obtain ⟨a, l, zs, rfl, ha, hl, pz⟩ := hx
    refine ⟨a, _, rfl, SqT.of (h.sub _ _ ha), rfl, _, _, rfl, _, _, rfl, _, _, rfl, _, _, rfl, rfl, _, rfl, rfl, _, rfl, ?_⟩
    rw [show (V.int 0) = V.int ((0 : Nat) : Int) from rfl, dI]
    cases ew : o.way with
    | home y =>
      rw [land_home eo ew] at q
      rw [ew] at pz
      have q : ∀ G' H' L' x, Step L G H L' G' H' → VolAt K G' H' L' (writeCell (dropOp v (opArg p1)) y) → AtV G' (toldPlain Told.nothing) x → Q x H' := q
      cases pz with
      | cons hy pz =>
      rename_i yv zs
      have hb := z.blk o om y (by rw [ew]; exact List.mem_cons_self)
      refine iteT ⟨_, rfl, _, _, _, rfl, h.obj, rfl, _, rfl, l, _, _, _, rfl, rfl, SqL.of (h.sub _ _ hl), atI_nat (j := 0) rfl, _, _, rfl, G, L, v, y, rfl, hy, hb, h, fun G1 H1 L1 s1 v1 => ?_⟩
      rw [← s1.self]
      refine ⟨_, rfl, _, _, _, rfl, v1.obj, rfl, _, rfl, _, _, rfl, G1, L1, writeCell v y, opArg p1, rfl, by rw [oid], v1, hg.zo, fun G2 H2 L2 s2 v2 => ?_⟩
      refine ⟨rfl, G2, v2.sub, fun G3 H3 x e3 hx => ?_⟩
      exact q G3 H3 L2 x ((s1.trans s2).trans (Step.ext e3)) (v2.ext e3) hx
    | log t e =>
      have ht := z.tx o om t e ew
      have few := z.few o om
      have opn := z.opn o om
      rw [land_log eo ew] at q
      rw [ew] at pz ha few
      have pz : Paired (ItemAt G) e zs := pz
      have few : 1 ≤ e.length ∧ e.length ≤ 8 := few
      have t0 : (wTx (.log t e) == 0) = false := beq_eq_false_iff_ne.mpr (by show t ≠ 0; omega)
      rw [t0]
      refine iteF ⟨_, rfl, _, rfl, _, _, rfl, G, L, v, o.node, rfl, rfl, hg.zo, h, fun D ys hD pd => ?_⟩
      have e1 := (ExtF.refl (F := NoF) h.sub).mut (o := .lst ys) hD
      have h1 := h.ext e1
      rw [logs_eq hg] at pd
      have q0 : RC K G H (if isOldest v o then .ok (logged (dropOp v (opArg p1)) o.node t e, .number t) else .error (rangeErr "an earlier entry is under way") : Res (Volume × Told)) (fun ut => ∀ G' H' L' x, Step L G H L' G' H' → VolAt K G' H' L' ut.1 → AtV G' (toldPlain ut.2) x → Q x H') E := q
      cases el : v.logs o.node with
      | nil =>
        have m : o ∈ v.logs o.node := List.mem_filter.mpr ⟨om, by rw [ew]; show (o.node == o.node && true) = true; rw [beq_self_eq_true]; rfl⟩
        rw [el] at m
        cases m
      | cons p rest =>
      rw [el] at pd
      cases pd with
      | cons hp0 pd =>
      rename_i pv ys
      obtain ⟨b, l2, zs2, rfl, hb, _⟩ := hp0
      refine ⟨D, _, _, _, rfl, rfl, SqL.of upd_same, atI_nat (j := 0) rfl, b, _, _, _, rfl, rfl, SqT.of (h1.sub _ _ hb), atI_nat (j := 0) rfl, _, rfl, rfl, _, rfl, ?_⟩
      rw [dI]
      have eold : isOldest v o = (p.id == o.id) := by
        unfold isOldest
        rw [el]
      rw [eold] at q0
      cases c1 : (p.id == o.id) with
      | false =>
        rw [c1] at q0
        exact iteT (RC.range e1.sub (Rai.ext q0 e1) (by kernel_rfl))
      | true =>
      rw [c1] at q0
      have q0 : ∀ G' H' L' x, Step L G H L' G' H' → VolAt K G' H' L' (logged (dropOp v (opArg p1)) o.node t e) → AtV G' (toldPlain (Told.number t)) x → Q x H' := q0
      have nl := o.node
      have hx := h1.node _ _ (node_get opn.1 opn.2)
      refine iteF ⟨_, rfl, _, _, _, rfl, h1.obj, rfl, _, rfl, _, _, rfl, G, L, v, o.node, rfl, rfl, opn.1, opn.2, h1, _, _, _, rfl, hx.obj, rfl, _, rfl, _, rfl, G, l, zs, e, rfl, SqL.of (h1.sub _ _ hl), h1.sub, pz, by omega, fun D2 hD2 => ?_⟩
      have e2 := (ExtF.refl (F := NoF) h1.sub).mut (o := .lst (nlst (entryBytes e))) hD2
      have h2 := h1.ext e2
      refine ⟨_, _, rfl, G, L, v, o.node - 1, _, entryBytes e, rfl, node_get opn.1 opn.2, ⟨D2, rfl, upd_same⟩, ?_, h2, fun G3 H3 L3 s3 v3 => ?_⟩
      · have z1 := (hg.zn (node_mem opn.1 opn.2)).2
        have z2 := bytes_le few.2
        omega
      rw [← s3.self]
      have v3 : VolAt K G3 H3 L3 (arriveV v o.node (entryBytes e)) := v3
      refine ⟨_, rfl, _, _, _, rfl, v3.obj, rfl, _, rfl, _, rfl, _, _, _, rfl, G3, L3, arriveV v o.node (entryBytes e), t, e, l, zs, rfl, rfl, rfl, s3.e.g _ _ hl, Pd.mono (fun _ _ z => z.mono s3.e.g) pz, fun x hx => z.blk o om x (by rw [ew]; exact hx), v3, hg.zc, fun G4 H4 L4 s4 v4 => ?_⟩
      rw [← s4.self]
      have v4 : VolAt K G4 H4 L4 (commV (arriveV v o.node (entryBytes e)) t e) := v4
      refine ⟨_, rfl, _, _, _, rfl, v4.obj, rfl, _, rfl, _, _, rfl, G4, L4, commV (arriveV v o.node (entryBytes e)) t e, opArg p1, rfl, by rw [oid], v4, hg.zo, fun G5 H5 L5 s5 v5 => ?_⟩
      refine ⟨_, rfl, _, rfl, G5, _, rfl, v5.sub, fun G6 H6 x e6 hx => ?_⟩
      exact q0 G6 H6 L5 x (((((Step.ext (e1.trans e2)).trans s3).trans s4).trans s5).trans (Step.ext e6)) (v5.ext e6) hx
def fCrash (K : PySem.W.Frag) : V → V → Hp → VK → XK → Prop := fun a b H Q E => ∃ G L v p1, a = .ref L.self ∧ AtV G p1 b ∧ VGood v ∧ VolAt K G H L v ∧ Door K G H L (doCrash v (nodeArg p1)) Q E
theorem d_crash_node (T : TxtX K mg) (D_running_node : DefOk P w K mg base (L2N.CX P w) 3 "running_node" ["volume", "value"] (Sp2 (fRunningNode K))) (D_Volume_node_at : MetOk P w K mg base CX0 1 (cVol K) "node_at" ["self", "node"] (Sp2 (fNodeAt K)))
    (D_Node_lose : MetOk P w K mg base CX0 1 (cNode K) "lose" ["self"] (Sp1 (fN0 K nLose))) (D_nothing : DefOk P w K mg base CX0 1 "nothing" [] (Sp0 fNothing)) (F : Fs K mg "crash_node" s_crash_node) : DefOk P w K mg base (L2N.CX P w) 4 "crash_node" ["volume", "node_value"] (Sp2 (fCrash K)) :=
  def_R F sc_crash_node bd_crash_node fun f cdv A outer s H vs Q E hr h => by
    obtain ⟨_, _, rfl, G, L, v, p1, rfl, a1, hg, h, q⟩ := h
    refine ⟨_, (pss_cons (ps_set (i := 2) sc_crash_node.nd rfl (Or.inl rfl) (pe_d D_running_node (hr.mono (by decide)) passR (pa_cons (pv 0) (pa_cons (pv 1) pa_nil)))) (pss_cons (ps_expr (pe_m0 T.c_Node D_Node_lose (hr.mono (by decide)) pass0 (pe_m T.c_Volume D_Volume_node_at (hr.mono (by decide)) pass0 (pv 0) (pa_cons (pv 2) pa_nil)))) (pss_one (ps_ret (pe_d0 D_nothing (hr.mono (by decide)) pass0))))), ?_⟩
    refine ⟨_, rfl, _, rfl, _, _, rfl, G, L, v, p1, rfl, a1, hg.nn, h, (RC.then q).mono fun u hu q => ?_⟩
    obtain ⟨⟨n1, n2⟩, hrun⟩ := upNode_ok hu
    have hx := h.node _ _ (node_get n1 n2)
    refine ⟨_, rfl, _, _, _, rfl, h.obj, rfl, _, rfl, _, _, rfl, G, L, v, nodeArg p1, rfl, rfl, n1, n2, h, _, _, _, rfl, hx.obj, rfl, _, rfl, G, L, v, nodeArg p1 - 1, _, rfl, node_get n1 n2, h, fun G2 H2 L2 s2 h2 => ?_⟩
    refine ⟨rfl, G2, h2.sub, fun G3 H3 y e3 hy => ?_⟩
    exact q G3 H3 L2 y (s2.trans (Step.ext e3)) (h2.ext e3) hy
def fTorn (K : PySem.W.Frag) : V → Hp → VK → XK → Prop := fun a H Q E => ∃ G p, Same G H ∧ AtV G p a ∧ RC K G H (tornArg p) (fun k => Q (.int (k : Int)) H) E
theorem d_torn_number (T : TxtX K mg) (D_is_integer : DefOk P w K mg base CX0 1 "is_integer" ["value", "low", "high"] (Sp3 fIsInteger)) (F : Fs K mg "torn_number" s_torn_number) : DefOk P w K mg base (L2N.CX P w) 2 "torn_number" ["value"] (Sp1 (fTorn K)) :=
  def_R F sc_torn_number bd_torn_number fun f cdv A outer s H vs Q E hr h => by
    obtain ⟨_, rfl, G, p, hs, hp, q⟩ := h
    obtain ⟨a, c, rfl, ha⟩ := hp.pair
    have tt := SqT.of (K := K) (hs _ _ ha)
    refine ⟨_, (pss_cons (ps_if (pt_cmpR op_eq (pe_ix ix_tup (pv 0) pe_int (fun _ _ => rfl)) (pe_gi T.i_NOTHING) (nomark _)) (pss_one (ps_ret pe_int)) pss_nil) (pss_cons (ps_if (pt_not (pt_val (pe_d D_is_integer (hr.mono (by decide)) pass0 (pa_cons (pv 0) (pa_cons pe_int (pa_cons pe_int pa_nil)))))) (pss_one (ps_rz T.x_WrongKind hr (pa_cons pe_str pa_nil))) pss_nil) (pss_one (ps_ret (pe_ix ix_tup (pv 0) pe_int (fun _ _ => rfl)))))), ?_⟩
    refine ⟨_, rfl, a, _, _, _, rfl, rfl, tt, rfl, rfl, _, rfl, ?_⟩
    cases hu : (match p with | .undef => true | _ => false) with
    | true =>
      match p, hu, q with
      | .undef, _, q => exact iteT q
    | false =>
    have k0 : decide (V.int (kindOf p) = V.int 0) = false := by
      cases p with
      | undef => cases hu
      | bool b => cases b <;> rfl
      | _ => rfl
    have et : tornArg p = match integerIn 0 1000 p with
      | some k => .ok k
      | none => .error (typeErr "torn must be an integer from 0 to 1000") := by
      cases p with
      | undef => cases hu
      | _ => rfl
    rw [k0]
    rw [et] at q
    refine iteF ⟨_, rfl, _, _, _, rfl, G, p, 0, 1000, rfl, rfl, hs, hp, _, rfl, ?_⟩
    cases ei : integerIn 0 1000 p with
    | none =>
      rw [ei] at q
      have := inR_no ei
      rw [show inR p 0 1000 = false from this]
      exact iteT (RC.wrong hs q (by kernel_rfl))
    | some n =>
      rw [ei] at q
      obtain ⟨rfl, n1, n2⟩ := inR_yes ei
      obtain ⟨b, e, hb⟩ := hp.num
      cases e
      rw [show inR (.num (some (n : Int))) 0 1000 = true from by rw [inR_num, decide_eq_true (by omega), decide_eq_true (by omega)]; rfl]
      exact iteF ⟨_, rfl, a, _, _, _, rfl, rfl, SqT.of (hs _ _ hb), rfl, q⟩
/-- a write of an entry is torn -/
def tearV (v : Volume) (n t : Nat) (e : List Item) (k : Nat) : Volume := if (entryBytes e).length ≤ k then logged v n t e else arriveV v n ((entryBytes e).take k)
def fTear (K : PySem.W.Frag) : V → V → V → Hp → VK → XK → Prop := fun a b c H Q _ => ∃ G L v, ∃ (o : Op) (t : Nat) (e : List Item) (k : Nat), a = .ref L.self ∧ OpAt G o b ∧ o.way = .log t e ∧ o ∈ v.ops ∧ c = .int (k : Int) ∧ VGood v ∧ VolAt K G H L v ∧ Aft K G H L (tearV v o.node t e k) Q
theorem d_tear (T : TxtX K mg) (D_entry_octets : DefOk P w K mg base CX0 1 "entry_octets" ["changes"] (Sp1 (fEntryOctets (K := K)))) (D_Volume_node_at : MetOk P w K mg base CX0 1 (cVol K) "node_at" ["self", "node"] (Sp2 (fNodeAt K)))
    (D_Node_arrive : MetOk P w K mg base CX0 1 (cNode K) "arrive" ["self", "octets"] (Sp2 (fArrive K))) (D_Volume_settle : MetOk P w K mg base CX0 1 (cVol K) "settle" ["self", "transaction", "changes"] (Sp3 (fSettle K))) (F : Fs K mg "tear" s_tear) : DefOk P w K mg base CX0 2 "tear" ["volume", "write", "torn"] (Sp3 (fTear K)) :=
  def_C F sc_tear bd_tear fun f cdv A outer s H vs Q E hr h => by
    obtain ⟨_, _, _, rfl, G, L, v, o, t, e, k, rfl, ⟨a, l, zs, rfl, ha, hl, pz⟩, ew, om, rfl, hg, h, q⟩ := h
    obtain ⟨c, hc, z⟩ := id hg
    have few := z.few o om
    have opn := z.opn o om
    have blk := z.blk o om
    rw [ew] at ha pz few blk
    have pz : Paired (ItemAt G) e zs := pz
    have few : 1 ≤ e.length ∧ e.length ≤ 8 := few
    have z1 := (hg.zn (node_mem opn.1 opn.2)).2
    have z2 := bytes_le few.2
    refine ⟨_, (pss_cons (ps_asg (pv 1) (pg_tup rfl (pgs_cons (pg_name (i := 3) sc_tear.nd rfl (Or.inl rfl)) (pgs_cons (pg_name (i := 4) sc_tear.nd rfl (Or.inl rfl)) (pgs_cons (pg_name (i := 5) sc_tear.nd rfl (Or.inl rfl)) (pgs_cons (pg_name (i := 6) sc_tear.nd rfl (Or.inl rfl)) pgs_nil)))))) (pss_cons (ps_set (i := 7) sc_tear.nd rfl (Or.inl rfl) (pe_d D_entry_octets (hr.mono (by decide)) pass0 (pa_cons (pv 6) pa_nil))) (pss_one (ps_if (pt_cmpR op_ge (pv 2) (pe_callB call_len_seq (by rfl) T.z_len PySem.boot_len (pa_cons (pv 7) pa_nil)) (nomark _)) (pss_cons (ps_expr (pe_m T.c_Node D_Node_arrive (hr.mono (by decide)) pass0 (pe_m T.c_Volume D_Volume_node_at (hr.mono (by decide)) pass0 (pv 0) (pa_cons (pv 4) pa_nil)) (pa_cons (pv 7) pa_nil))) (pss_one (ps_expr (pe_m T.c_Volume D_Volume_settle (hr.mono (by decide)) pass0 (pv 0) (pa_cons (pv 5) (pa_cons (pv 6) pa_nil)))))) (pss_one (ps_expr (pe_m T.c_Node D_Node_arrive (hr.mono (by decide)) pass0 (pe_m T.c_Volume D_Volume_node_at (hr.mono (by decide)) pass0 (pv 0) (pa_cons (pv 4) pa_nil)) (pa_cons (pe_slice sl_list (pv 7) po_none (po_some (pv 2))) pa_nil)))))))), ?_⟩
    refine ⟨_, rfl, a, _, rfl, SqT.of (h.sub _ _ ha), rfl, _, _, rfl, _, _, rfl, _, _, rfl, _, _, rfl, rfl, _, rfl, _, rfl, G, l, zs, e, rfl, SqL.of (h.sub _ _ hl), h.sub, pz, by omega, fun D hD => ?_⟩
    have e1 := (ExtF.refl (F := NoF) h.sub).mut (o := .lst (nlst (entryBytes e))) hD
    have h1 := h.ext e1
    have hx := h1.node _ _ (node_get opn.1 opn.2)
    refine ⟨_, rfl, _, rfl, D, _, rfl, .inl (SqL.of upd_same), _, _, rfl, rfl, _, rfl, ?_⟩
    rw [nlst_len]
    unfold tearV at q
    by_cases c1 : (entryBytes e).length ≤ k
    · rw [decide_eq_true (by omega : (k : Int) ≥ ((entryBytes e).length : Int))]
      rw [if_pos c1] at q
      refine iteT ⟨_, rfl, _, _, _, rfl, h1.obj, rfl, _, rfl, _, _, rfl, G, L, v, o.node, rfl, rfl, opn.1, opn.2, h1, _, _, _, rfl, hx.obj, rfl, _, rfl, _, _, rfl, G, L, v, o.node - 1, _, entryBytes e, rfl, node_get opn.1 opn.2, ⟨D, rfl, upd_same⟩, by omega, h1, fun G3 H3 L3 s3 v3 => ?_⟩
      rw [← s3.self]
      have v3 : VolAt K G3 H3 L3 (arriveV v o.node (entryBytes e)) := v3
      refine ⟨_, rfl, _, _, _, rfl, v3.obj, rfl, _, rfl, _, rfl, _, _, _, rfl, G3, L3, arriveV v o.node (entryBytes e), t, e, l, zs, rfl, rfl, rfl, s3.e.g _ _ hl, Pd.mono (fun _ _ z => z.mono s3.e.g) pz, blk, v3, hg.zc, fun G4 H4 L4 s4 v4 => ?_⟩
      exact q G4 H4 L4 (((Step.ext e1).trans s3).trans s4) v4
    · rw [decide_eq_false (by omega : ¬ (k : Int) ≥ ((entryBytes e).length : Int))]
      rw [if_neg c1] at q
      refine iteF ⟨_, rfl, _, _, _, rfl, h1.obj, rfl, _, rfl, _, _, rfl, G, L, v, o.node, rfl, rfl, opn.1, opn.2, h1, _, _, _, rfl, hx.obj, rfl, _, rfl, _, rfl, _, rfl, D, _, rfl, SqL.of upd_same, fun D2 hD2 => ?_⟩
      have ec : cutV (nlst (entryBytes e)) none (some (k : Int)) = nlst ((entryBytes e).take k) := cut_take _ _
      rw [ec]
      have e2 := (ExtF.refl (F := NoF) h1.sub).mut (o := .lst (nlst ((entryBytes e).take k))) hD2
      have h2 := h1.ext e2
      refine ⟨_, _, rfl, G, L, v, o.node - 1, _, (entryBytes e).take k, rfl, node_get opn.1 opn.2, ⟨D2, rfl, upd_same⟩, by show _ + ((entryBytes e).take k).length ≤ 1000000; rw [List.length_take]; omega, h2, fun G3 H3 L3 s3 v3 => ?_⟩
      exact q G3 H3 L3 ((Step.ext (e1.trans e2)).trans s3) v3
/-- an if without else whose body is a call: Good is what holds behind it -/
theorem tSeq_ifdrop {c : TT} {te : TE} {u : TS} {D : Ends} {σ : St} {H : Hp} (Good : Hp → Prop) (h2 : ∀ R : Hp → Prop, (∀ H', Good H' → R H') → c σ H fun b H1 => if b = true then te σ H1 (fun _ H2 => R H2) else R H1) (h1 : ∀ H', Good H' → u D σ H') : tSeq (tIfS c (tDrop te) tNext) u D σ H := h2 _ h1
def fShut (K : PySem.W.Frag) : V → V → V → Hp → VK → XK → Prop := fun a b c H Q E => ∃ G L v p1 p2, a = .ref L.self ∧ AtV G p1 b ∧ AtV G p2 c ∧ VGood v ∧ VolAt K G H L v ∧ Door K G H L (andThen (tornArg p2) fun k => doShut v (nodeArg p1) k) Q E
theorem torn_of {v : Volume} {n k t : Nat} {o : Op} {r : List Op} {e : List Item} (hl : v.logs n = o :: r) (hw : o.way = .log t e) : tornOff v n k = tearV v n t e k := by
  unfold tornOff
  rw [hl]
  simp only [hw]
  rfl
theorem torn_nil {v : Volume} {n k : Nat} (hl : v.logs n = []) : tornOff v n k = v := by
  unfold tornOff
  rw [hl]
theorem torn_len {v : Volume} (n k : Nat) : (tornOff v n k).nodes.length = v.nodes.length ∧ (tornOff v n k).ops = v.ops := by
  unfold tornOff
  split
  · exact ⟨rfl, rfl⟩
  · split
    · exact ⟨rfl, rfl⟩
    · split
      · exact ⟨List.length_set .., rfl⟩
      · exact ⟨List.length_set .., rfl⟩
def sansOps (v : Volume) (n : Nat) : Volume := { v with ops := v.ops.filter fun o => !(o.node == n) }
theorem d_shut_node (T : TxtX K mg) (D_torn_number : DefOk P w K mg base (L2N.CX P w) 2 "torn_number" ["value"] (Sp1 (fTorn K))) (D_node_number : DefOk P w K mg base (L2N.CX P w) 2 "node_number" ["volume", "value"] (Sp2 (fNodeNumber K))) (D_Volume_node_at : MetOk P w K mg base CX0 1 (cVol K) "node_at" ["self", "node"] (Sp2 (fNodeAt K)))
    (D_entries_under_way : DefOk P w K mg base CX0 1 "entries_under_way" ["volume", "node"] (Sp2 (fEntries K))) (D_tear : DefOk P w K mg base CX0 2 "tear" ["volume", "write", "torn"] (Sp3 (fTear K))) (D_Volume_lose_writes : MetOk P w K mg base CX0 1 (cVol K) "lose_writes" ["self", "node"] (Sp2 (fLoseWrites K)))
    (D_Node_close_out : MetOk P w K mg base CX0 2 (cNode K) "close_out" ["self"] (Sp1 (fN0 K nClose))) (D_nothing : DefOk P w K mg base CX0 1 "nothing" [] (Sp0 fNothing)) (F : Fs K mg "shut_node" s_shut_node) : DefOk P w K mg base (L2N.CX P w) 3 "shut_node" ["volume", "node_value", "torn_value"] (Sp3 (fShut K)) :=
  def_R F sc_shut_node bd_shut_node fun f cdv A outer s H vs Q E hr h => by
    obtain ⟨_, b, c, rfl, G, L, v, p1, p2, rfl, a1, a2, hg, h, q⟩ := h
    refine ⟨_, (pss_cons (ps_set (i := 3) sc_shut_node.nd rfl (Or.inl rfl) (pe_d D_torn_number (hr.mono (by decide)) passR (pa_cons (pv 2) pa_nil))) (pss_cons (ps_set (i := 4) sc_shut_node.nd rfl (Or.inl rfl) (pe_d D_node_number (hr.mono (by decide)) passR (pa_cons (pv 0) (pa_cons (pv 1) pa_nil)))) (pss_cons (ps_if (pt_val (pe_fld (pe_m T.c_Volume D_Volume_node_at (hr.mono (by decide)) pass0 (pv 0) (pa_cons (pv 4) pa_nil)) rfl)) (pss_one (ps_rz T.x_OutOfRange hr (pa_cons pe_str pa_nil))) pss_nil) (pss_cons (ps_set (i := 5) sc_shut_node.nd rfl (Or.inl rfl) (pe_d D_entries_under_way (hr.mono (by decide)) pass0 (pa_cons (pv 0) (pa_cons (pv 4) pa_nil)))) (pss_cons (ps_if (pt_cmpR op_gt (pe_callB call_len_seq (by rfl) T.z_len PySem.boot_len (pa_cons (pv 5) pa_nil)) pe_int (nomark _)) (pss_one (ps_expr (pe_d D_tear (hr.mono (by decide)) pass0 (pa_cons (pv 0) (pa_cons (pe_ix ix_list (pv 5) pe_int (fun _ _ => rfl)) (pa_cons (pv 3) pa_nil)))))) pss_nil) (pss_cons (ps_expr (pe_m T.c_Volume D_Volume_lose_writes (hr.mono (by decide)) pass0 (pv 0) (pa_cons (pv 4) pa_nil))) (pss_cons (ps_expr (pe_m0 T.c_Node D_Node_close_out (hr.mono (by decide)) pass0 (pe_m T.c_Volume D_Volume_node_at (hr.mono (by decide)) pass0 (pv 0) (pa_cons (pv 4) pa_nil)))) (pss_one (ps_ret (pe_d0 D_nothing (hr.mono (by decide)) pass0)))))))))), ?_⟩
    refine ⟨_, rfl, _, rfl, G, p2, h.sub, a2, (RC.then q).mono fun k hk q => ?_⟩
    refine ⟨_, rfl, _, rfl, _, _, rfl, G, L, v, p1, rfl, a1, hg.nn, h, (RC.then q).mono fun u hu q => ?_⟩
    obtain ⟨n1, n2⟩ := aNode_ok hu
    have hx := h.node _ _ (node_get n1 n2)
    refine ⟨_, rfl, _, _, _, rfl, h.obj, rfl, _, rfl, _, _, rfl, G, L, v, nodeArg p1, rfl, rfl, n1, n2, h, _, _, _, _, _, rfl, hx.obj, T.c_Node, T.n_Node _ mm1, rfl, _, rfl, ?_⟩
    cases co : (v.node (nodeArg p1)).out with
    | true => exact iteT (RC.range h.sub (q.then.no (by rw [co]; rfl)) (by kernel_rfl))
    | false =>
    have q := q.then.yes (by rw [co]; rfl)
    refine iteF ⟨_, rfl, _, rfl, _, _, rfl, G, L, v, nodeArg p1, rfl, rfl, hg.zo, h, fun D ys hD pd => ?_⟩
    have e1 := (ExtF.refl (F := NoF) h.sub).mut (o := .lst ys) hD
    have h1 := h.ext e1
    rw [logs_eq hg] at pd
    have len := Pd.len pd
    dsimp only
    refine tSeq_ifdrop (fun H' => ∃ G' L', Step L G (upd H D (.lst ys)) L' G' H' ∧ VolAt K G' H' L' (tornOff v (nodeArg p1) k)) (fun R hR => ?_) ?_
    · refine ⟨_, rfl, _, _, rfl, .inl (SqL.of upd_same), _, _, rfl, rfl, _, rfl, ?_⟩
      cases el : v.logs (nodeArg p1) with
      | nil =>
        rw [el] at len
        rw [decide_eq_false (by rw [← len]; exact (by decide : ¬ ((([] : List Op).length : Nat) : Int) > 0))]
        exact iteF (hR _ ⟨G, L, Step.refl h1.sub, by rw [torn_nil el]; exact h1⟩)
      | cons o r =>
        rw [el] at pd len
        have pos : (ys.length : Int) > 0 := by
          rw [List.length_cons] at len
          omega
        rw [decide_eq_true pos]
        have om := List.mem_filter.mp (show o ∈ v.logs (nodeArg p1) by rw [el]; exact List.mem_cons_self)
        rw [Bool.and_eq_true, beq_iff_eq] at om
        cases ew : o.way with
        | home y =>
          rw [ew] at om
          cases om.2.2
        | log t e =>
        cases pd with
        | cons hp0 pd =>
        refine iteT ⟨_, rfl, _, rfl, D, _, _, _, rfl, rfl, SqL.of upd_same, atI_nat (j := 0) rfl, _, rfl, _, _, _, rfl, G, L, v, o, t, e, k, rfl, hp0, ew, om.1, rfl, hg, h1, fun G2 H2 L2 s2 v2 => ?_⟩
        refine hR _ ⟨G2, L2, s2, ?_⟩
        rw [torn_of el ew, ← om.2.1]
        exact v2
    rintro H2 ⟨G2, L2, s2, v2⟩
    obtain ⟨tl, to⟩ := torn_len (v := v) (nodeArg p1) k
    rw [← s2.self]
    refine ⟨_, rfl, _, _, _, rfl, v2.obj, rfl, _, rfl, _, _, rfl, G2, L2, _, nodeArg p1, rfl, rfl, v2, by rw [to]; exact hg.zo, fun G3 H3 L3 s3 v3 => ?_⟩
    rw [← s3.self]
    have v3 : VolAt K G3 H3 L3 (sansOps (tornOff v (nodeArg p1) k) (nodeArg p1)) := v3
    have n2' : nodeArg p1 ≤ (sansOps (tornOff v (nodeArg p1) k) (nodeArg p1)).nodes.length := by
      show nodeArg p1 ≤ (tornOff v (nodeArg p1) k).nodes.length
      rw [tl]
      exact n2
    have hx3 := v3.node _ _ (node_get n1 n2')
    refine ⟨_, rfl, _, _, _, rfl, v3.obj, rfl, _, rfl, _, _, rfl, G3, L3, _, nodeArg p1, rfl, rfl, n1, n2', v3, _, _, _, rfl, hx3.obj, rfl, _, rfl, G3, L3, _, nodeArg p1 - 1, _, rfl, node_get n1 n2', v3, fun G4 H4 L4 s4 h4 => ?_⟩
    refine ⟨rfl, G4, h4.sub, fun G5 H5 y e5 hy => ?_⟩
    exact q G5 H5 L4 y ((((Step.ext e1).trans s2).trans s3).trans (s4.trans (Step.ext e5))) (h4.ext e5) hy
end
end Ov
set_option maxHeartbeats 4000000
/-! V11: replaying, freeing, beginning anew. -/
namespace Ov
open PySem PySem.Spec PyProof.Rows L2
open R7237f.Spec (Plain Units Item Cell Lock Replay Op Way Volume Err Res andThen require typeErr rangeErr itemOf integerIn nodeArg blockArg entryBytes doReplay doFree doBoot writeCell mayReplay replayIndex Told toldPlain readJournal)
def idxOf (r : Option Replay) (n life : Nat) : Nat := match r with
  | some r => if r.node = n ∧ r.life = life then r.index else 0
  | none => 0
def isWritten (v : Volume) (x : Item) : Bool := !v.rules.versions || decide ((v.cell x.block).version < x.version)
def remV (v : Volume) (s : Nat) (r : Option Replay) : Volume := { v with nodes := v.nodes.set (s - 1) (nRemember (v.node s) r) }
def sansLocks (v : Volume) (n : Nat) : Volume := { v with locks := v.locks.filter fun l => !(l.node == n) }
def begunV (v : Volume) (n : Nat) : Volume := { v with nodes := v.nodes.set (n - 1) (nBegin (v.node n)) }
theorem node_set {v : Volume} {n : Nat} {x : R7237f.Spec.Node} (h1 : 1 ≤ n) (h2 : n ≤ v.nodes.length) : ({ v with nodes := v.nodes.set (n - 1) x } : Volume).node n = x := by
  unfold Volume.node
  rw [List.getD_eq_getElem?_getD, set_at (node_get h1 h2)]
  rfl
/-- both sides are read off, nothing is laid -/
theorem tAnd_pure {t u : TT} {σ : St} {H : Hp} {Q : Bool → Hp → Prop} (c d : Bool) (h1 : ∀ Q' : Bool → Hp → Prop, Q' c H → t σ H Q') (h2 : ∀ Q' : Bool → Hp → Prop, Q' d H → u σ H Q') (q : Q (c && d) H) : tAnd t u σ H Q := by
  refine h1 _ ?_
  cases c with
  | true => exact iteT (h2 _ q)
  | false => exact iteF q
theorem tOr_pure {t u : TT} {σ : St} {H : Hp} {Q : Bool → Hp → Prop} (c d : Bool) (h1 : ∀ Q' : Bool → Hp → Prop, Q' c H → t σ H Q') (h2 : ∀ Q' : Bool → Hp → Prop, Q' d H → u σ H Q') (q : Q (c || d) H) : tOr t u σ H Q := by
  refine h1 _ ?_
  cases c with
  | true => exact iteT q
  | false => exact iteF (h2 _ q)
section
variable {P : Program} {w : World} {K : PySem.W.Frag} {mg : Str → Option Value} {base : Heap}
abbrev s_index_of : Stmt := top 72
theorem sc_index_of : FnScope ["memory", "node", "life"] ["memory", "node", "life"] (defScope s_index_of) := ⟨rfl, rfl, rfl, by decide +kernel, rfl, by decide +kernel, by decide +kernel⟩
theorem bd_index_of : Bd "index_of" "index_of" s_index_of ["memory", "node", "life"] := fun _ _ _ _ _ _ us hl => match us, hl with | [_, _, _], _ => rfl
abbrev s_replay_change : Stmt := top 73
theorem sc_replay_change : FnScope ["volume", "change", "block", "version", "octet", "written"] ["volume", "change"] (defScope s_replay_change) := ⟨rfl, rfl, rfl, by decide +kernel, rfl, by decide +kernel, by decide +kernel⟩
theorem bd_replay_change : Bd "replay_change" "replay_change" s_replay_change ["volume", "change"] := fun _ _ _ _ _ _ us hl => match us, hl with | [_, _], _ => rfl
abbrev s_replay_step : Stmt := top 74
theorem sc_replay_step : FnScope ["volume", "by", "node", "worker", "lost", "changes", "index"] ["volume", "by", "node"] (defScope s_replay_step) := ⟨rfl, rfl, rfl, by decide +kernel, rfl, by decide +kernel, by decide +kernel⟩
theorem bd_replay_step : Bd "replay_step" "replay_step" s_replay_step ["volume", "by", "node"] := fun _ _ _ _ _ _ us hl => match us, hl with | [_, _, _], _ => rfl
abbrev s_replay_journal : Stmt := top 75
theorem sc_replay_journal : FnScope ["volume", "by_value", "node_value", "node", "by"] ["volume", "by_value", "node_value"] (defScope s_replay_journal) := ⟨rfl, rfl, rfl, by decide +kernel, rfl, by decide +kernel, by decide +kernel⟩
theorem bd_replay_journal : Bd "replay_journal" "replay_journal" s_replay_journal ["volume", "by_value", "node_value"] := fun _ _ _ _ _ _ us hl => match us, hl with | [_, _, _], _ => rfl
abbrev s_free_step : Stmt := top 76
theorem sc_free_step : FnScope ["volume", "node", "lost"] ["volume", "node"] (defScope s_free_step) := ⟨rfl, rfl, rfl, by decide +kernel, rfl, by decide +kernel, by decide +kernel⟩
theorem bd_free_step : Bd "free_step" "free_step" s_free_step ["volume", "node"] := fun _ _ _ _ _ _ us hl => match us, hl with | [_, _], _ => rfl
abbrev s_free_locks : Stmt := top 77
theorem sc_free_locks : FnScope ["volume", "node_value"] ["volume", "node_value"] (defScope s_free_locks) := ⟨rfl, rfl, rfl, by decide +kernel, rfl, by decide +kernel, by decide +kernel⟩
theorem bd_free_locks : Bd "free_locks" "free_locks" s_free_locks ["volume", "node_value"] := fun _ _ _ _ _ _ us hl => match us, hl with | [_, _], _ => rfl
abbrev s_boot_node : Stmt := top 78
theorem sc_boot_node : FnScope ["volume", "node_value", "node"] ["volume", "node_value"] (defScope s_boot_node) := ⟨rfl, rfl, rfl, by decide +kernel, rfl, by decide +kernel, by decide +kernel⟩
theorem bd_boot_node : Bd "boot_node" "boot_node" s_boot_node ["volume", "node_value"] := fun _ _ _ _ _ _ us hl => match us, hl with | [_, _], _ => rfl
def fIndexOf (K : PySem.W.Frag) : V → V → V → Hp → VK → XK → Prop := fun a b c H Q _ => ∃ G, ∃ (r : Option Replay) (n life : Nat), Same G H ∧ MemoAt G r a ∧ b = .int (n : Int) ∧ c = .int (life : Int) ∧ Q (.int (idxOf r n life : Int)) H
theorem d_index_of (T : TxtX K mg) (F : Fs K mg "index_of" s_index_of) : DefOk P w K mg base CX0 1 "index_of" ["memory", "node", "life"] (Sp3 (fIndexOf K)) :=
  def_C F sc_index_of bd_index_of fun f cdv A outer s H vs Q E hr h => by
    obtain ⟨_, _, _, rfl, G, r, n, life, hs, hm, rfl, rfl, q⟩ := h
    refine ⟨_, (pss_cons (ps_if (pt_cmp (pc_isN (pv 0)) rfl) (pss_one (ps_ret pe_int)) pss_nil) (pss_cons (ps_if (PW.pt (pw_or (pt_cmpR op_ne (pe_ix ix_tup (pv 0) pe_int (fun _ _ => rfl)) (pv 1) (nomark _)) (pw_or1 (pt_cmpR op_ne (pe_ix ix_tup (pv 0) pe_int (fun _ _ => rfl)) (pv 2) (nomark _))))) (pss_one (ps_ret pe_int)) pss_nil) (pss_one (ps_ret (pe_ix ix_tup (pv 0) pe_int (fun _ _ => rfl)))))), ?_⟩
    cases r with
    | none =>
      have e : _ = V.non := hm
      subst e
      exact ⟨_, rfl, _, rfl, iteT q⟩
    | some r =>
      obtain ⟨a, rfl, ha⟩ := hm
      have tt := SqT.of (K := K) (hs _ _ ha)
      refine ⟨_, rfl, _, rfl, iteF ⟨_, rfl, a, _, _, _, rfl, rfl, tt, rfl, _, rfl, rfl, _, rfl, ?_⟩⟩
      have q : Q (.int ((if r.node = n ∧ r.life = life then r.index else 0 : Nat) : Int)) H := q
      rw [dI]
      by_cases c1 : r.node = n
      case neg =>
        rw [beq_eq_false_iff_ne.mpr c1]
        rw [if_neg (fun z => c1 z.1)] at q
        exact iteT q
      rw [beq_iff_eq.mpr c1]
      refine iteF ⟨_, rfl, a, _, _, _, rfl, rfl, tt, rfl, _, rfl, rfl, _, rfl, ?_⟩
      rw [dI]
      by_cases c2 : r.life = life
      case neg =>
        rw [beq_eq_false_iff_ne.mpr c2]
        rw [if_neg (fun z => c2 z.2)] at q
        exact iteT q
      rw [beq_iff_eq.mpr c2]
      rw [if_pos ⟨c1, c2⟩] at q
      exact iteF ⟨_, rfl, a, _, _, _, rfl, rfl, tt, rfl, q⟩
def fReplayChange (K : PySem.W.Frag) : V → V → Hp → VK → XK → Prop := fun a b H Q _ => ∃ G L v x, a = .ref L.self ∧ ItemAt G x b ∧ x.block < v.disk.length ∧ VolAt K G H L v ∧
  ∀ G' H' L' y, Step L G H L' G' H' → VolAt K G' H' L' (if isWritten v x then writeCell v x else v) → AtV G' (toldPlain (.item x (isWritten v x))) y → Q y H'
theorem d_replay_change (T : TxtX K mg) (D_Volume_put : MetOk P w K mg base CX0 1 (cVol K) "put" ["self", "change"] (Sp2 (fPut K))) (D_integer : DefOk P w K mg base CX0 1 "integer" ["number"] (Sp1 fInteger)) (D_boolean : DefOk P w K mg base CX0 1 "boolean" ["flag"] (Sp1 fBoolean))
    (D_record : DefOk P w K mg base CX0 2 "record" ["members"] (Sp1 fRecord)) (F : Fs K mg "replay_change" s_replay_change) : DefOk P w K mg base CX0 3 "replay_change" ["volume", "change"] (Sp2 (fReplayChange K)) :=
  def_C F sc_replay_change bd_replay_change fun f cdv A outer s H vs Q E hr h => by
    obtain ⟨_, _, rfl, G, L, v, x, rfl, ⟨a, rfl, ha⟩, hb, h, q⟩ := h
    obtain ⟨ds, u, hd, hat, hu⟩ := h.cellAt hb
    refine ⟨_, (pss_cons (ps_asg (pv 1) (pg_tup rfl (pgs_cons (pg_name (i := 2) sc_replay_change.nd rfl (Or.inl rfl)) (pgs_cons (pg_name (i := 3) sc_replay_change.nd rfl (Or.inl rfl)) (pgs_cons (pg_name (i := 4) sc_replay_change.nd rfl (Or.inl rfl)) pgs_nil))))) (pss_cons (ps_set (i := 5) sc_replay_change.nd rfl (Or.inl rfl) (pe_or (pe_not (pe_ix ix_tup (pe_fld (pv 0) rfl) (pe_gi T.i_VERSIONS) (fun _ _ => rfl))) (pe_one (pe_cmpR op_gt (pv 3) (pe_ix ix_tup (pe_ix ix_list (pe_fld (pv 0) rfl) (pv 2) (fun _ _ => rfl)) pe_int (fun _ _ => rfl)) (nomark _))))) (pss_cons (ps_if (pt_val (pv 5)) (pss_one (ps_expr (pe_m T.c_Volume D_Volume_put (hr.mono (by decide)) pass0 (pv 0) (pa_cons (pv 1) pa_nil)))) pss_nil) (pss_one (ps_ret (pe_d D_record (hr.mono (by decide)) pass0 (pa_cons (pe_lst (pa_cons (pe_tup (pa_cons pe_str (pa_cons (pe_d D_integer (hr.mono (by decide)) pass0 (pa_cons (pv 2) pa_nil)) pa_nil))) (pa_cons (pe_tup (pa_cons pe_str (pa_cons (pe_d D_integer (hr.mono (by decide)) pass0 (pa_cons (pv 3) pa_nil)) pa_nil))) (pa_cons (pe_tup (pa_cons pe_str (pa_cons (pe_d D_integer (hr.mono (by decide)) pass0 (pa_cons (pv 4) pa_nil)) pa_nil))) (pa_cons (pe_tup (pa_cons pe_str (pa_cons (pe_d D_boolean (hr.mono (by decide)) pass0 (pa_cons (pv 5) pa_nil)) pa_nil))) pa_nil))))) pa_nil))))))), ?_⟩
    have rest : ∀ (R : Prop), (isWritten v x = true → R) → (isWritten v x = false → R) → R := fun R a b => by
      cases c : isWritten v x with
      | true => exact a c
      | false => exact b c
    refine ⟨_, rfl, a, _, rfl, SqT.of (h.sub _ _ ha), rfl, _, _, rfl, _, _, rfl, _, _, rfl, rfl, _, rfl, _, _, _, _, _, rfl, h.obj, T.c_Volume, T.n_Volume _ mm1, rfl, _, _, _, _, rfl, rfl, SqT.of (h.sub _ _ h.rules), rfl, _, rfl, _, rfl, ?_⟩
    have tail : ∀ R : Hp → Prop, True := fun _ => trivial
    -- written
    have fin : ∀ (W : Bool), W = isWritten v x → tSeq (tIfS (tB (tVar 5)) (tDrop (tMeth (cVol K) "put" (Sp2 (fPut K)) [] E0 (tVar 0) (tCons (tVar 1) tNil))) tNext) (tRet (tCall (Sp1 fRecord) [] E0 (tCons (tLst (mems [("block", tCall (Sp1 fInteger) [] E0 (tCons (tVar 2) tNil)), ("version", tCall (Sp1 fInteger) [] E0 (tCons (tVar 3) tNil)), ("value", tCall (Sp1 fInteger) [] E0 (tCons (tVar 4) tNil)), ("written", tCall (Sp1 fBoolean) [] E0 (tCons (tVar 5) tNil))])) tNil))) { nx := fun _ H' => Q .non H', rt := Q }
        [some (.ref L.self), some (.ref a), some (.int (x.block : Int)), some (.int (x.version : Int)), some (.int (x.value : Int)), some (.bl W)] H := fun W eW => by
      refine tSeq_ifdrop (fun H' => ∃ G' L', Step L G H L' G' H' ∧ VolAt K G' H' L' (if W then writeCell v x else v)) (fun R hR => ⟨_, rfl, _, rfl, ?_⟩) ?_
      · cases W with
        | false => exact iteF (hR _ ⟨G, L, Step.refl h.sub, h⟩)
        | true => exact iteT ⟨_, rfl, _, _, _, rfl, h.obj, rfl, _, rfl, _, _, rfl, G, L, v, x, rfl, ⟨a, rfl, ha⟩, hb, h, fun G2 H2 L2 s2 v2 => hR _ ⟨G2, L2, s2, v2⟩⟩
      · rintro H2 ⟨G2, L2, s2, v2⟩
        refine ev_record (G := G2) (ps := recS [("block", R7237f.Spec.nat x.block), ("version", R7237f.Spec.nat x.version), ("value", R7237f.Spec.nat x.value), ("written", .bool W)]) (.cons ?_ (by kernel_rfl) (.cons ?_ (by kernel_rfl) (.cons ?_ (by kernel_rfl) (.cons ?_ (by kernel_rfl) .nil)))) v2.sub (Nat.le_of_ble_eq_true rfl) ?_
        · exact fun G1 H1 Q e r => ⟨_, rfl, _, rfl, G1, _, rfl, e.sub, r⟩
        · exact fun G1 H1 Q e r => ⟨_, rfl, _, rfl, G1, _, rfl, e.sub, r⟩
        · exact fun G1 H1 Q e r => ⟨_, rfl, _, rfl, G1, _, rfl, e.sub, r⟩
        · exact fun G1 H1 Q e r => ⟨_, rfl, _, rfl, G1, _, rfl, e.sub, r⟩
        · rw [rec_spec (by kernel_rfl)]
          intro G3 H3 y e3 hy
          subst eW
          exact q G3 H3 L2 y (s2.trans (Step.ext e3)) (v2.ext e3) hy
    unfold isWritten at fin
    cases c : v.rules.versions with
    | false =>
      rw [c] at fin
      exact iteT (fin true rfl)
    | true =>
      rw [c] at fin
      exact iteF ⟨_, rfl, _, rfl, _, _, _, _, _, rfl, h.obj, T.c_Volume, T.n_Volume _ mm2, rfl, _, rfl, _, _, _, _, rfl, rfl, SqL.of hd, hat, u, _, _, _, rfl, rfl, SqT.of (h.sub _ _ hu), rfl, _, _, rfl, rfl, fin _ (by
        show decide _ = (false || decide _)
        rw [Bool.false_or]
        exact decide_eq_decide.mpr (by omega))⟩
def fReplayStep (K : PySem.W.Frag) : V → V → V → Hp → VK → XK → Prop := fun a b c H Q E => ∃ G L v, ∃ s n : Nat, a = .ref L.self ∧ b = .int (s : Int) ∧ c = .int (n : Int) ∧ (1 ≤ s ∧ s ≤ v.nodes.length) ∧ (1 ≤ n ∧ n ≤ v.nodes.length) ∧ VGood v ∧ VolAt K G H L v ∧ Door K G H L (doReplay v s n) Q E
theorem aNode_yes {v : Volume} {n : Nat} (h1 : 1 ≤ n) (h2 : n ≤ v.nodes.length) : R7237f.Spec.aNode v n = .ok () := by
  unfold R7237f.Spec.aNode Volume.isNode
  rw [decide_eq_true h1, decide_eq_true h2]
  rfl
theorem d_replay_step (T : TxtX K mg) (D_Volume_node_at : MetOk P w K mg base CX0 1 (cVol K) "node_at" ["self", "node"] (Sp2 (fNodeAt K))) (D_is_lost : DefOk P w K mg base CX0 2 "is_lost" ["volume", "node"] (Sp2 (fIsLost K))) (D_read_changes : DefOk P w K mg base CX0 4 "read_changes" ["blocks", "octets"] (Sp2 (fReadChanges (K := K))))
    (D_index_of : DefOk P w K mg base CX0 1 "index_of" ["memory", "node", "life"] (Sp3 (fIndexOf K))) (D_Node_remember : MetOk P w K mg base CX0 1 (cNode K) "remember" ["self", "memory"] (Sp2 (fRemember K))) (D_Node_told_replayed : MetOk P w K mg base CX0 1 (cNode K) "told_replayed" ["self"] (Sp1 (fN0 K nTold)))
    (D_null : DefOk P w K mg base CX0 1 "null" [] (Sp0 fNull)) (D_replay_change : DefOk P w K mg base CX0 3 "replay_change" ["volume", "change"] (Sp2 (fReplayChange K))) (F : Fs K mg "replay_step" s_replay_step) : DefOk P w K mg base (L2N.CX P w) 5 "replay_step" ["volume", "by", "node"] (Sp3 (fReplayStep K)) :=
  def_R F sc_replay_step bd_replay_step fun f cdv A outer s H vs Q E hr h => by
    obtain ⟨_, _, _, rfl, G, L, v, m, n, rfl, rfl, rfl, ⟨m1, m2⟩, ⟨n1, n2⟩, hg, h, q⟩ := h
    have q := RC.then q
    rw [aNode_yes n1 n2] at q
    have q := RC.then q
    rw [aNode_yes m1 m2] at q
    have q : RC K G H (andThen (require ((v.node m).running || m == n) (rangeErr "the node is not running")) fun _ => _) _ E := q
    have hm := h.node _ _ (node_get m1 m2)
    have hn := h.node _ _ (node_get n1 n2)
    refine ⟨_, (pss_cons (ps_set (i := 3) sc_replay_step.nd rfl (Or.inl rfl) (pe_m T.c_Volume D_Volume_node_at (hr.mono (by decide)) pass0 (pv 0) (pa_cons (pv 1) pa_nil))) (pss_cons (ps_set (i := 4) sc_replay_step.nd rfl (Or.inl rfl) (pe_m T.c_Volume D_Volume_node_at (hr.mono (by decide)) pass0 (pv 0) (pa_cons (pv 2) pa_nil))) (pss_cons (ps_if (PW.pt (pw_and (pt_not (pt_val (pe_fld (pv 3) rfl))) (pw_and1 (pt_cmpR op_ne (pv 1) (pv 2) (nomark _))))) (pss_one (ps_rz T.x_OutOfRange hr (pa_cons pe_str pa_nil))) pss_nil) (pss_cons (ps_if (PW.pt (pw_or (pt_not (pt_val (pe_d D_is_lost (hr.mono (by decide)) pass0 (pa_cons (pv 0) (pa_cons (pv 2) pa_nil))))) (pw_or1 (pt_val (pe_fld (pv 4) rfl))))) (pss_one (ps_rz T.x_OutOfRange hr (pa_cons pe_str pa_nil))) pss_nil) (pss_cons (ps_set (i := 5) sc_replay_step.nd rfl (Or.inl rfl) (pe_d D_read_changes (hr.mono (by decide)) pass0 (pa_cons (pe_fld (pv 0) rfl) (pa_cons (pe_fld (pv 4) rfl) pa_nil)))) (pss_cons (ps_set (i := 6) sc_replay_step.nd rfl (Or.inl rfl) (pe_d D_index_of (hr.mono (by decide)) pass0 (pa_cons (pe_fld (pv 3) rfl) (pa_cons (pv 2) (pa_cons (pe_fld (pv 4) rfl) pa_nil))))) (pss_cons (ps_if (pt_cmpR op_ge (pv 6) (pe_callB call_len_seq (by rfl) T.z_len PySem.boot_len (pa_cons (pv 5) pa_nil)) (nomark _)) (pss_cons (ps_expr (pe_m T.c_Node D_Node_remember (hr.mono (by decide)) pass0 (pv 3) (pa_cons pe_non pa_nil))) (pss_cons (ps_expr (pe_m0 T.c_Node D_Node_told_replayed (hr.mono (by decide)) pass0 (pv 4))) (pss_one (ps_ret (pe_d0 D_null (hr.mono (by decide)) pass0))))) pss_nil) (pss_cons (ps_expr (pe_m T.c_Node D_Node_remember (hr.mono (by decide)) pass0 (pv 3) (pa_cons (pe_tup (pa_cons (pv 2) (pa_cons (pe_fld (pv 4) rfl) (pa_cons (pe_op op_add (pv 6) pe_int) pa_nil)))) pa_nil))) (pss_one (ps_ret (pe_d D_replay_change (hr.mono (by decide)) pass0 (pa_cons (pv 0) (pa_cons (pe_ix ix_list (pv 5) (pv 6) (fun _ _ => rfl)) pa_nil))))))))))))), ?_⟩
    refine ⟨_, rfl, _, _, _, rfl, h.obj, rfl, _, rfl, _, _, rfl, G, L, v, m, rfl, rfl, m1, m2, h, _, rfl, _, _, _, rfl, h.obj, rfl, _, rfl, _, _, rfl, G, L, v, n, rfl, rfl, n1, n2, h, ?_⟩
    dsimp only
    refine tSeq_if ?_
    refine tAnd_pure (!(v.node m).running) (!(m == n)) (fun Q' k => ⟨_, rfl, _, _, _, _, _, rfl, hm.obj, T.c_Node, T.n_Node _ mm0, rfl, _, rfl, k⟩) (fun Q' k => ⟨_, rfl, _, rfl, rfl, _, rfl, by rw [dI]; exact k⟩) ?_
    rw [← Bool.not_or]
    cases c1 : ((v.node m).running || m == n) with
    | false => exact iteT (RC.range h.sub (q.then.no c1) (by kernel_rfl))
    | true =>
    have q := q.then.yes c1
    refine iteF ?_
    dsimp only [tNext]
    refine tSeq_if ?_
    refine tOr_pure (!mayReplay v n) (v.node n).freed (fun Q' k => ⟨_, rfl, _, rfl, _, _, rfl, G, L, v, n, rfl, rfl, n1, n2, h, _, rfl, k⟩) (fun Q' k => ⟨_, rfl, _, _, _, _, _, rfl, hn.obj, T.c_Node, T.n_Node _ mm3, rfl, _, rfl, k⟩) ?_
    have ec : (!mayReplay v n || (v.node n).freed) = !(mayReplay v n && !(v.node n).freed) := by cases mayReplay v n <;> cases (v.node n).freed <;> rfl
    rw [ec]
    cases c2 : (mayReplay v n && !(v.node n).freed) with
    | false => exact iteT (RC.range h.sub (q.then.no c2) (by kernel_rfl))
    | true =>
    have q := q.then.yes c2
    refine iteF ⟨_, rfl, _, _, _, _, _, rfl, h.obj, T.c_Volume, T.n_Volume _ mm0, rfl, _, rfl, _, _, _, _, _, rfl, hn.obj, T.c_Node, T.n_Node _ mm6, rfl, _, _, rfl, G, _, _, v.disk.length, rfl, rfl, h.sub, SqL.of (h.sub _ _ hn.js), Nat.le_trans (hg.zn (node_mem n1 n2)).2 (by decide), fun G1 H1 D zs e1 gD pD => ?_⟩
    have h1 := h.ext e1
    have hm1 := h1.node _ _ (node_get m1 m2)
    have hn1 := h1.node _ _ (node_get n1 n2)
    have pI : Paired (ItemAt G1) (v.items n) zs := pD
    have ei : replayIndex v m n = idxOf (v.node m).replay n (v.node n).life := rfl
    rw [ei] at q
    refine ⟨_, rfl, _, _, _, _, _, rfl, hm1.obj, T.c_Node, T.n_Node _ mm7, rfl, _, rfl, _, rfl, _, _, _, _, _, rfl, hn1.obj, T.c_Node, T.n_Node _ mm4, rfl, _, _, _, rfl, G1, (v.node m).replay, n, (v.node n).life, h1.sub, hm1.ms, rfl, rfl, ?_⟩
    have len := Pd.len pI
    refine ⟨_, rfl, _, rfl, D, _, rfl, .inl (SqL.of (e1.sub _ _ gD)), _, _, rfl, rfl, _, rfl, ?_⟩
    cases ci : (v.items n)[idxOf (v.node m).replay n (v.node n).life]? with
    | none =>
      rw [ci] at q
      have ge := List.getElem?_eq_none_iff.mp ci
      rw [decide_eq_true (by omega : ((idxOf (v.node m).replay n (v.node n).life : Nat) : Int) ≥ (zs.length : Int))]
      have q : ∀ G' H' L' x, Step L G H L' G' H' → VolAt K G' H' L' ((v.setNode m { v.node m with replay := none }).setNode n { (v.setNode m { v.node m with replay := none }).node n with replayed := true }) → AtV G' .null x → Q x H' := q
      refine iteT ⟨_, rfl, _, _, _, rfl, hm1.obj, rfl, _, _, rfl, G1, L, v, m - 1, _, none, rfl, node_get m1 m2, rfl, trivial, h1, fun G2 H2 L2 s2 v2 => ?_⟩
      have v2 : VolAt K G2 H2 L2 (v.setNode m { v.node m with replay := none }) := v2
      have n2' : n ≤ (v.setNode m { v.node m with replay := none }).nodes.length := by
        show n ≤ (v.nodes.set (m - 1) _).length
        rw [List.length_set]
        exact n2
      rw [← s2.ns (n - 1)]
      have hn2 := v2.node _ _ (node_get n1 n2')
      refine ⟨_, rfl, _, _, _, rfl, hn2.obj, rfl, _, rfl, G2, L2, _, n - 1, _, rfl, node_get n1 n2', v2, fun G3 H3 L3 s3 v3 => ?_⟩
      refine ⟨rfl, G3, v3.sub, fun G4 H4 y e4 hy => ?_⟩
      exact q G4 H4 L3 y (((Step.ext e1).trans s2).trans (s3.trans (Step.ext e4))) (v3.ext e4) hy
    | some x =>
      rw [ci] at q
      have lt := getI_lt ci
      rw [decide_eq_false (by omega : ¬ ((idxOf (v.node m).replay n (v.node n).life : Nat) : Int) ≥ (zs.length : Int))]
      generalize idxOf (v.node m).replay n (v.node n).life = ix at *
      refine iteF ⟨_, rfl, _, _, _, rfl, hm1.obj, rfl, _, rfl, _, rfl, _, _, _, _, _, rfl, hn1.obj, T.c_Node, T.n_Node _ mm4, rfl, _, rfl, _, _, rfl, rfl, sz3, fun p hp => ?_⟩
      have e2 := (ExtF.refl (F := NoF) h1.sub).imm (o := .tup [.int (n : Int), .int ((v.node n).life : Int), .int ((ix : Int) + 1)]) hp
      have h2 := h1.ext e2
      refine ⟨_, _, rfl, _, L, v, m - 1, _, some ⟨n, (v.node n).life, ix + 1⟩, rfl, node_get m1 m2, ⟨p, rfl, ?_⟩, trivial, h2, fun G3 H3 L3 s3 v3 => ?_⟩
      · exact upd_same.trans (by rw [Int.natCast_add] <;> rfl)
      have v3 : VolAt K G3 H3 L3 (remV v m (some ⟨n, (v.node n).life, ix + 1⟩)) := v3
      obtain ⟨y, hy, hyx⟩ := Pd.get' pI ci
      have bI : x.block < v.disk.length := by
        obtain ⟨e, he, hx⟩ := List.mem_flatten.mp (List.mem_of_getElem? ci)
        exact journal_blk e he x hx
      rw [← s3.self]
      refine ⟨_, rfl, _, rfl, _, rfl, D, _, _, _, rfl, rfl, SqL.of (v3.sub _ _ (s3.e.g _ _ (e2.g _ _ gD))), atI_nat hy, _, _, rfl, G3, L3, remV v m (some ⟨n, (v.node n).life, ix + 1⟩), x, rfl, hyx.mono (e2.g.trans s3.e.g), bI, v3, fun G4 H4 L4 z s4 v4 hz => ?_⟩
      have ew : isWritten (remV v m (some ⟨n, (v.node n).life, ix + 1⟩)) x = isWritten v x := rfl
      rw [ew] at v4 hz
      have q : RC K G H (.ok (if isWritten v x = true then (writeCell (remV v m (some ⟨n, (v.node n).life, ix + 1⟩)) x, Told.item x true) else (remV v m (some ⟨n, (v.node n).life, ix + 1⟩), Told.item x false)) : Res (Volume × Told)) (fun ut => ∀ G' H' L' x, Step L G H L' G' H' → VolAt K G' H' L' ut.1 → AtV G' (toldPlain ut.2) x → Q x H') E := q
      have st := ((Step.ext (e1.trans e2)).trans s3).trans s4
      cases c3 : isWritten v x with
      | true =>
        rw [c3] at q v4 hz
        exact q G4 H4 L4 z st v4 hz
      | false =>
        rw [c3] at q v4 hz
        exact q G4 H4 L4 z st v4 hz
def fReplay (K : PySem.W.Frag) : V → V → V → Hp → VK → XK → Prop := fun a b c H Q E => ∃ G L v p1 p2, a = .ref L.self ∧ AtV G p1 b ∧ AtV G p2 c ∧ VGood v ∧ VolAt K G H L v ∧ Door K G H L (doReplay v (nodeArg p1) (nodeArg p2)) Q E
theorem d_replay_journal (T : TxtX K mg) (D_node_number : DefOk P w K mg base (L2N.CX P w) 2 "node_number" ["volume", "value"] (Sp2 (fNodeNumber K))) (D_replay_step : DefOk P w K mg base (L2N.CX P w) 5 "replay_step" ["volume", "by", "node"] (Sp3 (fReplayStep K))) (F : Fs K mg "replay_journal" s_replay_journal) : DefOk P w K mg base (L2N.CX P w) 6 "replay_journal" ["volume", "by_value", "node_value"] (Sp3 (fReplay K)) :=
  def_R F sc_replay_journal bd_replay_journal fun f cdv A outer s H vs Q E hr h => by
    obtain ⟨_, _, _, rfl, G, L, v, p1, p2, rfl, a1, a2, hg, h, q⟩ := h
    refine ⟨_, (pss_cons (ps_set (i := 3) sc_replay_journal.nd rfl (Or.inl rfl) (pe_d D_node_number (hr.mono (by decide)) passR (pa_cons (pv 0) (pa_cons (pv 2) pa_nil)))) (pss_cons (ps_set (i := 4) sc_replay_journal.nd rfl (Or.inl rfl) (pe_d D_node_number (hr.mono (by decide)) passR (pa_cons (pv 0) (pa_cons (pv 1) pa_nil)))) (pss_one (ps_ret (pe_d D_replay_step (hr.mono (by decide)) passR (pa_cons (pv 0) (pa_cons (pv 4) (pa_cons (pv 3) pa_nil)))))))), ?_⟩
    refine ⟨_, rfl, _, rfl, _, _, rfl, G, L, v, p2, rfl, a2, hg.nn, h, (RC.then q).mono fun u hu q1 => ?_⟩
    refine ⟨_, rfl, _, rfl, _, _, rfl, G, L, v, p1, rfl, a1, hg.nn, h, (RC.then q1).mono fun u hu2 q2 => ?_⟩
    exact ⟨_, rfl, _, rfl, _, rfl, _, _, _, rfl, G, L, v, nodeArg p1, nodeArg p2, rfl, rfl, rfl, aNode_ok hu2, aNode_ok hu, hg, h, q⟩
def fFreeStep (K : PySem.W.Frag) : V → V → Hp → VK → XK → Prop := fun a b H Q E => ∃ G L v, ∃ n : Nat, a = .ref L.self ∧ b = .int (n : Int) ∧ (1 ≤ n ∧ n ≤ v.nodes.length) ∧ VGood v ∧ VolAt K G H L v ∧ Door K G H L (doFree v n) Q E
theorem d_free_step (T : TxtX K mg) (D_Volume_node_at : MetOk P w K mg base CX0 1 (cVol K) "node_at" ["self", "node"] (Sp2 (fNodeAt K))) (D_is_lost : DefOk P w K mg base CX0 2 "is_lost" ["volume", "node"] (Sp2 (fIsLost K))) (D_Volume_drop_locks : MetOk P w K mg base CX0 1 (cVol K) "drop_locks" ["self", "node"] (Sp2 (fDropLocks K)))
    (D_Node_told_freed : MetOk P w K mg base CX0 1 (cNode K) "told_freed" ["self"] (Sp1 (fN0 K nFreed))) (D_nothing : DefOk P w K mg base CX0 1 "nothing" [] (Sp0 fNothing)) (F : Fs K mg "free_step" s_free_step) : DefOk P w K mg base (L2N.CX P w) 3 "free_step" ["volume", "node"] (Sp2 (fFreeStep K)) :=
  def_R F sc_free_step bd_free_step fun f cdv A outer s H vs Q E hr h => by
    obtain ⟨_, _, rfl, G, L, v, n, rfl, rfl, ⟨n1, n2⟩, hg, h, q⟩ := h
    have q := RC.then q
    rw [aNode_yes n1 n2] at q
    have q : RC K G H (andThen (require (mayReplay v n && !(v.node n).freed) (rangeErr "the locks must not be freed")) fun _ => andThen (require (!v.rules.replay || (v.node n).replayed) (rangeErr "the journal has not been replayed")) fun _ => .ok ({ v.setNode n { v.node n with freed := true, journal := [] } with locks := v.locks.filter fun l => !(l.node == n) }, .nothing) : Res (Volume × Told)) (fun ut => ∀ G' H' L' x, Step L G H L' G' H' → VolAt K G' H' L' ut.1 → AtV G' (toldPlain ut.2) x → Q x H') E := q
    have hn := h.node _ _ (node_get n1 n2)
    refine ⟨_, (pss_cons (ps_set (i := 2) sc_free_step.nd rfl (Or.inl rfl) (pe_m T.c_Volume D_Volume_node_at (hr.mono (by decide)) pass0 (pv 0) (pa_cons (pv 1) pa_nil))) (pss_cons (ps_if (PW.pt (pw_or (pt_not (pt_val (pe_d D_is_lost (hr.mono (by decide)) pass0 (pa_cons (pv 0) (pa_cons (pv 1) pa_nil))))) (pw_or1 (pt_val (pe_fld (pv 2) rfl))))) (pss_one (ps_rz T.x_OutOfRange hr (pa_cons pe_str pa_nil))) pss_nil) (pss_cons (ps_if (PW.pt (pw_and (pt_val (pe_ix ix_tup (pe_fld (pv 0) rfl) (pe_gi T.i_REPLAY) (fun _ _ => rfl))) (pw_and1 (pt_not (pt_val (pe_fld (pv 2) rfl)))))) (pss_one (ps_rz T.x_OutOfRange hr (pa_cons pe_str pa_nil))) pss_nil) (pss_cons (ps_expr (pe_m T.c_Volume D_Volume_drop_locks (hr.mono (by decide)) pass0 (pv 0) (pa_cons (pv 1) pa_nil))) (pss_cons (ps_expr (pe_m0 T.c_Node D_Node_told_freed (hr.mono (by decide)) pass0 (pv 2))) (pss_one (ps_ret (pe_d0 D_nothing (hr.mono (by decide)) pass0)))))))), ?_⟩
    refine ⟨_, rfl, _, _, _, rfl, h.obj, rfl, _, rfl, _, _, rfl, G, L, v, n, rfl, rfl, n1, n2, h, ?_⟩
    dsimp only
    refine tSeq_if ?_
    refine tOr_pure (!mayReplay v n) (v.node n).freed (fun Q' k => ⟨_, rfl, _, rfl, _, _, rfl, G, L, v, n, rfl, rfl, n1, n2, h, _, rfl, k⟩) (fun Q' k => ⟨_, rfl, _, _, _, _, _, rfl, hn.obj, T.c_Node, T.n_Node _ mm3, rfl, _, rfl, k⟩) ?_
    have ec : (!mayReplay v n || (v.node n).freed) = !(mayReplay v n && !(v.node n).freed) := by cases mayReplay v n <;> cases (v.node n).freed <;> rfl
    rw [ec]
    cases c2 : (mayReplay v n && !(v.node n).freed) with
    | false => exact iteT (RC.range h.sub (q.then.no c2) (by kernel_rfl))
    | true =>
    have q := q.then.yes c2
    refine iteF ?_
    dsimp only [tNext]
    refine tSeq_if ?_
    refine tAnd_pure v.rules.replay (!(v.node n).replayed) (fun Q' k => ⟨_, rfl, _, _, _, _, _, rfl, h.obj, T.c_Volume, T.n_Volume _ mm1, rfl, _, _, _, _, rfl, rfl, SqT.of (h.sub _ _ h.rules), rfl, _, rfl, k⟩) (fun Q' k => ⟨_, rfl, _, _, _, _, _, rfl, hn.obj, T.c_Node, T.n_Node _ mm2, rfl, _, rfl, k⟩) ?_
    have ec : (v.rules.replay && !(v.node n).replayed) = !(!v.rules.replay || (v.node n).replayed) := by cases v.rules.replay <;> cases (v.node n).replayed <;> rfl
    rw [ec]
    cases c3 : (!v.rules.replay || (v.node n).replayed) with
    | false => exact iteT (RC.range h.sub (q.then.no c3) (by kernel_rfl))
    | true =>
    have q := q.then.yes c3
    refine iteF ⟨_, rfl, _, _, _, rfl, h.obj, rfl, _, rfl, _, _, rfl, G, L, v, n, rfl, rfl, h, hg.zl, fun G2 H2 L2 s2 v2 => ?_⟩
    have v2 : VolAt K G2 H2 L2 (sansLocks v n) := v2
    rw [← s2.ns (n - 1)]
    have hn2 := v2.node _ _ (node_get (v := sansLocks v n) n1 n2)
    refine ⟨_, rfl, _, _, _, rfl, hn2.obj, rfl, _, rfl, G2, L2, sansLocks v n, n - 1, _, rfl, node_get (v := sansLocks v n) n1 n2, v2, fun G3 H3 L3 s3 v3 => ?_⟩
    refine ⟨rfl, G3, v3.sub, fun G4 H4 y e4 hy => ?_⟩
    exact q G4 H4 L3 y (s2.trans (s3.trans (Step.ext e4))) (v3.ext e4) hy
def fFree (K : PySem.W.Frag) : V → V → Hp → VK → XK → Prop := fun a b H Q E => ∃ G L v p1, a = .ref L.self ∧ AtV G p1 b ∧ VGood v ∧ VolAt K G H L v ∧ Door K G H L (doFree v (nodeArg p1)) Q E
theorem d_free_locks (T : TxtX K mg) (D_node_number : DefOk P w K mg base (L2N.CX P w) 2 "node_number" ["volume", "value"] (Sp2 (fNodeNumber K))) (D_free_step : DefOk P w K mg base (L2N.CX P w) 3 "free_step" ["volume", "node"] (Sp2 (fFreeStep K))) (F : Fs K mg "free_locks" s_free_locks) : DefOk P w K mg base (L2N.CX P w) 4 "free_locks" ["volume", "node_value"] (Sp2 (fFree K)) :=
  def_R F sc_free_locks bd_free_locks fun f cdv A outer s H vs Q E hr h => by
    obtain ⟨_, _, rfl, G, L, v, p1, rfl, a1, hg, h, q⟩ := h
    refine ⟨_, (pss_one (ps_ret (pe_d D_free_step (hr.mono (by decide)) passR (pa_cons (pv 0) (pa_cons (pe_d D_node_number (hr.mono (by decide)) passR (pa_cons (pv 0) (pa_cons (pv 1) pa_nil))) pa_nil))))), ?_⟩
    refine ⟨_, rfl, _, rfl, _, rfl, _, _, rfl, G, L, v, p1, rfl, a1, hg.nn, h, (RC.then q).mono fun u hu q1 => ?_⟩
    exact ⟨_, _, rfl, G, L, v, nodeArg p1, rfl, rfl, aNode_ok hu, hg, h, q⟩
def fBoot (K : PySem.W.Frag) : V → V → Hp → VK → XK → Prop := fun a b H Q E => ∃ G L v p1, a = .ref L.self ∧ AtV G p1 b ∧ VGood v ∧ VolAt K G H L v ∧ Door K G H L (doBoot v (nodeArg p1)) Q E
theorem d_boot_node (T : TxtX K mg) (D_node_number : DefOk P w K mg base (L2N.CX P w) 2 "node_number" ["volume", "value"] (Sp2 (fNodeNumber K))) (D_Volume_node_at : MetOk P w K mg base CX0 1 (cVol K) "node_at" ["self", "node"] (Sp2 (fNodeAt K))) (D_Node_begin : MetOk P w K mg base CX0 1 (cNode K) "begin" ["self"] (Sp1 (fN0 K nBegin)))
    (D_integer : DefOk P w K mg base CX0 1 "integer" ["number"] (Sp1 fInteger)) (F : Fs K mg "boot_node" s_boot_node) : DefOk P w K mg base (L2N.CX P w) 3 "boot_node" ["volume", "node_value"] (Sp2 (fBoot K)) :=
  def_R F sc_boot_node bd_boot_node fun f cdv A outer s H vs Q E hr h => by
    obtain ⟨_, _, rfl, G, L, v, p1, rfl, a1, hg, h, q⟩ := h
    refine ⟨_, (pss_cons (ps_set (i := 2) sc_boot_node.nd rfl (Or.inl rfl) (pe_m T.c_Volume D_Volume_node_at (hr.mono (by decide)) pass0 (pv 0) (pa_cons (pe_d D_node_number (hr.mono (by decide)) passR (pa_cons (pv 0) (pa_cons (pv 1) pa_nil))) pa_nil))) (pss_cons (ps_if (PW.pt (pw_or (pt_not (pt_val (pe_fld (pv 2) rfl))) (pw_or1 (pt_val (pe_fld (pv 2) rfl))))) (pss_one (ps_rz T.x_OutOfRange hr (pa_cons pe_str pa_nil))) pss_nil) (pss_cons (ps_expr (pe_m0 T.c_Node D_Node_begin (hr.mono (by decide)) pass0 (pv 2))) (pss_one (ps_ret (pe_d D_integer (hr.mono (by decide)) pass0 (pa_cons (pe_fld (pv 2) rfl) pa_nil))))))), ?_⟩
    refine ⟨_, rfl, _, _, _, rfl, h.obj, rfl, _, rfl, _, rfl, _, _, rfl, G, L, v, p1, rfl, a1, hg.nn, h, (RC.then q).mono fun u hu q => ?_⟩
    obtain ⟨n1, n2⟩ := aNode_ok hu
    have hn := h.node _ _ (node_get n1 n2)
    refine ⟨_, _, rfl, G, L, v, nodeArg p1, rfl, rfl, n1, n2, h, ?_⟩
    dsimp only
    refine tSeq_if ?_
    refine tOr_pure (!(v.node (nodeArg p1)).freed) (v.node (nodeArg p1)).running (fun Q' k => ⟨_, rfl, _, _, _, _, _, rfl, hn.obj, T.c_Node, T.n_Node _ mm3, rfl, _, rfl, k⟩) (fun Q' k => ⟨_, rfl, _, _, _, _, _, rfl, hn.obj, T.c_Node, T.n_Node _ mm0, rfl, _, rfl, k⟩) ?_
    have ec : (!(v.node (nodeArg p1)).freed || (v.node (nodeArg p1)).running) = !((v.node (nodeArg p1)).freed && !(v.node (nodeArg p1)).running) := by cases (v.node (nodeArg p1)).freed <;> cases (v.node (nodeArg p1)).running <;> rfl
    rw [ec]
    cases c2 : ((v.node (nodeArg p1)).freed && !(v.node (nodeArg p1)).running) with
    | false => exact iteT (RC.range h.sub (q.then.no c2) (by kernel_rfl))
    | true =>
    have q := q.then.yes c2
    refine iteF ⟨_, rfl, _, _, _, rfl, hn.obj, rfl, _, rfl, G, L, v, nodeArg p1 - 1, _, rfl, node_get n1 n2, h, fun G2 H2 L2 s2 v2 => ?_⟩
    have v2 : VolAt K G2 H2 L2 (begunV v (nodeArg p1)) := v2
    have n2' : nodeArg p1 ≤ (begunV v (nodeArg p1)).nodes.length := by
      show nodeArg p1 ≤ (v.nodes.set _ _).length
      rw [List.length_set]
      exact n2
    have hn2 := v2.node _ _ (node_get n1 n2')
    rw [show (begunV v (nodeArg p1)).node (nodeArg p1) = nBegin (v.node (nodeArg p1)) from node_set n1 n2] at hn2
    rw [← s2.ns (nodeArg p1 - 1)]
    refine ⟨_, rfl, _, _, _, _, _, rfl, hn2.obj, T.c_Node, T.n_Node _ mm4, rfl, _, rfl, G2, _, rfl, v2.sub, fun G3 H3 y e3 hy => ?_⟩
    exact q G3 H3 L2 y (s2.trans (Step.ext e3)) (v2.ext e3) hy
end
end Ov
set_option maxHeartbeats 4000000
/-! V12: creating. -/
namespace Ov
open PySem PySem.Spec PyProof.Rows L2
open R7237f.Spec (Plain Units Item Cell Lock Replay Op Way Volume Err Res andThen require typeErr rangeErr rulesArg newFn newVolume integerIn Rules)
/-- C() within a comprehension: the class is named -/
theorem pe_mk0K {X : Cx} {C : Addr} {k : Nat} {x : Str} {ps : List Str} {sp : Sp} {E : XK} {p pos : Pos} (D : MkOk X.prog X.w X.K X.mg X.base k x ps sp) (hC : He.ga X.K x = C) (hr : Room (k + 1) X.A) (hx : Passes CX0 X E) (hg : Gl X x := by rfl) (hdb : (x == ("__debug__" : Str)) = false := by decide) : PE X (.Call (.Name x p) [] [] pos) (tMake C sp [] E tNil) := by
  subst hC
  exact pe_mk0 D hr hx hg hdb
theorem tags6 {x d l k w c : Addr} (tg : Addr → Nat) (xd : x ≠ d) (xl : x ≠ l) (xk : x ≠ k) (xw : x ≠ w) (xc : x ≠ c) (dl : d ≠ l) (dk : d ≠ k) (dw : d ≠ w) (dc : d ≠ c) (lk : l ≠ k) (lw : l ≠ w) (lc : l ≠ c) (kw : k ≠ w) (kc : k ≠ c) (wc : w ≠ c)
    (far : ∀ b, tg b ≠ 0 → b ≠ x ∧ b ≠ d ∧ b ≠ l ∧ b ≠ k ∧ b ≠ w ∧ b ≠ c) : ∃ t : Addr → Nat, t x = 1 ∧ t d = 2 ∧ t l = 3 ∧ t k = 4 ∧ t w = 5 ∧ t c = 6 ∧ (∀ b, tg b ≠ 0 → t b = tg b) ∧ ∀ b, t b ≠ 0 → b = x ∨ b = d ∨ b = l ∨ b = k ∨ b = w ∨ b = c ∨ tg b ≠ 0 := by
  refine ⟨fun b => if b = x then 1 else if b = d then 2 else if b = l then 3 else if b = k then 4 else if b = w then 5 else if b = c then 6 else tg b, if_pos rfl, ?_, ?_, ?_, ?_, ?_, fun b hb => ?_, fun b hb => ?_⟩
  · dsimp only
    rw [if_neg xd.symm, if_pos rfl]
  · dsimp only
    rw [if_neg xl.symm, if_neg dl.symm, if_pos rfl]
  · dsimp only
    rw [if_neg xk.symm, if_neg dk.symm, if_neg lk.symm, if_pos rfl]
  · dsimp only
    rw [if_neg xw.symm, if_neg dw.symm, if_neg lw.symm, if_neg kw.symm, if_pos rfl]
  · dsimp only
    rw [if_neg xc.symm, if_neg dc.symm, if_neg lc.symm, if_neg kc.symm, if_neg wc.symm, if_pos rfl]
  · dsimp only
    obtain ⟨f1, f2, f3, f4, f5, f6⟩ := far b hb
    rw [if_neg f1, if_neg f2, if_neg f3, if_neg f4, if_neg f5, if_neg f6]
  · dsimp only at hb
    by_cases c1 : b = x
    · exact .inl c1
    by_cases c2 : b = d
    · exact .inr (.inl c2)
    by_cases c3 : b = l
    · exact .inr (.inr (.inl c3))
    by_cases c4 : b = k
    · exact .inr (.inr (.inr (.inl c4)))
    by_cases c5 : b = w
    · exact .inr (.inr (.inr (.inr (.inl c5))))
    by_cases c6 : b = c
    · exact .inr (.inr (.inr (.inr (.inr (.inl c6)))))
    · rw [if_neg c1, if_neg c2, if_neg c3, if_neg c4, if_neg c5, if_neg c6] at hb
      exact .inr (.inr (.inr (.inr (.inr (.inr hb)))))
theorem NodeAt.g {K : PySem.W.Frag} {G G' H : Hp} {n : NA} {x : R7237f.Spec.Node} (s : Same G G') (h : NodeAt K G H n x) : NodeAt K G' H n x where
  obj := h.obj
  cs := by
    obtain ⟨vs, a, p⟩ := h.cs
    exact ⟨vs, a, Pd.mono (fun _ _ z => z.mono s) p⟩
  js := s _ _ h.js
  ms := h.ms.mono s
def freshN : R7237f.Spec.Node := R7237f.Spec.Node.fresh 1
/-- the nodes that were made so far, k of them -/
structure Made4 (K : PySem.W.Frag) (G H : Hp) (D : Addr) (k : Nat) (ns : Nat → NA) (tg : Addr → Nat) (G1 H1 : Hp) : Prop where
  e : Ext G H G1 H1
  gD : G1 D = none
  hD : H1 D = some (.lst ((List.range k).map fun i => V.ref (ns i).self))
  at_ : ∀ i, i < k → NodeAt K G1 H1 (ns i) freshN
  t1 : ∀ i, i < k → tg (ns i).self = 2 * i + 10
  t2 : ∀ i, i < k → tg (ns i).cache = 2 * i + 11
  own : ∀ b, tg b ≠ 0 → H b = none ∧ H1 b ≠ none ∧ G1 b = none
  tD : tg D = 0
theorem truths_new (r : Rules) (b n : Nat) : truths (newVolume r b n) = List.replicate b ⟨0, 0⟩ := by
  unfold truths newVolume
  rw [List.length_replicate]
  refine List.ext_getElem? fun i => ?_
  rw [List.getElem?_map, List.getElem?_replicate]
  by_cases c : i < b
  · rw [List.getElem?_range c, if_pos c]
    rfl
  · rw [if_neg c, List.getElem?_eq_none_iff.mpr (by rw [List.length_range]; omega)]
    rfl
theorem pd_rep {G : Hp} {b : Nat} {ys : List V} (p : Paired (fun (_ : Nat) v => CellAt G ⟨0, 0⟩ v) (List.range b) ys) : Paired (CellAt G) (List.replicate b ⟨0, 0⟩) ys := by
  have q := Pd.map_left (f := fun _ : Nat => (⟨0, 0⟩ : Cell)) p
  rw [List.map_const', List.length_range] at q
  exact q
section
variable {P : Program} {w : World} {K : PySem.W.Frag} {mg : Str → Option Value} {base : Heap}
abbrev s_Node___init__ : Stmt := inClass (top 40) 0
theorem sc_Node___init__ : FnScope ["self"] ["self"] (defScope s_Node___init__) := ⟨rfl, rfl, rfl, by decide +kernel, rfl, by decide +kernel, by decide +kernel⟩
theorem bd_Node___init__ : Bd "__init__" "Node.__init__" s_Node___init__ ["self"] := fun _ _ _ _ _ _ us hl => match us, hl with | [_], _ => rfl
abbrev s_Volume___init__ : Stmt := inClass (top 41) 0
theorem sc_Volume___init__ : FnScope ["self", "blocks", "nodes", "rules", "turn"] ["self", "blocks", "nodes", "rules"] (defScope s_Volume___init__) := ⟨rfl, rfl, rfl, by decide +kernel, rfl, by decide +kernel, by decide +kernel⟩
theorem bd_Volume___init__ : Bd "__init__" "Volume.__init__" s_Volume___init__ ["self", "blocks", "nodes", "rules"] := fun _ _ _ _ _ _ us hl => match us, hl with | [_, _, _, _], _ => rfl
abbrev s_rules_of : Stmt := top 51
theorem sc_rules_of : FnScope ["value", "found", "rule", "name"] ["value"] (defScope s_rules_of) := ⟨rfl, rfl, rfl, by decide +kernel, rfl, by decide +kernel, by decide +kernel⟩
theorem bd_rules_of : Bd "rules_of" "rules_of" s_rules_of ["value"] := fun _ _ _ _ _ _ us hl => match us, hl with | [_], _ => rfl
abbrev s_create_volume : Stmt := top 52
theorem sc_create_volume : FnScope ["blocks", "nodes", "rules"] ["blocks", "nodes", "rules"] (defScope s_create_volume) := ⟨rfl, rfl, rfl, by decide +kernel, rfl, by decide +kernel, by decide +kernel⟩
theorem bd_create_volume : Bd "create_volume" "create_volume" s_create_volume ["blocks", "nodes", "rules"] := fun _ _ _ _ _ _ us hl => match us, hl with | [_, _, _], _ => rfl
def fNodeInit (K : PySem.W.Frag) : V → Hp → VK → XK → Prop := fun a H Q _ => ∃ x dx, a = .ref x ∧ H x = some (.ins (cNode K) dx []) ∧
  ∀ c j, H c = none → upd H c (.lst []) j = none → Q .non (upd (upd (upd H c (.lst [])) j (.lst [])) x (.ins (cNode K) dx (nodeF freshN c j .non)))
theorem d_Node_init (T : TxtX K mg) (F : Mks K mg "Node" "Node.__init__" s_Node___init__) : MkOk P w K mg base 1 "Node" ["self"] (Sp1 (fNodeInit K)) :=
  mk_C F sc_Node___init__ bd_Node___init__ fun f cdv A outer s H vs Q E hr h => by
    obtain ⟨_, rfl, x, dx, rfl, hx, q⟩ := h
    refine ⟨_, (pss_cons (ps_fld (pv 0) pe_bl rfl) (pss_cons (ps_fld (pv 0) pe_bl rfl) (pss_cons (ps_fld (pv 0) pe_bl rfl) (pss_cons (ps_fld (pv 0) pe_bl rfl) (pss_cons (ps_fld (pv 0) pe_int rfl) (pss_cons (ps_fld (pv 0) (pe_lst pa_nil) rfl) (pss_cons (ps_fld (pv 0) (pe_lst pa_nil) rfl) (pss_one (ps_fld (pv 0) pe_non rfl))))))))), ?_⟩
    refine ⟨_, rfl, _, _, _, _, rfl, hx, T.c_Node, T.n_Node _ mm0, Nat.le_of_ble_eq_true rfl, ?_⟩
    refine ⟨_, rfl, _, _, _, _, rfl, upd_same, T.c_Node, T.n_Node _ mm1, Nat.le_of_ble_eq_true rfl, ?_⟩
    refine ⟨_, rfl, _, _, _, _, rfl, upd_same, T.c_Node, T.n_Node _ mm2, Nat.le_of_ble_eq_true rfl, ?_⟩
    refine ⟨_, rfl, _, _, _, _, rfl, upd_same, T.c_Node, T.n_Node _ mm3, Nat.le_of_ble_eq_true rfl, ?_⟩
    refine ⟨_, rfl, _, _, _, _, rfl, upd_same, T.c_Node, T.n_Node _ mm4, Nat.le_of_ble_eq_true rfl, ?_⟩
    rw [upd_upd, upd_upd, upd_upd, upd_upd]
    refine ⟨sz0, fun c hc => ?_⟩
    refine ⟨_, rfl, _, _, _, _, rfl, up_ne upd_same hc, T.c_Node, T.n_Node _ mm5, Nat.le_of_ble_eq_true rfl, ?_⟩
    rw [upd_3]
    refine ⟨sz0, fun j hj => ?_⟩
    refine ⟨_, rfl, _, _, _, _, rfl, up_ne upd_same hj, T.c_Node, T.n_Node _ mm6, Nat.le_of_ble_eq_true rfl, ?_⟩
    rw [upd_3]
    refine ⟨_, rfl, _, _, _, _, rfl, upd_same, T.c_Node, T.n_Node _ mm7, Nat.le_of_ble_eq_true rfl, ?_⟩
    rw [upd_upd]
    exact q c j (upd_none hc) (upd_none hj)
/-- a volume comes to lie at x, whose object was made already -/
def NewAt (K : PySem.W.Frag) (x : Addr) (G H : Hp) (v : Volume) (Q : VK) : Prop := ∀ G' H' L, L.self = x → ExtF (fun b => b = x) G H G' H' → VolAt K G' H' L v → (∀ b, L.tg b ≠ 0 → b = x ∨ H b = none) → Q .non H'
def fVolInit (K : PySem.W.Frag) : V → V → V → V → Hp → VK → XK → Prop := fun a b c d H Q _ => ∃ G x dx r, ∃ (n m : Nat) (ru : Rules), a = .ref x ∧ b = .int (n : Int) ∧ c = .int (m : Int) ∧ d = .ref r ∧ n ≤ 16 ∧ m ≤ 8 ∧ H x = some (.ins (cVol K) dx []) ∧ Same G H ∧ G x = none ∧
  G r = some (.tup [.bl ru.flush, .bl ru.shut, .bl ru.replay, .bl ru.versions]) ∧ NewAt K x G H (newVolume ru n m) Q
theorem d_Volume_init (T : TxtX K mg) (D_Node_init : MkOk P w K mg base 1 "Node" ["self"] (Sp1 (fNodeInit K))) (F : Mks K mg "Volume" "Volume.__init__" s_Volume___init__) : MkOk P w K mg base 3 "Volume" ["self", "blocks", "nodes", "rules"] (Sp4 (fVolInit K)) :=
  mk_C F sc_Volume___init__ bd_Volume___init__ fun f cdv A outer s H vs Q E hr h => by
    obtain ⟨_, _, _, _, rfl, G, x, dx, r, n, m, ru, rfl, rfl, rfl, rfl, hn, hm, hx, hs, gx, gr, q⟩ := h
    refine ⟨_, (pss_cons (ps_fld (pv 0) (pv 1) rfl) (pss_cons (ps_fld (pv 0) (pv 3) rfl) (pss_cons (ps_fld (pv 0) (pe_lc (own := [("turn", 4)]) (g := (gName 4)) (tt := tYes) rfl sc_Volume___init__.nd (pi_range1 rfl T.z_range (pa_cons (pv 1) pa_nil)) (blkOk_by (N := ["self", "blocks", "nodes", "rules", "turn"]) (sc := defScope s_Volume___init__) (by decide +kernel)) (fun _ _ _ _ _ => (pg_name (i := 4) sc_Volume___init__.nd rfl (Or.inl rfl))) (fun _ _ _ _ _ => pts_nil) (fun _ _ _ _ _ => (pe_tup (pa_cons pe_int (pa_cons pe_int pa_nil))))) rfl) (pss_cons (ps_fld (pv 0) (pe_lc (own := [("turn", 4)]) (g := (gName 4)) (tt := tYes) rfl sc_Volume___init__.nd (pi_range1 rfl T.z_range (pa_cons (pv 1) pa_nil)) (blkOk_by (N := ["self", "blocks", "nodes", "rules", "turn"]) (sc := defScope s_Volume___init__) (by decide +kernel)) (fun _ _ _ _ _ => (pg_name (i := 4) sc_Volume___init__.nd rfl (Or.inl rfl))) (fun _ _ _ _ _ => pts_nil) (fun _ _ _ _ _ => (pe_tup (pa_cons pe_int (pa_cons pe_int pa_nil))))) rfl) (pss_cons (ps_fld (pv 0) (pe_lc (own := [("turn", 4)]) (g := (gName 4)) (tt := tYes) rfl sc_Volume___init__.nd (pi_range1 rfl T.z_range (pa_cons (pv 2) pa_nil)) (blkOk_by (N := ["self", "blocks", "nodes", "rules", "turn"]) (sc := defScope s_Volume___init__) (by decide +kernel)) (fun _ _ _ _ _ => (pg_name (i := 4) sc_Volume___init__.nd rfl (Or.inl rfl))) (fun _ _ _ _ _ => pts_nil) (fun _ _ _ _ _ => (pe_mk0K (C := cNode K) D_Node_init rfl (hr.mono (by decide)) pass0))) rfl) (pss_cons (ps_fld (pv 0) (pe_lst pa_nil) rfl) (pss_cons (ps_fld (pv 0) (pe_lst pa_nil) rfl) (pss_cons (ps_fld (pv 0) (pe_lst pa_nil) rfl) (pss_cons (ps_fld (pv 0) pe_int rfl) (pss_one (ps_fld (pv 0) pe_int rfl))))))))))), ?_⟩
    refine ⟨_, rfl, _, rfl, _, _, _, _, rfl, hx, T.c_Volume, T.n_Volume _ mm0, Nat.le_of_ble_eq_true rfl, ?_⟩
    refine ⟨_, rfl, _, rfl, _, _, _, _, rfl, upd_same, T.c_Volume, T.n_Volume _ mm1, Nat.le_of_ble_eq_true rfl, ?_⟩
    rw [upd_upd]
    have hX : ∀ o, ExtF (fun b => b = x) G H G (upd H x o) := fun o => (ExtF.refl hs).write (.inr rfl) (ne_of_some hx) gx
    have sX : ∀ o, Same G (upd H x o) := fun o => (hX o).sub
    -- the disk
    refine ⟨_, rfl, n, rfl, by omega, by omega, fun Dd hDd => lc_map (ms := List.range n) (S := fun (i : Nat) v => v = V.int (i : Int)) (R := fun G _ v => CellAt G ⟨0, 0⟩ v) (Src.rng (n := n)) (sX _) hDd pdRng (by rw [List.length_range]; omega) (fun _ _ _ _ s h => h.mono s) ?_ ?_⟩
    · exact fun i v G1 H1 Y N _ _ e y => ⟨rfl, sz2, fun p hp => y _ _ _ ((ExtF.refl e.sub).imm hp) ⟨p, rfl, upd_same⟩⟩
    intro G1 H1 yd e1 gd hd pd
    have hE1 := (hX _).trans e1
    refine ⟨_, rfl, _, _, _, _, rfl, e1.same _ _ upd_same, T.c_Volume, T.n_Volume _ mm2, Nat.le_of_ble_eq_true rfl, ?_⟩
    have hE2 := hE1.write (o := .ins (cVol K) dx [("blocks", .int (n : Int)), ("rules", .ref r), ("disk", .ref Dd)]) (.inr rfl) (ne_of_some (e1.same _ _ upd_same)) (e1.gnone (ne_of_some upd_same) gx)
    have gx1 := e1.gnone (ne_of_some (upd_same (H := H))) gx
    have nDx : x ≠ Dd := fun z => by rw [← z, upd_same] at hDd; cases hDd
    have hd2 : upd H1 x (.ins (cVol K) dx [("blocks", .int (n : Int)), ("rules", .ref r), ("disk", .ref Dd)]) Dd = some (.lst yd) := by rw [upd_ne nDx.symm]; exact hd
    -- the last changes
    refine ⟨_, rfl, n, rfl, by omega, by omega, fun Dl hDl => lc_map (ms := List.range n) (S := fun (i : Nat) v => v = V.int (i : Int)) (R := fun G _ v => CellAt G ⟨0, 0⟩ v) (Src.rng (n := n)) hE2.sub hDl pdRng (by rw [List.length_range]; omega) (fun _ _ _ _ s h => h.mono s) ?_ ?_⟩
    · exact fun i v G1 H1 Y N _ _ e y => ⟨rfl, sz2, fun p hp => y _ _ _ ((ExtF.refl e.sub).imm hp) ⟨p, rfl, upd_same⟩⟩
    intro G2 H2 yl e2 gl hl pl
    have gx2 := e2.gnone (ne_of_some (upd_same (H := H1))) gx1
    have gd2 := e2.gnone (ne_of_some hd2) gd
    have hd3 := e2.same _ _ hd2
    refine ⟨_, rfl, _, _, _, _, rfl, e2.same _ _ upd_same, T.c_Volume, T.n_Volume _ mm3, Nat.le_of_ble_eq_true rfl, ?_⟩
    have hE3 := (hE2.trans e2).write (o := .ins (cVol K) dx [("blocks", .int (n : Int)), ("rules", .ref r), ("disk", .ref Dd), ("last", .ref Dl)]) (.inr rfl) (ne_of_some (e2.same _ _ upd_same)) gx2
    have nlx : x ≠ Dl := fun z => by rw [← z, upd_same] at hDl; cases hDl
    have ndl : Dd ≠ Dl := ne_of_none hd2 hDl
    have hd4 : upd H2 x (.ins (cVol K) dx [("blocks", .int (n : Int)), ("rules", .ref r), ("disk", .ref Dd), ("last", .ref Dl)]) Dd = some (.lst yd) := by rw [upd_ne nDx.symm]; exact hd3
    have hl4 : upd H2 x (.ins (cVol K) dx [("blocks", .int (n : Int)), ("rules", .ref r), ("disk", .ref Dd), ("last", .ref Dl)]) Dl = some (.lst yl) := by rw [upd_ne nlx.symm]; exact hl
    rw [show putF "last" (.ref Dl) (putF "disk" (.ref Dd) (putF "rules" (.ref r) (putF "blocks" (.int (n : Int)) []))) = ([("blocks", .int (n : Int)), ("rules", .ref r), ("disk", .ref Dd), ("last", .ref Dl)] : List (Str × V)) from rfl]
    have gl3 := gl
    generalize hH3 : upd H2 x (.ins (cVol K) dx [("blocks", .int (n : Int)), ("rules", .ref r), ("disk", .ref Dd), ("last", .ref Dl)]) = H3 at hE3 hd4 hl4
    have hx3 : H3 x = some (.ins (cVol K) dx [("blocks", .int (n : Int)), ("rules", .ref r), ("disk", .ref Dd), ("last", .ref Dl)]) := by rw [← hH3, upd_same]
    -- the nodes
    refine ⟨_, rfl, m, rfl, by omega, by omega, fun Dn hDn => ?_⟩
    refine Src.rng (n := m) (H := H3) _ _ _ _ _ Dn _ (fun rs H' => ∃ k ns tg G', rs = rngV k m ∧ k ≤ m ∧ Made4 K G2 H3 Dn k ns tg G' H') ⟨0, fun _ => ⟨x, x, x, x, .non⟩, fun _ => 0, G2, rfl, Nat.zero_le _, ⟨(ExtF.refl hE3.sub).mut hDn, Same.none hE3.sub hDn, upd_same, fun i hi => absurd hi (Nat.not_lt_zero i), fun i hi => absurd hi (Nat.not_lt_zero i), fun i hi => absurd hi (Nat.not_lt_zero i), fun b hb => absurd rfl hb, rfl⟩⟩ ?_ ?_ ?_
    · rintro rs H' ⟨k, ns, tg, G', _, _, M⟩
      exact M.e.same
    · rintro v rs H' ⟨k, ns, tg, G', er, hk, M⟩
      have hk' : k < m := by
        by_cases c : k < m
        · exact c
        · have : k = m := by omega
          rw [this, rngV_end] at er
          cases er
      rw [rngV_cons hk'] at er
      injection er with ev er
      subst ev er
      refine ⟨rfl, fun z dz hz hdz ndz => ⟨_, rfl, z, dz, rfl, upd_same, fun c j hc hj => ⟨rfl, ?_⟩⟩⟩
      have hz1 : upd H' dz (.own z) z = none := by rw [upd_ne ndz.symm]; exact hz
      have hc1 := upd_none (upd_none hc)
      have z0 := M.e.free hz
      have c0 := M.e.free hc1
      have nzc : z ≠ c := ne_of_none upd_same hc
      have ndc : dz ≠ c := ne_of_none (up_ne (upd_same (H := H')) hz1) hc
      have nzj : z ≠ j := ne_of_none (up_ne upd_same hc) hj
      have ncj : c ≠ j := ne_of_none upd_same hj
      have lD : H' Dn ≠ none := ne_of_some M.hD
      have f1 := (ExtF.refl (F := fun b => b = Dn) M.e.sub).imm (o := .own z) hdz
      have f2 := f1.mut (o := .ins (cNode K) dz []) hz1
      have f3 := f2.mut (o := .lst []) hc
      have f4 := f3.imm (o := .lst []) hj
      have gz : upd (upd G' dz (.own z)) j (.lst []) z = none := by
        rw [upd_ne nzj, upd_ne ndz.symm]
        exact Same.none M.e.sub hz
      have gc : upd (upd G' dz (.own z)) j (.lst []) c = none := by
        rw [upd_ne ncj, upd_ne ndc.symm]
        exact Same.none M.e.sub hc1
      have hz3 : upd (upd (upd (upd H' dz (.own z)) z (.ins (cNode K) dz [])) c (.lst [])) j (.lst []) z ≠ none := ne_of_some (up_ne (up_ne upd_same hc) hj)
      have f5 := f4.write (o := .ins (cNode K) dz (nodeF freshN c j .non)) (.inl hz) hz3 gz
      have nzD : z ≠ Dn := fun q => by rw [q, M.hD] at hz; cases hz
      have ncD : c ≠ Dn := fun q => by rw [q, M.hD] at hc1; cases hc1
      have hD5 : upd (upd (upd (upd (upd H' dz (.own z)) z (.ins (cNode K) dz [])) c (.lst [])) j (.lst [])) z (.ins (cNode K) dz (nodeF freshN c j .non)) Dn = some (.lst ((List.range k).map fun i => V.ref (ns i).self)) := by
        rw [upd_ne nzD.symm]
        exact up_ne (up_ne (by rw [upd_ne nzD.symm, upd_ne (ne_of_none M.hD hdz)]; exact M.hD) hc) hj
      have gD5 : upd (upd G' dz (.own z)) j (.lst []) Dn = none := by
        rw [upd_ne (ne_of_none (up_ne (by rw [upd_ne nzD.symm, upd_ne (ne_of_none M.hD hdz)]; exact M.hD) hc) hj), upd_ne (ne_of_none M.hD hdz)]
        exact M.gD
      refine ⟨_, hD5, szk (by rw [List.length_map, List.length_range]; omega), ?_⟩
      have f6 := f5.write (o := .lst ((List.range k).map (fun i => V.ref (ns i).self) ++ [.ref z])) (.inr rfl) (ne_of_some hD5) gD5
      have e6 := M.e.trans' f6 (fun b hb => .inr (by rw [hb]; exact hDn))
      have hzF : upd (upd (upd (upd (upd (upd H' dz (.own z)) z (.ins (cNode K) dz [])) c (.lst [])) j (.lst [])) z (.ins (cNode K) dz (nodeF freshN c j .non))) Dn (.lst ((List.range k).map (fun i => V.ref (ns i).self) ++ [.ref z])) z = some (.ins (cNode K) dz (nodeF freshN c j .non)) := by rw [upd_ne nzD, upd_same]
      have hcF : upd (upd (upd (upd (upd (upd H' dz (.own z)) z (.ins (cNode K) dz [])) c (.lst [])) j (.lst [])) z (.ins (cNode K) dz (nodeF freshN c j .non))) Dn (.lst ((List.range k).map (fun i => V.ref (ns i).self) ++ [.ref z])) c = some (.lst []) := by
        rw [upd_ne ncD, upd_ne nzc.symm]
        exact up_ne upd_same hj
      have old : ∀ b, tg b ≠ 0 → b ≠ z ∧ b ≠ c ∧ b ≠ Dn := fun b hb => by
        obtain ⟨_, l, _⟩ := M.own b hb
        refine ⟨fun q => l (q ▸ hz), fun q => l (q ▸ hc1), fun q => hb (q ▸ M.tD)⟩
      refine ⟨k + 1, fun i => if i = k then ⟨z, dz, c, j, .non⟩ else ns i, fun b => if b = z then 2 * k + 10 else if b = c then 2 * k + 11 else tg b, _, rfl, hk', ⟨e6, gD5, ?_, fun i hi => ?_, fun i hi => ?_, fun i hi => ?_, fun b hb => ?_, ?_⟩⟩
      · rw [upd_same, List.range_succ, List.map_append]
        congr 2
        congr 1
        · exact List.map_congr_left fun i hi => by rw [if_neg (by have := List.mem_range.mp hi; omega)]
        · show [V.ref z] = [V.ref (if k = k then (⟨z, dz, c, j, .non⟩ : NA) else ns k).self]
          rw [if_pos rfl]
      · by_cases ci : i = k
        · rw [if_pos ci]
          exact ⟨hzF, ⟨[], hcF, .nil⟩, upd_same, rfl⟩
        · rw [if_neg ci]
          have hi' : i < k := by omega
          have t1 := M.t1 i hi'
          have t2 := M.t2 i hi'
          exact (M.at_ i hi').keep f6 (old _ (by omega)).2.2 (old _ (by omega)).2.2
      · by_cases ci : i = k
        · rw [if_pos ci, if_pos rfl, ci]
        · have hi' : i < k := by omega
          have t1 := M.t1 i hi'
          rw [if_neg ci, if_neg (old _ (by omega)).1, if_neg (old _ (by omega)).2.1]
          exact t1
      · by_cases ci : i = k
        · rw [if_pos ci, if_neg nzc.symm, if_pos rfl, ci]
        · have hi' : i < k := by omega
          have t2 := M.t2 i hi'
          rw [if_neg ci, if_neg (old _ (by omega)).1, if_neg (old _ (by omega)).2.1]
          exact t2
      · by_cases c1 : b = z
        · rw [c1]
          exact ⟨z0, ne_of_some hzF, gz⟩
        · by_cases c2 : b = c
          · rw [c2]
            exact ⟨c0, ne_of_some hcF, gc⟩
          · have hb' : tg b ≠ 0 := by
              rw [if_neg c1, if_neg c2] at hb
              exact hb
            obtain ⟨o1, o2, o3⟩ := M.own b hb'
            exact ⟨o1, f6.live b o2, (f6.old b o2).trans o3⟩
      · rw [if_neg nzD.symm, if_neg ncD.symm]
        exact M.tD
    · rintro H' ⟨k, ns, tg, G', er, hk, M⟩
      have ek : k = m := by
        by_cases c : k < m
        · rw [rngV_cons c] at er
          cases er
        · omega
      subst ek
      have hE4 := hE3.trans (M.e.freeze hDn M.hD M.gD)
      have hxn : H3 x ≠ none := ne_of_some hx3
      have gx3 : G2 x = none := gx2
      have nxn : x ≠ Dn := ne_of_none hx3 hDn
      have gxf : upd G' Dn (.lst ((List.range k).map fun i => V.ref (ns i).self)) x = none := by rw [upd_ne nxn]; exact (M.e.old x hxn).trans gx3
      have hx' := M.e.same _ _ hx3
      have gF := M.e.freeze hDn M.hD M.gD
      have gn : upd G' Dn (.lst ((List.range k).map fun i => V.ref (ns i).self)) Dn = some (.lst ((List.range k).map fun i => V.ref (ns i).self)) := upd_same
      have gk : ∀ b o, G' b = some o → upd G' Dn (.lst ((List.range k).map fun i => V.ref (ns i).self)) b = some o := fun b o hb => by rw [upd_ne (ne_of_none hb M.gD)]; exact hb
      have nk : ∀ i, i < k → NodeAt K (upd G' Dn (.lst ((List.range k).map fun i => V.ref (ns i).self))) H' (ns i) freshN := fun i hi => (M.at_ i hi).g gk
      have own : ∀ b, tg b ≠ 0 → H3 b = none ∧ H' b ≠ none ∧ upd G' Dn (.lst ((List.range k).map fun i => V.ref (ns i).self)) b = none := fun b hb => by
        obtain ⟨a, b', c⟩ := M.own b hb
        exact ⟨a, b', by rw [upd_ne (fun q => hb (by rw [q]; exact M.tD))]; exact c⟩
      have pd' : Paired (fun (_ : Nat) v => CellAt (upd G' Dn (.lst ((List.range k).map fun i => V.ref (ns i).self))) ⟨0, 0⟩ v) (List.range n) yd := Pd.mono (fun _ _ z => (z.mono (e2.g.trans M.e.g)).mono gk) pd
      have pl' : Paired (fun (_ : Nat) v => CellAt (upd G' Dn (.lst ((List.range k).map fun i => V.ref (ns i).self))) ⟨0, 0⟩ v) (List.range n) yl := Pd.mono (fun _ _ z => (z.mono M.e.g).mono gk) pl
      have hd' := M.e.same _ _ hd4
      have hl' := M.e.same _ _ hl4
      have gdF : upd G' Dn (.lst ((List.range k).map fun i => V.ref (ns i).self)) Dd = none := by rw [upd_ne (ne_of_none hd4 hDn)]; exact (M.e.old _ (ne_of_some hd4)).trans gd2
      have glF : upd G' Dn (.lst ((List.range k).map fun i => V.ref (ns i).self)) Dl = none := by rw [upd_ne (ne_of_none hl4 hDn)]; exact (M.e.old _ (ne_of_some hl4)).trans gl
      have grF : upd G' Dn (.lst ((List.range k).map fun i => V.ref (ns i).self)) r = some (.tup [.bl ru.flush, .bl ru.shut, .bl ru.replay, .bl ru.versions]) := hE4.g _ _ gr
      have t1 := M.t1
      have t2 := M.t2
      generalize upd G' Dn (.lst ((List.range k).map fun i => V.ref (ns i).self)) = GF at hE4 gxf gn nk own pd' pl' gdF glF grF
      refine ⟨_, rfl, _, _, _, _, rfl, hx', T.c_Volume, T.n_Volume _ mm4, Nat.le_of_ble_eq_true rfl, ?_⟩
      refine ⟨sz0, fun Dk hk1 => ?_⟩
      refine ⟨_, rfl, _, _, _, _, rfl, up_ne upd_same hk1, T.c_Volume, T.n_Volume _ mm5, Nat.le_of_ble_eq_true rfl, ?_⟩
      rw [upd_3]
      refine ⟨sz0, fun Dw hw1 => ?_⟩
      refine ⟨_, rfl, _, _, _, _, rfl, up_ne upd_same hw1, T.c_Volume, T.n_Volume _ mm6, Nat.le_of_ble_eq_true rfl, ?_⟩
      rw [upd_3]
      refine ⟨sz0, fun Dc hc1 => ?_⟩
      refine ⟨_, rfl, _, _, _, _, rfl, up_ne upd_same hc1, T.c_Volume, T.n_Volume _ mm7, Nat.le_of_ble_eq_true rfl, ?_⟩
      rw [upd_3]
      refine ⟨_, rfl, _, _, _, _, rfl, upd_same, T.c_Volume, T.n_Volume _ mm8, Nat.le_of_ble_eq_true rfl, ?_⟩
      rw [upd_upd]
      refine ⟨_, rfl, _, _, _, _, rfl, upd_same, T.c_Volume, T.n_Volume _ mm9, Nat.le_of_ble_eq_true rfl, ?_⟩
      rw [upd_upd]
      have hkn := upd_none hk1
      have hwn := upd_none hw1
      have hcn := upd_none hc1
      have g1 := hE4.mut (o := .lst []) hkn
      have g2 := g1.mut (o := .lst []) hwn
      have g3 := g2.mut (o := .lst []) hcn
      have hx3' := up_ne (u := .lst []) (up_ne (u := .lst []) (up_ne (u := .lst []) hx' hkn) hwn) hcn
      have nkw : Dk ≠ Dw := ne_of_none upd_same hwn
      have nkc : Dk ≠ Dc := ne_of_none (up_ne (upd_same (H := H')) hwn) hcn
      have nwc : Dw ≠ Dc := ne_of_none upd_same hcn
      have hw0 := upd_none hwn
      have hc0 := upd_none (upd_none hcn)
      have nxk : x ≠ Dk := ne_of_none hx' hkn
      have nxw : x ≠ Dw := ne_of_none hx' hw0
      have nxc : x ≠ Dc := ne_of_none hx' hc0
      have g4 := g3.write (o := .ins (cVol K) dx (volF (newVolume ru n k) ⟨x, dx, r, Dd, Dl, Dn, Dk, Dw, Dc, ns, tg⟩)) (.inr rfl) (ne_of_some hx3') gxf
      have low : ∀ b o, H' b = some o → b ≠ x → upd (upd (upd (upd H' Dk (.lst [])) Dw (.lst [])) Dc (.lst [])) x (.ins (cVol K) dx (volF (newVolume ru n k) ⟨x, dx, r, Dd, Dl, Dn, Dk, Dw, Dc, ns, tg⟩)) b = some o := fun b o hb nb => by
        rw [upd_ne nb]
        exact up_ne (up_ne (up_ne hb hkn) hwn) hcn
      have ndk : Dd ≠ Dk := ne_of_none hd' hkn
      have ndw : Dd ≠ Dw := ne_of_none hd' hw0
      have ndc : Dd ≠ Dc := ne_of_none hd' hc0
      have nlk : Dl ≠ Dk := ne_of_none hl' hkn
      have nlw : Dl ≠ Dw := ne_of_none hl' hw0
      have nlc : Dl ≠ Dc := ne_of_none hl' hc0
      -- what the nodes own is none of these
      have far : ∀ b, tg b ≠ 0 → b ≠ x ∧ b ≠ Dd ∧ b ≠ Dl ∧ b ≠ Dk ∧ b ≠ Dw ∧ b ≠ Dc := fun b hb => by
        obtain ⟨o1, o2, _⟩ := own b hb
        exact ⟨fun q => hxn (q ▸ o1), fun q => ne_of_some hd4 (q ▸ o1), fun q => ne_of_some hl4 (q ▸ o1), fun q => o2 (q ▸ hkn), fun q => o2 (q ▸ hw0), fun q => o2 (q ▸ hc0)⟩
      obtain ⟨t, tx, td, tl, tk, tw, tc, tn, tcase⟩ := tags6 tg nDx nlx nxk nxw nxc ndl ndk ndw ndc nlk nlw nlc nkw nkc nwc far
      have lenN : (newVolume ru n k).nodes.length = k := List.length_replicate
      have eF : (HO.ins (cVol K) dx (volF (newVolume ru n k) ⟨x, dx, r, Dd, Dl, Dn, Dk, Dw, Dc, ns, tg⟩)) = .ins (cVol K) dx [("blocks", .int (n : Int)), ("rules", .ref r), ("disk", .ref Dd), ("last", .ref Dl), ("nodes", .ref Dn), ("locks", .ref Dk), ("writes", .ref Dw), ("committed", .ref Dc), ("many_writes", .int 0), ("many_transactions", .int 0)] := by
        unfold volF newVolume
        simp only [List.length_replicate]
        rfl
      rw [eF] at g4 low
      refine q _ _ ⟨x, dx, r, Dd, Dl, Dn, Dk, Dw, Dc, ns, t⟩ rfl g4 ?_ fun b hb => ?_
      · have hob : upd (upd (upd (upd H' Dk (.lst [])) Dw (.lst [])) Dc (.lst [])) x (.ins (cVol K) dx [("blocks", .int (n : Int)), ("rules", .ref r), ("disk", .ref Dd), ("last", .ref Dl), ("nodes", .ref Dn), ("locks", .ref Dk), ("writes", .ref Dw), ("committed", .ref Dc), ("many_writes", .int 0), ("many_transactions", .int 0)]) x = some (.ins (cVol K) dx (volF (newVolume ru n k) ⟨x, dx, r, Dd, Dl, Dn, Dk, Dw, Dc, ns, t⟩)) := by
          rw [upd_same, ← eF]
          rfl
        have new : ∀ b, upd (upd (upd H' Dk (.lst [])) Dw (.lst [])) Dc (.lst []) b = some (.lst []) → b ≠ x → upd (upd (upd (upd H' Dk (.lst [])) Dw (.lst [])) Dc (.lst [])) x (.ins (cVol K) dx [("blocks", .int (n : Int)), ("rules", .ref r), ("disk", .ref Dd), ("last", .ref Dl), ("nodes", .ref Dn), ("locks", .ref Dk), ("writes", .ref Dw), ("committed", .ref Dc), ("many_writes", .int 0), ("many_transactions", .int 0)]) b = some (.lst []) := fun b hb nb => by rw [upd_ne nb]; exact hb
        have gfree : ∀ b, H' b = none → GF b = none := fun b hb => Same.none hE4.sub hb
        refine { sub := g4.sub, obj := hob, rules := grF, disk := ⟨yd, low _ _ hd' nDx.symm, pd_rep pd'⟩, last := ⟨yl, low _ _ hl' nlx.symm, by rw [truths_new]; exact pd_rep pl'⟩, nodes := by rw [lenN]; exact gn, node := fun i y hi => ?_, locks := ⟨[], new _ (up_ne (up_ne upd_same hwn) hcn) nxk.symm, .nil⟩, writes := ⟨[], new _ (up_ne upd_same hcn) nxw.symm, .nil⟩, comm := new _ upd_same nxc.symm, tags := ?_, live := fun b hb => ?_, gn := fun b hb => ?_ }
        · have hi' : i < k := by
            have z := getI_lt hi
            rw [lenN] at z
            exact z
          have ey : y = freshN := by
            have hi2 : (List.replicate k freshN)[i]? = some y := hi
            rw [List.getElem?_replicate, if_pos hi'] at hi2
            exact (Option.some.inj hi2).symm
          subst ey
          have a := nk i hi'
          have b1 := t1 i hi'
          have b2 := t2 i hi'
          obtain ⟨cs, hcs, pcs⟩ := a.cs
          exact ⟨low _ _ a.obj (far (ns i).self (by omega)).1, ⟨cs, low _ _ hcs (far (ns i).cache (by omega)).1, pcs⟩, a.js, a.ms⟩
        · rw [lenN]
          exact ⟨tx, td, tl, tk, tw, tc, fun i hi => (tn (ns i).self (by have z := t1 i hi; intro q; rw [q] at z; omega)).trans (t1 i hi), fun i hi => (tn (ns i).cache (by have z := t2 i hi; intro q; rw [q] at z; omega)).trans (t2 i hi)⟩
        · rcases tcase b hb with rfl | rfl | rfl | rfl | rfl | rfl | hb
          · exact ne_of_some hob
          · exact ne_of_some (low _ _ hd' nDx.symm)
          · exact ne_of_some (low _ _ hl' nlx.symm)
          · exact ne_of_some (new _ (up_ne (up_ne upd_same hwn) hcn) nxk.symm)
          · exact ne_of_some (new _ (up_ne upd_same hcn) nxw.symm)
          · exact ne_of_some (new _ upd_same nxc.symm)
          · obtain ⟨o, ho⟩ := Option.ne_none_iff_exists'.mp (own b hb).2.1
            exact ne_of_some (low _ _ ho (far b hb).1)
        · rcases tcase b hb with rfl | rfl | rfl | rfl | rfl | rfl | hb
          · exact gxf
          · exact gdF
          · exact glF
          · exact gfree _ hkn
          · exact gfree _ hw0
          · exact gfree _ hc0
          · exact (own b hb).2.2
      · rcases tcase b hb with rfl | rfl | rfl | rfl | rfl | rfl | hb
        · exact .inl rfl
        · exact .inr (upd_none hDd)
        · exact .inr (hE1.free (upd_none hDl))
        · exact .inr (hE4.free hkn)
        · exact .inr (hE4.free hw0)
        · exact .inr (hE4.free hc0)
        · exact .inr (hE3.free (own b hb).1)
def fieldS (fs : List (Units × Plain)) (n : String) : Plain := R7237f.Spec.field fs n
theorem field_eq {fs : List (Units × Plain)} {n : String} (h : unitsOf (Str.ofString n) = R7237f.Spec.units n) : fieldOf fs (Str.ofString n) = R7237f.Spec.field fs n := by
  unfold fieldOf R7237f.Spec.field
  rw [h]
  rfl
/-- the rules that a record tells -/
def four (fs : List (Units × Plain)) : List Plain := [R7237f.Spec.field fs "flush", R7237f.Spec.field fs "shut", R7237f.Spec.field fs "replay", R7237f.Spec.field fs "versions"]
def boolOf : Plain → Bool
  | .bool b => b
  | _ => false
def theRules (a b c d : Plain) : Rules := ⟨boolOf a, boolOf b, boolOf c, boolOf d⟩
theorem rules_yes {fs : List (Units × Plain)} (h : (four fs).all isB = true) : rulesArg (.obj fs) = .ok (theRules (R7237f.Spec.field fs "flush") (R7237f.Spec.field fs "shut") (R7237f.Spec.field fs "replay") (R7237f.Spec.field fs "versions")) := by
  unfold four at h
  show (match R7237f.Spec.field fs "flush", R7237f.Spec.field fs "shut", R7237f.Spec.field fs "replay", R7237f.Spec.field fs "versions" with
    | .bool a, .bool b, .bool c, .bool d => .ok ⟨a, b, c, d⟩
    | _, _, _, _ => .error (typeErr "rules must be { flush, shut, replay, versions } with booleans") : Res Rules) = _
  generalize R7237f.Spec.field fs "flush" = a at *
  generalize R7237f.Spec.field fs "shut" = b at *
  generalize R7237f.Spec.field fs "replay" = c at *
  generalize R7237f.Spec.field fs "versions" = d at *
  simp only [List.all_cons, List.all_nil, Bool.and_eq_true, Bool.and_true] at h
  obtain ⟨a', rfl⟩ := bool_yes h.1
  obtain ⟨b', rfl⟩ := bool_yes h.2.1
  obtain ⟨c', rfl⟩ := bool_yes h.2.2.1
  obtain ⟨d', rfl⟩ := bool_yes h.2.2.2
  rfl
theorem rules_no {fs : List (Units × Plain)} (h : (four fs).all isB = false) : rulesArg (.obj fs) = .error (typeErr "rules must be { flush, shut, replay, versions } with booleans") := by
  unfold four at h
  show (match R7237f.Spec.field fs "flush", R7237f.Spec.field fs "shut", R7237f.Spec.field fs "replay", R7237f.Spec.field fs "versions" with
    | .bool a, .bool b, .bool c, .bool d => .ok ⟨a, b, c, d⟩
    | _, _, _, _ => .error (typeErr "rules must be { flush, shut, replay, versions } with booleans") : Res Rules) = _
  generalize R7237f.Spec.field fs "flush" = a at *
  generalize R7237f.Spec.field fs "shut" = b at *
  generalize R7237f.Spec.field fs "replay" = c at *
  generalize R7237f.Spec.field fs "versions" = d at *
  cases a <;> try rfl
  cases b <;> try rfl
  cases c <;> try rfl
  cases d <;> first | rfl | cases h
def RulesAt (G : Hp) (ru : Rules) (v : V) : Prop := ∃ r, v = .ref r ∧ G r = some (.tup [.bl ru.flush, .bl ru.shut, .bl ru.replay, .bl ru.versions])
theorem AtV.isB {G : Hp} {p : Plain} {v : V} (h : AtV G p v) (b : isB p = true) : ∃ a, v = .ref a ∧ G a = some (.tup [.int (if boolOf p then 3 else 2), .int 0]) := by
  obtain ⟨c, rfl⟩ := bool_yes b
  exact h
theorem dec3 (b : Bool) : decide (V.int (if b then 3 else 2) = V.int 3) = b := by cases b <;> rfl
def fRulesOf (K : PySem.W.Frag) : V → Hp → VK → XK → Prop := fun a H Q E => ∃ G p, Same G H ∧ AtV G p a ∧ RC K G H (rulesArg p) (fun ru => ∀ G' H' v, Ext G H G' H' → RulesAt G' ru v → Q v H') E
theorem d_rules_of (T : TxtX K mg) (D_member : DefOk P w K mg base CX0 2 "member" ["value", "words"] (Sp2 fMember)) (D_is_boolean : DefOk P w K mg base CX0 1 "is_boolean" ["value"] (Sp1 fIsBoolean)) (F : Fs K mg "rules_of" s_rules_of) : DefOk P w K mg base (L2N.CX P w) 3 "rules_of" ["value"] (Sp1 (fRulesOf K)) :=
  def_R F sc_rules_of bd_rules_of fun f cdv A outer s H vs Q E hr h => by
    obtain ⟨_, rfl, G, p, hs, hp, q⟩ := h
    obtain ⟨a, c, rfl, ha⟩ := hp.pair
    have tt := SqT.of (K := K) (hs _ _ ha)
    refine ⟨_, (pss_cons (ps_if (pt_cmpR op_eq (pe_ix ix_tup (pv 0) pe_int (fun _ _ => rfl)) (pe_gi T.i_NOTHING) (nomark _)) (pss_one (ps_ret (pe_tup (pa_cons pe_bl (pa_cons pe_bl (pa_cons pe_bl (pa_cons pe_bl pa_nil))))))) pss_nil) (pss_cons (ps_if (pt_cmpR op_ne (pe_ix ix_tup (pv 0) pe_int (fun _ _ => rfl)) (pe_gi T.i_RECORD) (nomark _)) (pss_one (ps_rz T.x_WrongKind hr (pa_cons pe_str pa_nil))) pss_nil) (pss_cons (ps_setLc (i := 1) (own := [("name", 3)]) (g := (gName 3)) (tt := tYes) rfl sc_rules_of.nd rfl rfl (sw_true rfl rfl rfl (by decide +kernel)) (pi_tup (pe_tup (pa_cons pe_str (pa_cons pe_str (pa_cons pe_str (pa_cons pe_str pa_nil)))))) (blkOk_by (N := ["value", "found", "rule", "name"]) (sc := defScope s_rules_of) (by decide +kernel)) (fun _ _ _ _ _ => (pg_name (i := 3) sc_rules_of.nd rfl (Or.inl rfl))) (fun _ _ _ _ _ => pts_nil) (fun _ _ _ _ _ => (pe_d D_member (hr.mono (by decide)) pass0 (pa_cons (pv 0) (pa_cons (pv 3) pa_nil))))) (pss_cons (ps_for passO rfl (pi_list (pv 1)) (pg_name (i := 2) sc_rules_of.nd rfl (Or.inl rfl)) (pss_one (ps_if (pt_not (pt_val (pe_d D_is_boolean (hr.mono (by decide)) pass0 (pa_cons (pv 2) pa_nil)))) (pss_one (ps_rz T.x_WrongKind hr (pa_cons pe_str pa_nil))) pss_nil))) (pss_one (ps_ret (pe_tup (pa_cons (pe_cmpR op_eq (pe_ix ix_tup (pe_ix ix_list (pv 1) pe_int (fun _ _ => rfl)) pe_int (fun _ _ => rfl)) (pe_gi T.i_TRUE) (nomark _)) (pa_cons (pe_cmpR op_eq (pe_ix ix_tup (pe_ix ix_list (pv 1) pe_int (fun _ _ => rfl)) pe_int (fun _ _ => rfl)) (pe_gi T.i_TRUE) (nomark _)) (pa_cons (pe_cmpR op_eq (pe_ix ix_tup (pe_ix ix_list (pv 1) pe_int (fun _ _ => rfl)) pe_int (fun _ _ => rfl)) (pe_gi T.i_TRUE) (nomark _)) (pa_cons (pe_cmpR op_eq (pe_ix ix_tup (pe_ix ix_list (pv 1) pe_int (fun _ _ => rfl)) pe_int (fun _ _ => rfl)) (pe_gi T.i_TRUE) (nomark _)) pa_nil))))))))))), ?_⟩
    refine ⟨_, rfl, a, _, _, _, rfl, rfl, tt, rfl, rfl, _, rfl, ?_⟩
    have no : rulesArg p = .error (typeErr "rules must be { flush, shut, replay, versions } with booleans") → _ := fun e => by
      rw [e] at q
      exact RC.wrong (K := K) (E := E) hs q (by kernel_rfl)
    match p, hp, ha, tt, q, no with
    | .undef, _, _, _, q, _ => exact iteT ⟨Nat.le_of_ble_eq_true rfl, fun r hr => q _ _ _ ((ExtF.refl hs).imm hr) ⟨r, rfl, upd_same⟩⟩
    | .null, _, _, tt, _, no => exact iteF ⟨_, rfl, a, _, _, _, rfl, rfl, tt, rfl, rfl, _, rfl, iteT (no rfl)⟩
    | .bool true, _, _, tt, _, no => exact iteF ⟨_, rfl, a, _, _, _, rfl, rfl, tt, rfl, rfl, _, rfl, iteT (no rfl)⟩
    | .bool false, _, _, tt, _, no => exact iteF ⟨_, rfl, a, _, _, _, rfl, rfl, tt, rfl, rfl, _, rfl, iteT (no rfl)⟩
    | .num _, _, _, tt, _, no => exact iteF ⟨_, rfl, a, _, _, _, rfl, rfl, tt, rfl, rfl, _, rfl, iteT (no rfl)⟩
    | .str _, _, _, tt, _, no => exact iteF ⟨_, rfl, a, _, _, _, rfl, rfl, tt, rfl, rfl, _, rfl, iteT (no rfl)⟩
    | .arr _, _, _, tt, _, no => exact iteF ⟨_, rfl, a, _, _, _, rfl, rfl, tt, rfl, rfl, _, rfl, iteT (no rfl)⟩
    | .obj fs, hp, ha, tt, q, no =>
    have up4 : ∀ n ∈ (["flush", "shut", "replay", "versions"] : List String), fieldOf fs (Str.ofString n) = R7237f.Spec.field fs n ∧ (Str.ofString n).cps.size ≤ 1000 ∧ narrow16 (Str.ofString n) = true := fun n hn => by
      have z : ((["flush", "shut", "replay", "versions"] : List String).all fun n => decide (unitsOf (Str.ofString n) = R7237f.Spec.units n) && (Nat.ble (Str.ofString n).cps.size 1000 && narrow16 (Str.ofString n))) = true := by decide +kernel
      have z := List.all_eq_true.mp z n hn
      rw [Bool.and_eq_true, Bool.and_eq_true] at z
      exact ⟨field_eq (of_decide_eq_true z.1), Nat.le_of_ble_eq_true z.2.1, z.2.2⟩
    refine iteF ⟨_, rfl, a, _, _, _, rfl, rfl, tt, rfl, rfl, _, rfl, iteF ⟨sz4, fun t ht => ?_⟩⟩
    have e1 := (ExtF.refl (F := NoF) hs).imm (o := .tup [.str "flush", .str "shut", .str "replay", .str "versions"]) ht
    refine ⟨t, rfl, ⟨_, SqT.of upd_same⟩, fun D hD => lc_map (ms := (["flush", "shut", "replay", "versions"] : List String)) (S := fun n v => v = V.str (Str.ofString n)) (R := fun G n v => AtV G (R7237f.Spec.field fs n) v) (.tup (SqT.of upd_same)) e1.sub hD pdMap (by decide) (fun _ _ _ _ s h => h.mono s) ?_ ?_⟩
    · rintro n v G1 H1 Y N rfl hn e y
      obtain ⟨en, z1, z2⟩ := up4 n hn
      refine ⟨rfl, _, rfl, _, rfl, _, _, rfl, G1, fs, Str.ofString n, rfl, z1, z2, e.sub, (hp.mono e1.g).mono e.g, fun G2 H2 v e2 hv => y _ _ _ e2 ?_⟩
      rw [← en]
      exact hv
    intro G1 H1 ys e2 gD hD1 pd
    have pq := Pd.map_left (f := fun n => R7237f.Spec.field fs n) (R := AtV G1) pd
    have e12 := e1.trans e2
    refine ⟨_, rfl, D, rfl, ⟨_, SqL.of hD1⟩, for_run (K := K) (a := D) (xs := ys)
      (fun r σ H' => H' = H1 ∧ (∃ x2 x3, σ = [some (.ref a), some (.ref D), x2, x3]) ∧ ∃ pre rest, pre ++ rest = four fs ∧ Paired (AtV G1) rest r ∧ pre.all isB = true) ⟨rfl, ⟨_, _, rfl⟩, [], _, rfl, pq, rfl⟩ ?_ ?_ ?_⟩
    · rintro r σ H' ⟨rfl, _⟩
      exact SqL.of hD1
    · rintro x r σ H' ⟨rfl, ⟨x2, x3, rfl⟩, pre, rest, e0, pr, al⟩
      cases pr with
      | cons hm pr =>
      rename_i m rest
      refine ⟨_, rfl, _, rfl, G1, m, e2.sub, hm, _, rfl, ?_⟩
      cases c : isB m with
      | false =>
        have e : (four fs).all isB = false := by rw [← e0, List.all_append, List.all_cons, c, Bool.false_and, Bool.and_false]
        rw [rules_no e] at q
        exact iteT (RC.wrong e2.sub (Rai.ext q e12) (by kernel_rfl))
      | true =>
        refine iteF ⟨rfl, ⟨_, _, rfl⟩, pre ++ [m], rest, by rw [List.append_assoc]; exact e0, pr, ?_⟩
        rw [List.all_append, al]
        show (isB m && true) = true
        rw [c]
        rfl
    rintro σ H' ⟨rfl, ⟨x2, x3, rfl⟩, pre, rest, e0, pr, al⟩
    cases pr
    rw [List.append_nil] at e0
    subst e0
    rw [rules_yes al] at q
    unfold four at al
    simp only [List.all_cons, List.all_nil, Bool.and_eq_true, Bool.and_true] at al
    clear pd
    cases pq with
    | cons p1 pq1 =>
    cases pq1 with
    | cons p2 pq2 =>
    cases pq2 with
    | cons p3 pq3 =>
    cases pq3 with
    | cons p4 pq4 =>
    cases pq4
    obtain ⟨b1, rfl, g1⟩ := p1.isB al.1
    obtain ⟨b2, rfl, g2⟩ := p2.isB al.2.1
    obtain ⟨b3, rfl, g3⟩ := p3.isB al.2.2.1
    obtain ⟨b4, rfl, g4⟩ := p4.isB al.2.2.2
    have hl := SqL.of (K := K) hD1
    refine ⟨_, rfl, D, _, _, _, rfl, rfl, hl, rfl, b1, _, _, _, rfl, rfl, SqT.of (e2.sub _ _ g1), rfl, rfl, _, rfl, D, _, _, _, rfl, rfl, hl, rfl, b2, _, _, _, rfl, rfl, SqT.of (e2.sub _ _ g2), rfl, rfl, _, rfl, D, _, _, _, rfl, rfl, hl, rfl, b3, _, _, _, rfl, rfl, SqT.of (e2.sub _ _ g3), rfl, rfl, _, rfl, D, _, _, _, rfl, rfl, hl, rfl, b4, _, _, _, rfl, rfl, SqT.of (e2.sub _ _ g4), rfl, rfl, sz4, fun r hr => ?_⟩
    rw [dec3, dec3, dec3, dec3]
    exact q _ _ _ (e12.imm hr) ⟨r, rfl, upd_same⟩
/-- a new volume comes back -/
def NewV (K : PySem.W.Frag) (G H : Hp) (v : Volume) (Q : VK) : Prop := ∀ G' H' L, Ext G H G' H' → VolAt K G' H' L v → (∀ b, L.tg b ≠ 0 → H b = none) → Q (.ref L.self) H'
def fCreate (K : PySem.W.Frag) : V → V → V → Hp → VK → XK → Prop := fun a b c H Q E => ∃ G p1 p2 p3, Same G H ∧ AtV G p1 a ∧ AtV G p2 b ∧ AtV G p3 c ∧ RC K G H (newFn p1 p2 p3) (fun v => NewV K G H v Q) E
theorem d_create_volume (T : TxtX K mg) (D_is_integer : DefOk P w K mg base CX0 1 "is_integer" ["value", "low", "high"] (Sp3 fIsInteger)) (D_rules_of : DefOk P w K mg base (L2N.CX P w) 3 "rules_of" ["value"] (Sp1 (fRulesOf K))) (D_Volume_init : MkOk P w K mg base 3 "Volume" ["self", "blocks", "nodes", "rules"] (Sp4 (fVolInit K)))
    (F : Fs K mg "create_volume" s_create_volume) : DefOk P w K mg base (L2N.CX P w) 5 "create_volume" ["blocks", "nodes", "rules"] (Sp3 (fCreate K)) :=
  def_R F sc_create_volume bd_create_volume fun f cdv A outer s H vs Q E hr h => by
    obtain ⟨_, _, _, rfl, G, p1, p2, p3, hs, a1, a2, a3, q⟩ := h
    refine ⟨_, (pss_cons (ps_if (pt_not (pt_val (pe_d D_is_integer (hr.mono (by decide)) pass0 (pa_cons (pv 0) (pa_cons pe_int (pa_cons pe_int pa_nil)))))) (pss_one (ps_rz T.x_WrongKind hr (pa_cons pe_str pa_nil))) pss_nil) (pss_cons (ps_if (pt_not (pt_val (pe_d D_is_integer (hr.mono (by decide)) pass0 (pa_cons (pv 1) (pa_cons pe_int (pa_cons pe_int pa_nil)))))) (pss_one (ps_rz T.x_WrongKind hr (pa_cons pe_str pa_nil))) pss_nil) (pss_one (ps_ret (pe_mk D_Volume_init (hr.mono (by decide)) pass0 (pa_cons (pe_ix ix_tup (pv 0) pe_int (fun _ _ => rfl)) (pa_cons (pe_ix ix_tup (pv 1) pe_int (fun _ _ => rfl)) (pa_cons (pe_d D_rules_of (hr.mono (by decide)) passR (pa_cons (pv 2) pa_nil)) pa_nil)))))))), ?_⟩
    refine ⟨_, rfl, _, _, _, rfl, G, p1, 1, 16, rfl, rfl, hs, a1, _, rfl, ?_⟩
    unfold newFn at q
    cases c1 : integerIn 1 R7237f.Spec.maxBlocks p1 with
    | none =>
      rw [c1] at q
      rw [show inR p1 1 16 = false from inR_no c1]
      exact iteT (RC.wrong hs q (by kernel_rfl))
    | some n =>
    rw [c1] at q
    obtain ⟨rfl, n1, n2⟩ := inR_yes c1
    have n2 : n ≤ 16 := n2
    rw [show inR (.num (some (n : Int))) 1 16 = true from by rw [inR_num, decide_eq_true (by omega), decide_eq_true (by omega)]; rfl]
    refine iteF ⟨_, rfl, _, _, _, rfl, G, p2, 1, 8, rfl, rfl, hs, a2, _, rfl, ?_⟩
    cases c2 : integerIn 1 R7237f.Spec.maxNodes p2 with
    | none =>
      rw [c2] at q
      rw [show inR p2 1 8 = false from inR_no c2]
      exact iteT (RC.wrong hs q (by kernel_rfl))
    | some m =>
    rw [c2] at q
    obtain ⟨rfl, m1, m2⟩ := inR_yes c2
    have m2 : m ≤ 8 := m2
    rw [show inR (.num (some (m : Int))) 1 8 = true from by rw [inR_num, decide_eq_true (by omega), decide_eq_true (by omega)]; rfl]
    obtain ⟨b1, rfl, g1⟩ := a1.num
    obtain ⟨b2, rfl, g2⟩ := a2.num
    refine iteF ⟨_, rfl, b1, _, _, _, rfl, rfl, SqT.of (hs _ _ g1), rfl, _, rfl, b2, _, _, _, rfl, rfl, SqT.of (hs _ _ g2), rfl, _, rfl, _, rfl, G, p3, hs, a3, (RC.then q).mono fun ru _ q G1 H1 v e1 ⟨r, ev, gr⟩ => ?_⟩
    subst ev
    have q : NewV K G H (newVolume ru n m) Q := q
    intro x dx hx hdx ndx
    have f1 := e1.imm (o := .own x) hdx
    have hx1 : upd H1 dx (.own x) x = none := by rw [upd_ne ndx.symm]; exact hx
    have f2 := f1.mut (o := .ins (cVol K) dx []) hx1
    refine ⟨_, _, _, _, rfl, _, x, dx, r, n, m, ru, rfl, rfl, rfl, rfl, n2, m2, upd_same, f2.sub, ?_, ?_, fun G2 H2 L hL e3 va ow => ⟨rfl, ?_⟩⟩
    · rw [upd_ne ndx.symm]
      exact Same.none e1.sub hx
    · rw [upd_ne (ne_of_none (e1.sub _ _ gr) hdx)]
      exact gr
    · rw [← hL]
      have f3 := f2.trans' e3 (fun b hb => .inr (by rw [hb]; exact e1.free hx))
      refine q G2 H2 L f3 va fun b hb => ?_
      rcases ow b hb with rfl | h
      · exact e1.free hx
      · exact e1.free (upd_none (upd_none h))
end
end Ov
set_option maxHeartbeats 4000000
/-! V13: telling. -/
namespace Ov
open PySem PySem.Spec PyProof.Rows L2
open R7237f.Spec (Plain Units Item Cell Lock Replay Op Way Volume Err Res andThen require typeErr rangeErr integerIn nodeArg blockArg bytesArg readFn readJournal journalFn lastFn cellPlain lockPlain replayPlain nodePlain opPlain stateFn itemPlain entriesPlain nats nat)
theorem pd_from {α β : Type} {f : Nat → β} (whole : List α) : ∀ (l : List α) (k : Nat), (∀ i, l[i]? = whole[k + i]?) → Paired (fun x u => ∃ i, u = f i ∧ whole[i]? = some x) l ((List.range' k l.length).map f)
  | [], _, _ => .nil
  | x :: r, k, h => by
    rw [List.length_cons, List.range'_succ, List.map_cons]
    refine .cons ⟨k, rfl, ?_⟩ (pd_from whole r (k + 1) fun i => ?_)
    · have := h 0
      rw [Nat.add_zero] at this
      exact this.symm
    · have := h (i + 1)
      rw [Nat.add_assoc, Nat.add_comm 1 i]
      exact this
theorem mem_len {α : Type} {e : List α} : ∀ {L : List (List α)}, e ∈ L → e.length ≤ L.flatten.length
  | x :: r, m => by
    rw [List.flatten_cons, List.length_append]
    rcases List.mem_cons.mp m with rfl | m
    · omega
    · have := mem_len m
      omega
def octetsOk (p : Plain) : Bool := match p with
  | .arr l => l.all fun x => (integerIn 0 255 x).isSome
  | _ => false
theorem oct_eq (x : Plain) : inR x 0 255 = (integerIn 0 255 x).isSome := by
  cases h : integerIn 0 255 x with
  | some n =>
    obtain ⟨rfl, h1, h2⟩ := inR_yes h
    rw [inR_num, decide_eq_true (by omega), decide_eq_true (by omega)]
    rfl
  | none => exact inR_no h
theorem bytes_yes {l : List Plain} (h : octetsOk (.arr l) = true) : bytesArg (.arr l) = .ok (l.map fun x => (integerIn 0 255 x).getD 0) := if_pos h
theorem bytes_no {p : Plain} (h : octetsOk p = false) : bytesArg p = .error (typeErr "bytes must be a list of integers from 0 to 255") := by
  cases p with
  | arr l => exact if_neg (by rw [Bool.eq_false_iff] at h; exact h)
  | _ => rfl
theorem oct_is {x : Plain} (h : (integerIn 0 255 x).isSome = true) : x = .num (some (((integerIn 0 255 x).getD 0 : Nat) : Int)) := by
  cases q : integerIn 0 255 x with
  | some n => exact (inR_yes q).1
  | none =>
    rw [q] at h
    cases h
section
variable {P : Program} {w : World} {K : PySem.W.Frag} {mg : Str → Option Value} {base : Heap}
abbrev s_are_octets : Stmt := top 87
theorem sc_are_octets : FnScope ["value", "element"] ["value"] (defScope s_are_octets) := ⟨rfl, rfl, rfl, by decide +kernel, rfl, by decide +kernel, by decide +kernel⟩
theorem bd_are_octets : Bd "are_octets" "are_octets" s_are_octets ["value"] := fun _ _ _ _ _ _ us hl => match us, hl with | [_], _ => rfl
abbrev s_read_journal : Stmt := top 88
theorem sc_read_journal : FnScope ["blocks", "row", "octets", "element", "entry"] ["blocks", "row"] (defScope s_read_journal) := ⟨rfl, rfl, rfl, by decide +kernel, rfl, by decide +kernel, by decide +kernel⟩
theorem bd_read_journal : Bd "read_journal" "read_journal" s_read_journal ["blocks", "row"] := fun _ _ _ _ _ _ us hl => match us, hl with | [_, _], _ => rfl
abbrev s_journal_of : Stmt := top 89
theorem sc_journal_of : FnScope ["volume", "node_value"] ["volume", "node_value"] (defScope s_journal_of) := ⟨rfl, rfl, rfl, by decide +kernel, rfl, by decide +kernel, by decide +kernel⟩
theorem bd_journal_of : Bd "journal_of" "journal_of" s_journal_of ["volume", "node_value"] := fun _ _ _ _ _ _ us hl => match us, hl with | [_, _], _ => rfl
abbrev s_state_record : Stmt := top 90
theorem sc_state_record : FnScope ["state", "version", "octet"] ["state"] (defScope s_state_record) := ⟨rfl, rfl, rfl, by decide +kernel, rfl, by decide +kernel, by decide +kernel⟩
theorem bd_state_record : Bd "state_record" "state_record" s_state_record ["state"] := fun _ _ _ _ _ _ us hl => match us, hl with | [_], _ => rfl
abbrev s_last_of : Stmt := top 91
theorem sc_last_of : FnScope ["volume", "block_value"] ["volume", "block_value"] (defScope s_last_of) := ⟨rfl, rfl, rfl, by decide +kernel, rfl, by decide +kernel, by decide +kernel⟩
theorem bd_last_of : Bd "last_of" "last_of" s_last_of ["volume", "block_value"] := fun _ _ _ _ _ _ us hl => match us, hl with | [_, _], _ => rfl
abbrev s_lock_record : Stmt := top 92
theorem sc_lock_record : FnScope ["lock", "node", "block", "alone"] ["lock"] (defScope s_lock_record) := ⟨rfl, rfl, rfl, by decide +kernel, rfl, by decide +kernel, by decide +kernel⟩
theorem bd_lock_record : Bd "lock_record" "lock_record" s_lock_record ["lock"] := fun _ _ _ _ _ _ us hl => match us, hl with | [_], _ => rfl
abbrev s_memory_record : Stmt := top 93
theorem sc_memory_record : FnScope ["memory", "node", "life", "index"] ["memory"] (defScope s_memory_record) := ⟨rfl, rfl, rfl, by decide +kernel, rfl, by decide +kernel, by decide +kernel⟩
theorem bd_memory_record : Bd "memory_record" "memory_record" s_memory_record ["memory"] := fun _ _ _ _ _ _ us hl => match us, hl with | [_], _ => rfl
abbrev s_node_record : Stmt := top 94
theorem sc_node_record : FnScope ["node"] ["node"] (defScope s_node_record) := ⟨rfl, rfl, rfl, by decide +kernel, rfl, by decide +kernel, by decide +kernel⟩
theorem bd_node_record : Bd "node_record" "node_record" s_node_record ["node"] := fun _ _ _ _ _ _ us hl => match us, hl with | [_], _ => rfl
abbrev s_write_record : Stmt := top 95
theorem sc_write_record : FnScope ["write", "number", "node", "transaction", "changes"] ["write"] (defScope s_write_record) := ⟨rfl, rfl, rfl, by decide +kernel, rfl, by decide +kernel, by decide +kernel⟩
theorem bd_write_record : Bd "write_record" "write_record" s_write_record ["write"] := fun _ _ _ _ _ _ us hl => match us, hl with | [_], _ => rfl
abbrev s_state_of : Stmt := top 96
theorem sc_state_of : FnScope ["volume", "state", "lock", "node", "write"] ["volume"] (defScope s_state_of) := ⟨rfl, rfl, rfl, by decide +kernel, rfl, by decide +kernel, by decide +kernel⟩
theorem bd_state_of : Bd "state_of" "state_of" s_state_of ["volume"] := fun _ _ _ _ _ _ us hl => match us, hl with | [_], _ => rfl
def fAreOctets (K : PySem.W.Frag) : V → Hp → VK → XK → Prop := fun a H Q _ => ∃ G p, Same G H ∧ AtV G p a ∧ Q (.bl (octetsOk p)) H
theorem d_are_octets (T : TxtX K mg) (D_is_integer : DefOk P w K mg base CX0 1 "is_integer" ["value", "low", "high"] (Sp3 fIsInteger)) (F : Fs K mg "are_octets" s_are_octets) : DefOk P w K mg base CX0 2 "are_octets" ["value"] (Sp1 (fAreOctets K)) :=
  def_C F sc_are_octets bd_are_octets fun f cdv A outer s H vs Q E hr h => by
    obtain ⟨_, rfl, G, p, hs, hp, q⟩ := h
    obtain ⟨a, c, rfl, ha⟩ := hp.pair
    have tt := SqT.of (K := K) (hs _ _ ha)
    refine ⟨_, (pss_cons (ps_if (pt_cmpR op_ne (pe_ix ix_tup (pv 0) pe_int (fun _ _ => rfl)) (pe_gi T.i_LIST) (nomark _)) (pss_one (ps_ret pe_bl)) pss_nil) (pss_cons (ps_for PassesOwn.never rfl (pi_list (pe_ix ix_tup (pv 0) pe_int (fun _ _ => rfl))) (pg_name (i := 1) sc_are_octets.nd rfl (Or.inl rfl)) (pss_one (ps_if (pt_not (pt_val (pe_d D_is_integer (hr.mono (by decide)) pass0 (pa_cons (pv 1) (pa_cons pe_int (pa_cons pe_int pa_nil)))))) (pss_one (ps_ret pe_bl)) pss_nil))) (pss_one (ps_ret pe_bl)))), ?_⟩
    refine ⟨_, rfl, a, _, _, _, rfl, rfl, tt, rfl, rfl, _, rfl, ?_⟩
    rw [kind_list]
    match p, hp, ha, tt, q with
    | .undef, _, _, _, q => exact iteT q
    | .null, _, _, _, q => exact iteT q
    | .bool b, _, _, _, q => exact iteT q
    | .num _, _, _, _, q => exact iteT q
    | .str _, _, _, _, q => exact iteT q
    | .obj _, _, _, _, q => exact iteT q
    | .big _, _, _, _, q => exact iteT q
    | .arr xs, hp, ha, tt, q =>
    obtain ⟨a', l, ys, e, h1, h2, pd⟩ := hp.arr
    cases e
    rw [ha] at h1
    cases h1
    refine iteF ⟨_, rfl, a, _, _, _, rfl, rfl, tt, rfl, l, rfl, ⟨_, SqL.of (hs _ _ h2)⟩, for_run (K := K) (a := l) (xs := ys)
      (fun r σ H' => H' = H ∧ (∃ x1, σ = [some (.ref a), x1]) ∧ ∃ rest, Paired (AtV G) rest r ∧ octetsOk (.arr xs) = rest.all fun x => (integerIn 0 255 x).isSome) ⟨rfl, ⟨_, rfl⟩, xs, pd, rfl⟩ ?_ ?_ ?_⟩
    · rintro r σ H' ⟨rfl, _⟩
      exact SqL.of (hs _ _ h2)
    · rintro t r σ H' ⟨rfl, ⟨x1, rfl⟩, rest, pr, ef⟩
      cases pr with
      | cons hm pr =>
      rename_i m rest
      rw [List.all_cons] at ef
      refine ⟨_, rfl, _, _, _, rfl, G, m, 0, 255, rfl, rfl, hs, hm, _, rfl, ?_⟩
      rw [oct_eq]
      cases c : (integerIn 0 255 m).isSome with
      | false =>
        rw [c, Bool.false_and] at ef
        rw [ef] at q
        exact iteT q
      | true =>
        rw [c, Bool.true_and] at ef
        exact iteF ⟨rfl, ⟨_, rfl⟩, rest, pr, ef⟩
    · rintro σ H' ⟨rfl, ⟨x1, rfl⟩, rest, pr, ef⟩
      cases pr
      rw [ef] at q
      exact q
def fReadJournal (K : PySem.W.Frag) : V → V → Hp → VK → XK → Prop := fun a b H Q E => ∃ G p1 p2, Same G H ∧ AtV G p1 a ∧ AtV G p2 b ∧ (∀ xs, p2 = .arr xs → xs.length ≤ 1000000) ∧ RC K G H (readFn p1 p2) (fun p => Ret G H p Q) E
theorem d_read_journal (T : TxtX K mg) (D_is_integer : DefOk P w K mg base CX0 1 "is_integer" ["value", "low", "high"] (Sp3 fIsInteger)) (D_are_octets : DefOk P w K mg base CX0 2 "are_octets" ["value"] (Sp1 (fAreOctets K))) (D_read_entries : DefOk P w K mg base CX0 3 "read_entries" ["blocks", "octets"] (Sp2 (fReadEntries (K := K))))
    (D_change_records : DefOk P w K mg base CX0 4 "change_records" ["changes"] (Sp1 (fChangeRecords (K := K)))) (D_listing : DefOk P w K mg base CX0 1 "listing" ["values"] (Sp1 fListing)) (F : Fs K mg "read_journal" s_read_journal) : DefOk P w K mg base (L2N.CX P w) 5 "read_journal" ["blocks", "row"] (Sp2 (fReadJournal K)) :=
  def_R F sc_read_journal bd_read_journal fun f cdv A outer s H vs Q E hr h => by
    obtain ⟨_, _, rfl, G, p1, p2, hs, a1, a2, hz, q⟩ := h
    refine ⟨_, (pss_cons (ps_if (pt_not (pt_val (pe_d D_is_integer (hr.mono (by decide)) pass0 (pa_cons (pv 0) (pa_cons pe_int (pa_cons pe_int pa_nil)))))) (pss_one (ps_rz T.x_WrongKind hr (pa_cons pe_str pa_nil))) pss_nil) (pss_cons (ps_if (pt_not (pt_val (pe_d D_are_octets (hr.mono (by decide)) pass0 (pa_cons (pv 1) pa_nil)))) (pss_one (ps_rz T.x_WrongKind hr (pa_cons pe_str pa_nil))) pss_nil) (pss_cons (ps_setLc (i := 2) (own := [("element", 3)]) (g := (gName 3)) (tt := tYes) rfl sc_read_journal.nd rfl rfl (sw_true rfl rfl rfl (by decide +kernel)) (pi_list (pe_ix ix_tup (pv 1) pe_int (fun _ _ => rfl))) (blkOk_by (N := ["blocks", "row", "octets", "element", "entry"]) (sc := defScope s_read_journal) (by decide +kernel)) (fun _ _ _ _ _ => (pg_name (i := 3) sc_read_journal.nd rfl (Or.inl rfl))) (fun _ _ _ _ _ => pts_nil) (fun _ _ _ _ _ => (pe_ix (ix_tupK (K := K)) (pv 3) pe_int (fun _ _ => rfl)))) (pss_one (ps_ret (pe_d D_listing (hr.mono (by decide)) pass0 (pa_cons (pe_lc (own := [("entry", 4)]) (g := (gName 4)) (tt := tYes) rfl sc_read_journal.nd (pi_list (pe_d D_read_entries (hr.mono (by decide)) pass0 (pa_cons (pe_ix ix_tup (pv 0) pe_int (fun _ _ => rfl)) (pa_cons (pv 2) pa_nil)))) (blkOk_by (N := ["blocks", "row", "octets", "element", "entry"]) (sc := defScope s_read_journal) (by decide +kernel)) (fun _ _ _ _ _ => (pg_name (i := 4) sc_read_journal.nd rfl (Or.inl rfl))) (fun _ _ _ _ _ => pts_nil) (fun _ _ _ _ _ => (pe_d D_change_records (hr.mono (by decide)) pass0 (pa_cons (pv 4) pa_nil)))) pa_nil))))))), ?_⟩
    refine ⟨_, rfl, _, _, _, rfl, G, p1, 1, 16, rfl, rfl, hs, a1, _, rfl, ?_⟩
    unfold readFn at q
    cases c1 : integerIn 1 R7237f.Spec.maxBlocks p1 with
    | none =>
      rw [c1] at q
      rw [show inR p1 1 16 = false from inR_no c1]
      exact iteT (RC.wrong hs q (by kernel_rfl))
    | some n =>
    rw [c1] at q
    obtain ⟨rfl, n1, n2⟩ := inR_yes c1
    have n2 : n ≤ 16 := n2
    rw [show inR (.num (some (n : Int))) 1 16 = true from by rw [inR_num, decide_eq_true (by omega), decide_eq_true (by omega)]; rfl]
    refine iteF ⟨_, rfl, _, rfl, G, p2, hs, a2, _, rfl, ?_⟩
    cases c2 : octetsOk p2 with
    | false =>
      rw [bytes_no c2] at q
      exact iteT (RC.wrong hs q (by kernel_rfl))
    | true =>
    match p2, a2, hz, c2, q with
    | .arr xs, a2, hz, c2, q =>
    rw [bytes_yes c2] at q
    have q : Ret G H (entriesPlain (readJournal n (xs.map fun x => (integerIn 0 255 x).getD 0))) Q := q
    have hz := hz xs rfl
    obtain ⟨b1, rfl, g1⟩ := a1.num
    obtain ⟨a, l, ys, rfl, h1, h2, pd⟩ := a2.arr
    refine iteF ⟨_, rfl, a, _, _, _, rfl, rfl, SqT.of (hs _ _ h1), rfl, l, rfl, ⟨_, SqL.of (hs _ _ h2)⟩, fun D hD => lc_map (S := AtV G) (R := fun _ x v => v = V.int (((integerIn 0 255 x).getD 0 : Nat) : Int)) (.lst (SqL.of (hs _ _ h2))) hs hD pd (by omega) (fun _ _ _ _ _ h => h) ?_ ?_⟩
    · rintro m x G1 H1 Y N hx hm e y
      have om := List.all_eq_true.mp c2 m hm
      rw [oct_is om] at hx
      obtain ⟨b, rfl, hb⟩ := hx.num
      exact ⟨rfl, _, rfl, b, _, _, _, rfl, rfl, SqT.of (e.same _ _ (hs _ _ hb)), rfl, y _ _ _ (ExtF.refl e.sub) rfl⟩
    intro G1 H1 zs e1 gD hD1 pz
    have ez : zs = nlst (xs.map fun x => (integerIn 0 255 x).getD 0) := by
      rw [pdMap' pz]
      unfold nlst
      rw [List.map_map]
      rfl
    subst ez
    refine ⟨_, rfl, b1, _, _, _, rfl, rfl, SqT.of (e1.same _ _ (hs _ _ g1)), rfl, _, rfl, _, _, rfl, G1, D, _, n, rfl, rfl, e1.sub, SqL.of hD1, by rw [List.length_map]; exact hz, fun G2 H2 D2 es e2 g2 p2 => ?_⟩
    have lj := journal_len (b := n) (ns := xs.map fun x => (integerIn 0 255 x).getD 0)
    rw [List.length_map] at lj
    refine ⟨D2, rfl, ⟨_, SqL.of (e2.sub _ _ g2)⟩, fun D3 hD3 => lc_map (S := EntAt G2) (R := fun G e v => AtV G (.arr (e.map itemPlain)) v) (.lst (SqL.of (e2.sub _ _ g2))) e2.sub hD3 p2 (by omega) (fun _ _ _ _ s h => h.mono s) ?_ ?_⟩
    · rintro e x G3 H3 Y N ⟨l3, vs3, rfl, h3, pe⟩ me e3 y
      refine ⟨rfl, _, rfl, _, rfl, G3, l3, vs3, e, rfl, e3.sub, SqL.of (e3.same _ _ (e2.sub _ _ h3)), Pd.mono (fun _ _ z => z.mono e3.g) pe, ?_, fun G4 H4 v e4 hv => y _ _ _ e4 hv⟩
      have le : e.length ≤ (readJournal n (xs.map fun x => (integerIn 0 255 x).getD 0)).flatten.length := mem_len me
      omega
    intro G3 H3 ws e3 g3 h3 p3
    refine ⟨_, rfl, G3, D3, ws, _, rfl, h3, e3.sub, AtL.of (Pd.map_left p3), fun G4 H4 v e4 hv => q G4 H4 v (((e1.trans e2).trans e3).trans e4) hv⟩
def fJournalOf (K : PySem.W.Frag) : V → V → Hp → VK → XK → Prop := fun a b H Q E => ∃ G L v p, a = .ref L.self ∧ AtV G p b ∧ VGood v ∧ VolAt K G H L v ∧ RC K G H (journalFn v p) (fun r => Ret G H r Q) E
theorem d_journal_of (T : TxtX K mg) (D_node_number : DefOk P w K mg base (L2N.CX P w) 2 "node_number" ["volume", "value"] (Sp2 (fNodeNumber K))) (D_Volume_node_at : MetOk P w K mg base CX0 1 (cVol K) "node_at" ["self", "node"] (Sp2 (fNodeAt K))) (D_integers : DefOk P w K mg base CX0 2 "integers" ["numbers"] (Sp1 fIntegers))
    (F : Fs K mg "journal_of" s_journal_of) : DefOk P w K mg base (L2N.CX P w) 3 "journal_of" ["volume", "node_value"] (Sp2 (fJournalOf K)) :=
  def_R F sc_journal_of bd_journal_of fun f cdv A outer s H vs Q E hr h => by
    obtain ⟨_, _, rfl, G, L, v, p, rfl, hp, hg, h, q⟩ := h
    refine ⟨_, (pss_one (ps_ret (pe_d D_integers (hr.mono (by decide)) pass0 (pa_cons (pe_fld (pe_m T.c_Volume D_Volume_node_at (hr.mono (by decide)) pass0 (pv 0) (pa_cons (pe_d D_node_number (hr.mono (by decide)) passR (pa_cons (pv 0) (pa_cons (pv 1) pa_nil))) pa_nil)) rfl) pa_nil)))), ?_⟩
    refine ⟨_, rfl, _, _, _, rfl, h.obj, rfl, _, rfl, _, rfl, _, _, rfl, G, L, v, p, rfl, hp, hg.nn, h, (RC.then q).mono fun u hu q => ?_⟩
    obtain ⟨n1, n2⟩ := aNode_ok hu
    have hn := h.node _ _ (node_get n1 n2)
    exact ⟨_, _, rfl, G, L, v, nodeArg p, rfl, rfl, n1, n2, h, _, _, _, _, _, rfl, hn.obj, T.c_Node, T.n_Node _ mm6, rfl, _, rfl, G, _, _, rfl, h.sub _ _ hn.js, Nat.le_trans (hg.zn (node_mem n1 n2)).2 (by decide), h.sub, q⟩
def fStateRecord (K : PySem.W.Frag) : V → Hp → VK → XK → Prop := fun a H Q _ => ∃ G c, Same G H ∧ CellAt G c a ∧ Ret G H (cellPlain c) Q
theorem d_state_record (T : TxtX K mg) (D_integer : DefOk P w K mg base CX0 1 "integer" ["number"] (Sp1 fInteger)) (D_record : DefOk P w K mg base CX0 2 "record" ["members"] (Sp1 fRecord)) (F : Fs K mg "state_record" s_state_record) : DefOk P w K mg base CX0 3 "state_record" ["state"] (Sp1 (fStateRecord K)) :=
  def_C F sc_state_record bd_state_record fun f cdv A outer s H vs Q E hr h => by
    obtain ⟨_, rfl, G, x, hs, ⟨a, rfl, ha⟩, q⟩ := h
    refine ⟨_, (pss_cons (ps_asg (pv 0) (pg_tup rfl (pgs_cons (pg_name (i := 1) sc_state_record.nd rfl (Or.inl rfl)) (pgs_cons (pg_name (i := 2) sc_state_record.nd rfl (Or.inl rfl)) pgs_nil)))) (pss_one (ps_ret (pe_d D_record (hr.mono (by decide)) pass0 (pa_cons (pe_lst (pa_cons (pe_tup (pa_cons pe_str (pa_cons (pe_d D_integer (hr.mono (by decide)) pass0 (pa_cons (pv 1) pa_nil)) pa_nil))) (pa_cons (pe_tup (pa_cons pe_str (pa_cons (pe_d D_integer (hr.mono (by decide)) pass0 (pa_cons (pv 2) pa_nil)) pa_nil))) pa_nil))) pa_nil))))), ?_⟩
    refine ⟨_, rfl, a, _, rfl, SqT.of (hs _ _ ha), rfl, _, _, rfl, _, _, rfl, rfl, ?_⟩
    refine ev_record (G := G) (ps := recS [("version", nat x.version), ("value", nat x.value)]) (.cons ?_ (by kernel_rfl) (.cons ?_ (by kernel_rfl) .nil)) hs (Nat.le_of_ble_eq_true rfl) ?_
    · exact fun G1 H1 Q e r => ⟨_, rfl, _, rfl, G1, _, rfl, e.sub, r⟩
    · exact fun G1 H1 Q e r => ⟨_, rfl, _, rfl, G1, _, rfl, e.sub, r⟩
    · rw [rec_spec (by kernel_rfl)]
      exact q
def fLastOf (K : PySem.W.Frag) : V → V → Hp → VK → XK → Prop := fun a b H Q E => ∃ G L v p, a = .ref L.self ∧ AtV G p b ∧ VGood v ∧ VolAt K G H L v ∧ RC K G H (lastFn v p) (fun r => Ret G H r Q) E
theorem d_last_of (T : TxtX K mg) (D_block_number : DefOk P w K mg base (L2N.CX P w) 2 "block_number" ["volume", "value"] (Sp2 (fBlockNumber K))) (D_state_record : DefOk P w K mg base CX0 3 "state_record" ["state"] (Sp1 (fStateRecord K))) (F : Fs K mg "last_of" s_last_of) : DefOk P w K mg base (L2N.CX P w) 4 "last_of" ["volume", "block_value"] (Sp2 (fLastOf K)) :=
  def_R F sc_last_of bd_last_of fun f cdv A outer s H vs Q E hr h => by
    obtain ⟨_, _, rfl, G, L, v, p, rfl, hp, hg, h, q⟩ := h
    obtain ⟨ls, hl, pl⟩ := h.last
    refine ⟨_, (pss_one (ps_ret (pe_d D_state_record (hr.mono (by decide)) pass0 (pa_cons (pe_ix ix_list (pe_fld (pv 0) rfl) (pe_d D_block_number (hr.mono (by decide)) passR (pa_cons (pv 0) (pa_cons (pv 1) pa_nil))) (fun _ _ => rfl)) pa_nil)))), ?_⟩
    refine ⟨_, rfl, _, _, _, _, _, rfl, h.obj, T.c_Volume, T.n_Volume _ mm3, rfl, _, rfl, _, rfl, _, _, rfl, G, L, v, p, rfl, hp, hg.bl, h, (RC.then q).mono fun u hu q => ?_⟩
    have hb := aBlock_ok hu
    have ht : (truths v)[blockArg p]? = some (v.truth (blockArg p)) := by
      unfold truths
      rw [List.getElem?_map, List.getElem?_range hb]
      rfl
    obtain ⟨y, hy, hc⟩ := Pd.get' pl ht
    exact ⟨_, _, _, _, rfl, rfl, SqL.of hl, atI_nat hy, _, rfl, G, _, h.sub, hc, q⟩
def fLockRecord (K : PySem.W.Frag) : V → Hp → VK → XK → Prop := fun a H Q _ => ∃ G l, Same G H ∧ LockAt G l a ∧ Ret G H (lockPlain l) Q
theorem d_lock_record (T : TxtX K mg) (D_integer : DefOk P w K mg base CX0 1 "integer" ["number"] (Sp1 fInteger)) (D_boolean : DefOk P w K mg base CX0 1 "boolean" ["flag"] (Sp1 fBoolean)) (D_record : DefOk P w K mg base CX0 2 "record" ["members"] (Sp1 fRecord)) (F : Fs K mg "lock_record" s_lock_record) : DefOk P w K mg base CX0 3 "lock_record" ["lock"] (Sp1 (fLockRecord K)) :=
  def_C F sc_lock_record bd_lock_record fun f cdv A outer s H vs Q E hr h => by
    obtain ⟨_, rfl, G, x, hs, ⟨a, rfl, ha⟩, q⟩ := h
    refine ⟨_, (pss_cons (ps_asg (pv 0) (pg_tup rfl (pgs_cons (pg_name (i := 1) sc_lock_record.nd rfl (Or.inl rfl)) (pgs_cons (pg_name (i := 2) sc_lock_record.nd rfl (Or.inl rfl)) (pgs_cons (pg_name (i := 3) sc_lock_record.nd rfl (Or.inl rfl)) pgs_nil))))) (pss_one (ps_ret (pe_d D_record (hr.mono (by decide)) pass0 (pa_cons (pe_lst (pa_cons (pe_tup (pa_cons pe_str (pa_cons (pe_d D_integer (hr.mono (by decide)) pass0 (pa_cons (pv 1) pa_nil)) pa_nil))) (pa_cons (pe_tup (pa_cons pe_str (pa_cons (pe_d D_integer (hr.mono (by decide)) pass0 (pa_cons (pv 2) pa_nil)) pa_nil))) (pa_cons (pe_tup (pa_cons pe_str (pa_cons (pe_d D_boolean (hr.mono (by decide)) pass0 (pa_cons (pv 3) pa_nil)) pa_nil))) pa_nil)))) pa_nil))))), ?_⟩
    refine ⟨_, rfl, a, _, rfl, SqT.of (hs _ _ ha), rfl, _, _, rfl, _, _, rfl, _, _, rfl, rfl, ?_⟩
    refine ev_record (G := G) (ps := recS [("node", nat x.node), ("block", nat x.block), ("alone", .bool x.alone)]) (.cons ?_ (by kernel_rfl) (.cons ?_ (by kernel_rfl) (.cons ?_ (by kernel_rfl) .nil))) hs (Nat.le_of_ble_eq_true rfl) ?_
    · exact fun G1 H1 Q e r => ⟨_, rfl, _, rfl, G1, _, rfl, e.sub, r⟩
    · exact fun G1 H1 Q e r => ⟨_, rfl, _, rfl, G1, _, rfl, e.sub, r⟩
    · exact fun G1 H1 Q e r => ⟨_, rfl, _, rfl, G1, _, rfl, e.sub, r⟩
    · rw [rec_spec (by kernel_rfl)]
      exact q
def fMemoryRecord (K : PySem.W.Frag) : V → Hp → VK → XK → Prop := fun a H Q _ => ∃ G m, Same G H ∧ MemoAt G m a ∧ Ret G H (replayPlain m) Q
theorem d_memory_record (T : TxtX K mg) (D_null : DefOk P w K mg base CX0 1 "null" [] (Sp0 fNull)) (D_integer : DefOk P w K mg base CX0 1 "integer" ["number"] (Sp1 fInteger)) (D_record : DefOk P w K mg base CX0 2 "record" ["members"] (Sp1 fRecord)) (F : Fs K mg "memory_record" s_memory_record) : DefOk P w K mg base CX0 3 "memory_record" ["memory"] (Sp1 (fMemoryRecord K)) :=
  def_C F sc_memory_record bd_memory_record fun f cdv A outer s H vs Q E hr h => by
    obtain ⟨_, rfl, G, x, hs, hm, q⟩ := h
    refine ⟨_, (pss_cons (ps_if (pt_cmp (pc_isN (pv 0)) rfl) (pss_one (ps_ret (pe_d0 D_null (hr.mono (by decide)) pass0))) pss_nil) (pss_cons (ps_asg (pv 0) (pg_tup rfl (pgs_cons (pg_name (i := 1) sc_memory_record.nd rfl (Or.inl rfl)) (pgs_cons (pg_name (i := 2) sc_memory_record.nd rfl (Or.inl rfl)) (pgs_cons (pg_name (i := 3) sc_memory_record.nd rfl (Or.inl rfl)) pgs_nil))))) (pss_one (ps_ret (pe_d D_record (hr.mono (by decide)) pass0 (pa_cons (pe_lst (pa_cons (pe_tup (pa_cons pe_str (pa_cons (pe_d D_integer (hr.mono (by decide)) pass0 (pa_cons (pv 1) pa_nil)) pa_nil))) (pa_cons (pe_tup (pa_cons pe_str (pa_cons (pe_d D_integer (hr.mono (by decide)) pass0 (pa_cons (pv 2) pa_nil)) pa_nil))) (pa_cons (pe_tup (pa_cons pe_str (pa_cons (pe_d D_integer (hr.mono (by decide)) pass0 (pa_cons (pv 3) pa_nil)) pa_nil))) pa_nil)))) pa_nil)))))), ?_⟩
    cases x with
    | none =>
      have e : _ = V.non := hm
      subst e
      exact ⟨_, rfl, _, rfl, iteT ⟨rfl, G, hs, q⟩⟩
    | some x =>
    obtain ⟨a, rfl, ha⟩ := hm
    refine ⟨_, rfl, _, rfl, iteF ⟨_, rfl, a, _, rfl, SqT.of (hs _ _ ha), rfl, _, _, rfl, _, _, rfl, _, _, rfl, rfl, ?_⟩⟩
    refine ev_record (G := G) (ps := recS [("node", nat x.node), ("life", nat x.life), ("index", nat x.index)]) (.cons ?_ (by kernel_rfl) (.cons ?_ (by kernel_rfl) (.cons ?_ (by kernel_rfl) .nil))) hs (Nat.le_of_ble_eq_true rfl) ?_
    · exact fun G1 H1 Q e r => ⟨_, rfl, _, rfl, G1, _, rfl, e.sub, r⟩
    · exact fun G1 H1 Q e r => ⟨_, rfl, _, rfl, G1, _, rfl, e.sub, r⟩
    · exact fun G1 H1 Q e r => ⟨_, rfl, _, rfl, G1, _, rfl, e.sub, r⟩
    · rw [rec_spec (by kernel_rfl)]
      exact q
def fNodeRecord (K : PySem.W.Frag) : V → Hp → VK → XK → Prop := fun a H Q _ => ∃ G n x, a = .ref n.self ∧ Same G H ∧ NodeAt K G H n x ∧ x.cache.length ≤ 1000000 ∧ Ret G H (nodePlain x) Q
theorem d_node_record (T : TxtX K mg) (D_boolean : DefOk P w K mg base CX0 1 "boolean" ["flag"] (Sp1 fBoolean)) (D_integer : DefOk P w K mg base CX0 1 "integer" ["number"] (Sp1 fInteger)) (D_change_records : DefOk P w K mg base CX0 4 "change_records" ["changes"] (Sp1 (fChangeRecords (K := K)))) (D_memory_record : DefOk P w K mg base CX0 3 "memory_record" ["memory"] (Sp1 (fMemoryRecord K)))
    (D_record : DefOk P w K mg base CX0 2 "record" ["members"] (Sp1 fRecord)) (F : Fs K mg "node_record" s_node_record) : DefOk P w K mg base CX0 5 "node_record" ["node"] (Sp1 (fNodeRecord K)) :=
  def_C F sc_node_record bd_node_record fun f cdv A outer s H vs Q E hr h => by
    obtain ⟨_, rfl, G, n, x, rfl, hs, hn, hz, q⟩ := h
    refine ⟨_, (pss_one (ps_ret (pe_d D_record (hr.mono (by decide)) pass0 (pa_cons (pe_lst (pa_cons (pe_tup (pa_cons pe_str (pa_cons (pe_d D_boolean (hr.mono (by decide)) pass0 (pa_cons (pe_fld (pv 0) rfl) pa_nil)) pa_nil))) (pa_cons (pe_tup (pa_cons pe_str (pa_cons (pe_d D_boolean (hr.mono (by decide)) pass0 (pa_cons (pe_fld (pv 0) rfl) pa_nil)) pa_nil))) (pa_cons (pe_tup (pa_cons pe_str (pa_cons (pe_d D_boolean (hr.mono (by decide)) pass0 (pa_cons (pe_fld (pv 0) rfl) pa_nil)) pa_nil))) (pa_cons (pe_tup (pa_cons pe_str (pa_cons (pe_d D_boolean (hr.mono (by decide)) pass0 (pa_cons (pe_fld (pv 0) rfl) pa_nil)) pa_nil))) (pa_cons (pe_tup (pa_cons pe_str (pa_cons (pe_d D_integer (hr.mono (by decide)) pass0 (pa_cons (pe_fld (pv 0) rfl) pa_nil)) pa_nil))) (pa_cons (pe_tup (pa_cons pe_str (pa_cons (pe_d D_change_records (hr.mono (by decide)) pass0 (pa_cons (pe_fld (pv 0) rfl) pa_nil)) pa_nil))) (pa_cons (pe_tup (pa_cons pe_str (pa_cons (pe_d D_integer (hr.mono (by decide)) pass0 (pa_cons (pe_callB call_len_seq (by rfl) T.z_len PySem.boot_len (pa_cons (pe_fld (pv 0) rfl) pa_nil)) pa_nil)) pa_nil))) (pa_cons (pe_tup (pa_cons pe_str (pa_cons (pe_d D_memory_record (hr.mono (by decide)) pass0 (pa_cons (pe_fld (pv 0) rfl) pa_nil)) pa_nil))) pa_nil))))))))) pa_nil)))), ?_⟩
    refine ev_record (G := G) (ps := recS [("running", .bool x.running), ("shutOut", .bool x.out), ("replayed", .bool x.replayed), ("freed", .bool x.freed), ("life", nat x.life), ("cache", .arr (x.cache.map itemPlain)), ("journal", nat x.journal.length), ("replays", replayPlain x.replay)])
      (.cons ?_ (by kernel_rfl) (.cons ?_ (by kernel_rfl) (.cons ?_ (by kernel_rfl) (.cons ?_ (by kernel_rfl) (.cons ?_ (by kernel_rfl) (.cons ?_ (by kernel_rfl) (.cons ?_ (by kernel_rfl) (.cons ?_ (by kernel_rfl) .nil)))))))) hs (Nat.le_of_ble_eq_true rfl) ?_
    · exact fun G1 H1 Q e r => ⟨_, rfl, _, _, _, _, _, rfl, (hn.keep e id id).obj, T.c_Node, T.n_Node _ mm0, rfl, _, rfl, G1, _, rfl, e.sub, r⟩
    · exact fun G1 H1 Q e r => ⟨_, rfl, _, _, _, _, _, rfl, (hn.keep e id id).obj, T.c_Node, T.n_Node _ mm1, rfl, _, rfl, G1, _, rfl, e.sub, r⟩
    · exact fun G1 H1 Q e r => ⟨_, rfl, _, _, _, _, _, rfl, (hn.keep e id id).obj, T.c_Node, T.n_Node _ mm2, rfl, _, rfl, G1, _, rfl, e.sub, r⟩
    · exact fun G1 H1 Q e r => ⟨_, rfl, _, _, _, _, _, rfl, (hn.keep e id id).obj, T.c_Node, T.n_Node _ mm3, rfl, _, rfl, G1, _, rfl, e.sub, r⟩
    · exact fun G1 H1 Q e r => ⟨_, rfl, _, _, _, _, _, rfl, (hn.keep e id id).obj, T.c_Node, T.n_Node _ mm4, rfl, _, rfl, G1, _, rfl, e.sub, r⟩
    · intro G1 H1 Q e r
      have k := hn.keep e id id
      obtain ⟨cs, hc, pc⟩ := k.cs
      exact ⟨_, rfl, _, _, _, _, _, rfl, k.obj, T.c_Node, T.n_Node _ mm5, rfl, _, rfl, G1, _, cs, x.cache, rfl, e.sub, SqL.of hc, pc, hz, r⟩
    · intro G1 H1 Q e r
      have k := hn.keep e id id
      refine ⟨_, rfl, _, _, _, _, _, rfl, k.obj, T.c_Node, T.n_Node _ mm6, rfl, _, _, rfl, .inl (SqL.of (e.sub _ _ k.js)), _, rfl, G1, ((nlst x.journal).length : Int), rfl, e.sub, ?_⟩
      rw [nlst_len]
      exact r
    · intro G1 H1 Q e r
      have k := hn.keep e id id
      exact ⟨_, rfl, _, _, _, _, _, rfl, k.obj, T.c_Node, T.n_Node _ mm7, rfl, _, rfl, G1, x.replay, e.sub, k.ms, r⟩
    · rw [rec_spec (by kernel_rfl)]
      exact q
theorem units_entry : unitsOf (Str.ofString "entry") = R7237f.Spec.units "entry" := by kernel_rfl
theorem units_block : unitsOf (Str.ofString "block") = R7237f.Spec.units "block" := by kernel_rfl
def fWriteRecord (K : PySem.W.Frag) : V → Hp → VK → XK → Prop := fun a H Q _ => ∃ G o, Same G H ∧ OpAt G o a ∧ (∀ t e, o.way = .log t e → 0 < t) ∧ (wItems o.way).length ≤ 1000 ∧ Ret G H (opPlain o) Q
theorem d_write_record (T : TxtX K mg) (D_integer : DefOk P w K mg base CX0 1 "integer" ["number"] (Sp1 fInteger)) (D_text : DefOk P w K mg base CX0 2 "text" ["words"] (Sp1 fText)) (D_null : DefOk P w K mg base CX0 1 "null" [] (Sp0 fNull)) (D_change_records : DefOk P w K mg base CX0 4 "change_records" ["changes"] (Sp1 (fChangeRecords (K := K))))
    (D_record : DefOk P w K mg base CX0 2 "record" ["members"] (Sp1 fRecord)) (F : Fs K mg "write_record" s_write_record) : DefOk P w K mg base CX0 5 "write_record" ["write"] (Sp1 (fWriteRecord K)) :=
  def_C F sc_write_record bd_write_record fun f cdv A outer s H vs Q E hr h => by
    obtain ⟨_, rfl, G, o, hs, ⟨a, l, zs, rfl, ha, hl, pz⟩, ht, few, q⟩ := h
    refine ⟨_, (pss_cons (ps_asg (pv 0) (pg_tup rfl (pgs_cons (pg_name (i := 1) sc_write_record.nd rfl (Or.inl rfl)) (pgs_cons (pg_name (i := 2) sc_write_record.nd rfl (Or.inl rfl)) (pgs_cons (pg_name (i := 3) sc_write_record.nd rfl (Or.inl rfl)) (pgs_cons (pg_name (i := 4) sc_write_record.nd rfl (Or.inl rfl)) pgs_nil)))))) (pss_one (ps_ret (pe_d D_record (hr.mono (by decide)) pass0 (pa_cons (pe_lst (pa_cons (pe_tup (pa_cons pe_str (pa_cons (pe_d D_integer (hr.mono (by decide)) pass0 (pa_cons (pv 1) pa_nil)) pa_nil))) (pa_cons (pe_tup (pa_cons pe_str (pa_cons (pe_d D_integer (hr.mono (by decide)) pass0 (pa_cons (pv 2) pa_nil)) pa_nil))) (pa_cons (pe_tup (pa_cons pe_str (pa_cons (pe_d D_text (hr.mono (by decide)) pass0 (pa_cons (pe_ifExp (pt_cmpR op_gt (pv 3) pe_int (nomark _)) pe_str pe_str) pa_nil)) pa_nil))) (pa_cons (pe_tup (pa_cons pe_str (pa_cons (pe_ifExp (pt_cmpR op_gt (pv 3) pe_int (nomark _)) (pe_d D_integer (hr.mono (by decide)) pass0 (pa_cons (pv 3) pa_nil)) (pe_d0 D_null (hr.mono (by decide)) pass0)) pa_nil))) (pa_cons (pe_tup (pa_cons pe_str (pa_cons (pe_d D_change_records (hr.mono (by decide)) pass0 (pa_cons (pv 4) pa_nil)) pa_nil))) pa_nil)))))) pa_nil))))), ?_⟩
    refine ⟨_, rfl, a, _, rfl, SqT.of (hs _ _ ha), rfl, _, _, rfl, _, _, rfl, _, _, rfl, _, _, rfl, rfl, ?_⟩
    cases ew : o.way with
    | log t e =>
      have t0 := ht t e ew
      have dt : decide ((wTx (.log t e) : Int) > 0) = true := decide_eq_true (by show (t : Int) > 0; omega)
      have eq : opPlain o = R7237f.Spec.record [("write", nat o.id), ("node", nat o.node), ("kind", R7237f.Spec.text "entry"), ("transaction", nat t), ("changes", .arr (e.map itemPlain))] := by
        unfold opPlain
        simp only [ew]
      rw [eq] at q
      rw [ew] at pz few
      have pz : Paired (ItemAt G) e zs := pz
      have few : e.length ≤ 1000 := few
      refine ev_record (G := G) (ps := recS [("write", nat o.id), ("node", nat o.node), ("kind", R7237f.Spec.text "entry"), ("transaction", nat t), ("changes", .arr (e.map itemPlain))]) (.cons ?_ (by kernel_rfl) (.cons ?_ (by kernel_rfl) (.cons ?_ (by kernel_rfl) (.cons ?_ (by kernel_rfl) (.cons ?_ (by kernel_rfl) .nil))))) hs (Nat.le_of_ble_eq_true rfl) ?_
      · exact fun G1 H1 Q e r => ⟨_, rfl, _, rfl, G1, _, rfl, e.sub, r⟩
      · exact fun G1 H1 Q e r => ⟨_, rfl, _, rfl, G1, _, rfl, e.sub, r⟩
      · intro G1 H1 Q e1 r
        refine ⟨_, rfl, _, _, rfl, rfl, _, rfl, ?_⟩
        rw [dt]
        refine iteT ⟨_, rfl, G1, Str.ofString "entry", rfl, Nat.le_of_ble_eq_true (by kernel_rfl), by kernel_rfl, e1.sub, ?_⟩
        rw [units_entry]
        exact r
      · intro G1 H1 Q e1 r
        refine ⟨_, rfl, _, _, rfl, rfl, _, rfl, ?_⟩
        rw [dt]
        exact iteT ⟨_, rfl, _, rfl, G1, _, rfl, e1.sub, r⟩
      · exact fun G1 H1 Q e1 r => ⟨_, rfl, _, rfl, G1, l, zs, e, rfl, e1.sub, SqL.of (e1.same _ _ (hs _ _ hl)), Pd.mono (fun _ _ z => z.mono e1.g) pz, by omega, r⟩
      · rw [rec_spec (by kernel_rfl)]
        exact q
    | home y =>
      have dt : decide ((wTx (.home y) : Int) > 0) = false := decide_eq_false (by show ¬ ((0 : Nat) : Int) > 0; omega)
      have eq : opPlain o = R7237f.Spec.record [("write", nat o.id), ("node", nat o.node), ("kind", R7237f.Spec.text "block"), ("transaction", .null), ("changes", .arr [itemPlain y])] := by
        unfold opPlain
        simp only [ew]
      rw [eq] at q
      rw [ew] at pz few
      have pz : Paired (ItemAt G) [y] zs := pz
      refine ev_record (G := G) (ps := recS [("write", nat o.id), ("node", nat o.node), ("kind", R7237f.Spec.text "block"), ("transaction", .null), ("changes", .arr [itemPlain y])]) (.cons ?_ (by kernel_rfl) (.cons ?_ (by kernel_rfl) (.cons ?_ (by kernel_rfl) (.cons ?_ (by kernel_rfl) (.cons ?_ (by kernel_rfl) .nil))))) hs (Nat.le_of_ble_eq_true rfl) ?_
      · exact fun G1 H1 Q e r => ⟨_, rfl, _, rfl, G1, _, rfl, e.sub, r⟩
      · exact fun G1 H1 Q e r => ⟨_, rfl, _, rfl, G1, _, rfl, e.sub, r⟩
      · intro G1 H1 Q e1 r
        refine ⟨_, rfl, _, _, rfl, rfl, _, rfl, ?_⟩
        rw [dt]
        refine iteF ⟨_, rfl, G1, Str.ofString "block", rfl, Nat.le_of_ble_eq_true (by kernel_rfl), by kernel_rfl, e1.sub, ?_⟩
        rw [units_block]
        exact r
      · intro G1 H1 Q e1 r
        refine ⟨_, rfl, _, _, rfl, rfl, _, rfl, ?_⟩
        rw [dt]
        exact iteF ⟨rfl, G1, e1.sub, r⟩
      · exact fun G1 H1 Q e1 r => ⟨_, rfl, _, rfl, G1, l, zs, [y], rfl, e1.sub, SqL.of (e1.same _ _ (hs _ _ hl)), Pd.mono (fun _ _ z => z.mono e1.g) pz, Nat.le_of_ble_eq_true rfl, r⟩
      · rw [rec_spec (by kernel_rfl)]
        exact q
/-- one list of records in the state's record -/
theorem ev_list {α : Type} {J : It} {xs : List V} {G H : Hp} {ms : List α} {S : α → V → Prop} {f : α → Plain} {g : TG} {te : TE} {vs : List Nat} {σ : St} {Q : VK} {D : Addr}
    (wk : Src J xs H) (hs : Same G H) (hD : H D = none) (src : Paired S ms xs) (hz : ms.length ≤ 1000000)
    (elt : ∀ m x G1 H1 (Y : VK) (N : Hp → Prop), S m x → m ∈ ms → Ext G H G1 H1 → (∀ G2 H2 v, Ext G1 H1 G2 H2 → AtV G2 (f m) v → Y v H2) → Turn g tYes te vs σ x H1 Y N) (q : Ret G H (.arr (ms.map f)) Q) : LcW J g tYes te vs σ H D (fun H2 => Sp1 fListing [V.ref D] H2 Q E0) := by
  refine lc_map (S := S) (R := fun G m v => AtV G (f m) v) wk hs hD src (by omega) (fun _ _ _ _ s h => h.mono s) elt fun G1 H1 ys e g1 h1 pd => ?_
  exact ⟨_, rfl, G1, D, ys, _, rfl, h1, e.sub, AtL.of (Pd.map_left pd), fun G2 H2 v e2 hv => q _ _ _ (e.trans e2) hv⟩
def fStateOf (K : PySem.W.Frag) : V → Hp → VK → XK → Prop := fun a H Q _ => ∃ G L v, a = .ref L.self ∧ VGood v ∧ VolAt K G H L v ∧ Ret G H (stateFn v) Q
theorem d_state_of (T : TxtX K mg) (D_state_record : DefOk P w K mg base CX0 3 "state_record" ["state"] (Sp1 (fStateRecord K))) (D_lock_record : DefOk P w K mg base CX0 3 "lock_record" ["lock"] (Sp1 (fLockRecord K))) (D_node_record : DefOk P w K mg base CX0 5 "node_record" ["node"] (Sp1 (fNodeRecord K)))
    (D_write_record : DefOk P w K mg base CX0 5 "write_record" ["write"] (Sp1 (fWriteRecord K))) (D_listing : DefOk P w K mg base CX0 1 "listing" ["values"] (Sp1 fListing)) (D_integers : DefOk P w K mg base CX0 2 "integers" ["numbers"] (Sp1 fIntegers)) (D_record : DefOk P w K mg base CX0 2 "record" ["members"] (Sp1 fRecord))
    (F : Fs K mg "state_of" s_state_of) : DefOk P w K mg base CX0 6 "state_of" ["volume"] (Sp1 (fStateOf K)) :=
  def_C F sc_state_of bd_state_of fun f cdv A outer s H vs Q E hr h => by
    obtain ⟨_, rfl, G, L, v, rfl, hg, h, q⟩ := h
    obtain ⟨c, hc, z⟩ := id hg
    refine ⟨_, (pss_one (ps_ret (pe_d D_record (hr.mono (by decide)) pass0 (pa_cons (pe_lst (pa_cons (pe_tup (pa_cons pe_str (pa_cons (pe_d D_listing (hr.mono (by decide)) pass0 (pa_cons (pe_lc (own := [("state", 1)]) (g := (gName 1)) (tt := tYes) rfl sc_state_of.nd (pi_list (pe_fld (pv 0) rfl)) (blkOk_by (N := ["volume", "state", "lock", "node", "write"]) (sc := defScope s_state_of) (by decide +kernel)) (fun _ _ _ _ _ => (pg_name (i := 1) sc_state_of.nd rfl (Or.inl rfl))) (fun _ _ _ _ _ => pts_nil) (fun _ _ _ _ _ => (pe_d D_state_record (hr.mono (by decide)) pass0 (pa_cons (pv 1) pa_nil)))) pa_nil)) pa_nil))) (pa_cons (pe_tup (pa_cons pe_str (pa_cons (pe_d D_listing (hr.mono (by decide)) pass0 (pa_cons (pe_lc (own := [("lock", 2)]) (g := (gName 2)) (tt := tYes) rfl sc_state_of.nd (pi_list (pe_fld (pv 0) rfl)) (blkOk_by (N := ["volume", "state", "lock", "node", "write"]) (sc := defScope s_state_of) (by decide +kernel)) (fun _ _ _ _ _ => (pg_name (i := 2) sc_state_of.nd rfl (Or.inl rfl))) (fun _ _ _ _ _ => pts_nil) (fun _ _ _ _ _ => (pe_d D_lock_record (hr.mono (by decide)) pass0 (pa_cons (pv 2) pa_nil)))) pa_nil)) pa_nil))) (pa_cons (pe_tup (pa_cons pe_str (pa_cons (pe_d D_listing (hr.mono (by decide)) pass0 (pa_cons (pe_lc (own := [("node", 3)]) (g := (gName 3)) (tt := tYes) rfl sc_state_of.nd (pi_list (pe_fld (pv 0) rfl)) (blkOk_by (N := ["volume", "state", "lock", "node", "write"]) (sc := defScope s_state_of) (by decide +kernel)) (fun _ _ _ _ _ => (pg_name (i := 3) sc_state_of.nd rfl (Or.inl rfl))) (fun _ _ _ _ _ => pts_nil) (fun _ _ _ _ _ => (pe_d D_node_record (hr.mono (by decide)) pass0 (pa_cons (pv 3) pa_nil)))) pa_nil)) pa_nil))) (pa_cons (pe_tup (pa_cons pe_str (pa_cons (pe_d D_listing (hr.mono (by decide)) pass0 (pa_cons (pe_lc (own := [("write", 4)]) (g := (gName 4)) (tt := tYes) rfl sc_state_of.nd (pi_list (pe_fld (pv 0) rfl)) (blkOk_by (N := ["volume", "state", "lock", "node", "write"]) (sc := defScope s_state_of) (by decide +kernel)) (fun _ _ _ _ _ => (pg_name (i := 4) sc_state_of.nd rfl (Or.inl rfl))) (fun _ _ _ _ _ => pts_nil) (fun _ _ _ _ _ => (pe_d D_write_record (hr.mono (by decide)) pass0 (pa_cons (pv 4) pa_nil)))) pa_nil)) pa_nil))) (pa_cons (pe_tup (pa_cons pe_str (pa_cons (pe_d D_integers (hr.mono (by decide)) pass0 (pa_cons (pe_fld (pv 0) rfl) pa_nil)) pa_nil))) pa_nil)))))) pa_nil)))), ?_⟩
    refine ev_record (G := G) (ps := recS [("disk", .arr (v.disk.map cellPlain)), ("locks", .arr (v.locks.map lockPlain)), ("nodes", .arr (v.nodes.map nodePlain)), ("underWay", .arr (v.ops.map opPlain)), ("committed", nats (v.committed.map (·.1)))])
      (.cons ?_ (by kernel_rfl) (.cons ?_ (by kernel_rfl) (.cons ?_ (by kernel_rfl) (.cons ?_ (by kernel_rfl) (.cons ?_ (by kernel_rfl) .nil))))) h.sub (Nat.le_of_ble_eq_true rfl) ?_
    · intro G1 H1 Q e r
      have k := h.ext e
      obtain ⟨ds, hd, pd⟩ := k.disk
      refine ⟨_, rfl, _, _, _, _, _, rfl, k.obj, T.c_Volume, T.n_Volume _ mm2, rfl, _, rfl, ⟨_, SqL.of hd⟩, fun D hD => ev_list (.lst (SqL.of hd)) e.sub hD pd (Nat.le_trans hg.bl (by decide)) (fun m x G2 H2 Y N hx _ e2 y => ?_) r⟩
      exact ⟨rfl, _, rfl, _, rfl, G2, m, e2.sub, hx.mono e2.g, y⟩
    · intro G1 H1 Q e r
      have k := h.ext e
      obtain ⟨ds, hd, pd⟩ := k.locks
      refine ⟨_, rfl, _, _, _, _, _, rfl, k.obj, T.c_Volume, T.n_Volume _ mm5, rfl, _, rfl, ⟨_, SqL.of hd⟩, fun D hD => ev_list (.lst (SqL.of hd)) e.sub hD pd hg.zl (fun m x G2 H2 Y N hx _ e2 y => ?_) r⟩
      exact ⟨rfl, _, rfl, _, rfl, G2, m, e2.sub, hx.mono e2.g, y⟩
    · intro G1 H1 Q e r
      have k := h.ext e
      have pn : Paired (fun (x : R7237f.Spec.Node) (u : V) => ∃ i, u = .ref (L.ns i).self ∧ v.nodes[i]? = some x) v.nodes ((List.range v.nodes.length).map fun i => V.ref (L.ns i).self) := by
        have q := pd_from (f := fun i => V.ref (L.ns i).self) v.nodes v.nodes 0 fun i => by rw [Nat.zero_add]
        rw [← List.range_eq_range'] at q
        exact q
      refine ⟨_, rfl, _, _, _, _, _, rfl, k.obj, T.c_Volume, T.n_Volume _ mm4, rfl, _, rfl, ⟨_, SqL.of (k.sub _ _ k.nodes)⟩, fun D hD => ev_list (.lst (SqL.of (k.sub _ _ k.nodes))) e.sub hD pn (Nat.le_trans hg.nn (by decide)) (fun m x G2 H2 Y N hx hm e2 y => ?_) r⟩
      obtain ⟨i, rfl, hi⟩ := hx
      exact ⟨rfl, _, rfl, _, rfl, G2, L.ns i, m, rfl, e2.sub, (k.ext e2).node i m hi, Nat.le_trans (hg.zn hm).1 (by decide), y⟩
    · intro G1 H1 Q e r
      have k := h.ext e
      obtain ⟨ds, hd, pd⟩ := k.writes
      refine ⟨_, rfl, _, _, _, _, _, rfl, k.obj, T.c_Volume, T.n_Volume _ mm6, rfl, _, rfl, ⟨_, SqL.of hd⟩, fun D hD => ev_list (.lst (SqL.of hd)) e.sub hD pd hg.zo (fun m x G2 H2 Y N hx hm e2 y => ?_) r⟩
      exact ⟨rfl, _, rfl, _, rfl, G2, m, e2.sub, hx.mono e2.g, z.tx m hm, hg.few m hm, y⟩
    · intro G1 H1 Q e r
      have k := h.ext e
      exact ⟨_, rfl, _, _, _, _, _, rfl, k.obj, T.c_Volume, T.n_Volume _ mm7, rfl, _, rfl, G1, _, _, rfl, k.comm, by rw [List.length_map]; exact hg.zc, e.sub, r⟩
    · rw [rec_spec (by kernel_rfl)]
      exact q
end
end Ov
set_option maxHeartbeats 2000000
/-! H1: walks, targets and comprehensions where an exception is handled. -/
namespace Ov
open PySem PySem.Spec PyProof.Rows L2 HotX L2H
abbrev HeldAt := @HotX.HotAt
section
variable {prog : Program} {w : World} {A : Around} {E : Value → Shared → Prop} {s : Shared}
/-- the handled exception is no iterator -/
theorem hot_ne {h : Heap} {x1 it : Addr} {o : Obj} {a b : Value} (hot : HotAt A x1 h) (ho : h.get? it = some o) (hd : o.data = .fields #[a, b]) : x1 ≠ it := fun e => by
  obtain ⟨_, o1, vs1, h1, d1, c1⟩ := hot
  rw [e, ho] at h1
  cases h1
  rw [hd] at d1
  cases d1
  cases c1
theorem hot_upd {h : Heap} {x1 it : Addr} {f : Obj → Obj} (hot : HotAt A x1 h) (ne : x1 ≠ it) : HotAt A x1 (h.update it f) := by
  obtain ⟨hh, o1, vs1, h1, d1, c1⟩ := hot
  exact ⟨hh, o1, vs1, (Heap.get?_update_other _ _ (Ne.symm ne)).trans h1, d1, c1⟩
theorem next_list_end_hot {it l x1 : Addr} {i : Nat} {items} {Q : Option Value → Shared → Prop} (hot : HotAt A x1 s.heap)
    (hit : s.heap.IsListIter it l i) (hl : s.heap.IsList l items) (hx : items[i]? = none)
    (hQ : ∀ h', Heap.ExtBut it s.heap h' → Q none { s with heap := h' }) : wpAny (model prog w) A (pyNext (.ref it)) Q E s := by
  obtain ⟨o, ho, hc, hd⟩ := id hit
  obtain ⟨ol, hol, _, nl, hdl⟩ := hl
  have ne := hot_ne hot ho hd
  unfold pyNext
  refine wpAny_bind (wpAny_attempt (wpAny_callSpecial?_slot (name := Str.ofString "__next__") hit.typeIs slot_listiter_next
    (wpAny_call_entry slot_listiter_next hit.typeIs entry_listiter_next ?_ (args_listiter_next _))))
  show wpAny _ _ (field (.ref it) 0 >>= _) _ _ s
  refine wpAny_bind (wpAny_field ho hd (x := .ref l) rfl ?_)
  show wpAny _ _ (if (Value.ref l == Value.none) = true then _ else _) _ _ s
  rw [if_neg (show ¬ ((Value.ref l == Value.none) = true) from Bool.false_ne_true)]
  show wpAny _ _ (field (.ref it) 1 >>= _) _ _ s
  refine wpAny_bind (wpAny_field ho hd (x := .int i 0) rfl ?_)
  show wpAny _ _ (seqItems? (.ref l) >>= _) _ _ s
  refine wpAny_bind (wpAny_seqItems hol hdl ?_)
  simp only [Int.toNat_natCast, hx]
  refine wpAny_bind (wpAny_rule (wpAny_bind (wpAny_setField ho hd (by simp) ?_)))
  show wpAny _ _ (newExc (.type "StopIteration") [] >>= _) _ _ _
  refine wpAny_bind ?_
  simp only [newExc, newTuple]
  refine wpAny_bind (wpAny_newObj_type ?_ (by size_fits))
  refine wpAny_bind (m := firstArgMember _ _) (wpAny_of_eq (a := Value.none) (by first | rfl | (simp only [firstArgMember]; rfl)) ?_)
  refine wpAny_newObj_type ?_ (by size_fits)
  obtain ⟨hh, o1, vs1, h1, d1, c1⟩ := hot_upd (f := Obj.mapFields (·.setIfInBounds 0 Value.none)) hot ne
  refine raiseNew_hot ⟨hh, o1, vs1, Heap.get?_push_of_some _ (Heap.get?_push_of_some _ h1), d1, c1⟩ (Nat.ne_of_lt (Heap.lt_size (Heap.get?_push_of_some _ h1))) (Heap.get?_push_size _ rfl) rfl (by first | (simp; done) | (simp; omega) | (simp only [Array.size_append]; simp; omega)) ?_
  refine wpAny_bind (wpAny_isInstance (T := "StopIteration") (b := true) ⟨_, Heap.get?_update_self _ (Heap.get?_push_size _ rfl) rfl, rfl⟩ isSubtype_stop ?_)
  refine wpAny_pure (hQ _ fun b u hb e => ?_)
  have e1 := (Heap.get?_update_other s.heap (Obj.mapFields (·.setIfInBounds 0 Value.none)) (Ne.symm hb)).trans e
  rw [Heap.get?_update_other _ _ (Nat.ne_of_gt (Heap.lt_size (Heap.get?_push_of_some _ e1)))]
  exact Heap.get?_push_of_some _ (Heap.get?_push_of_some _ e1)
theorem next_tuple_end_hot {it t x1 : Addr} {i : Nat} {items} {Q : Option Value → Shared → Prop} (hot : HotAt A x1 s.heap)
    (hit : IsTupIter s.heap it t i) (ht : IsTup s.heap t items) (hx : items[i]? = none)
    (hQ : ∀ h', Heap.ExtBut it s.heap h' → Q none { s with heap := h' }) : wpAny (model prog w) A (pyNext (.ref it)) Q E s := by
  obtain ⟨o, ho, hc, hd⟩ := id hit
  obtain ⟨ol, hol, _, nl, hdl⟩ := ht
  have ne := hot_ne hot ho hd
  unfold pyNext
  refine wpAny_bind (wpAny_attempt (wpAny_callSpecial?_slot (name := Str.ofString "__next__") hit.typeIs slot_tupleiter_next
    (wpAny_call_entry slot_tupleiter_next hit.typeIs entry_tupleiter_next ?_ (args_tupleiter_next _))))
  show wpAny _ _ (field (.ref it) 0 >>= _) _ _ s
  refine wpAny_bind (wpAny_field ho hd (x := .ref t) rfl ?_)
  show wpAny _ _ (if (Value.ref t == Value.none) = true then _ else _) _ _ s
  rw [if_neg (show ¬ ((Value.ref t == Value.none) = true) from Bool.false_ne_true)]
  show wpAny _ _ (field (.ref it) 1 >>= _) _ _ s
  refine wpAny_bind (wpAny_field ho hd (x := .int i 0) rfl ?_)
  show wpAny _ _ (seqItems? (.ref t) >>= _) _ _ s
  refine wpAny_bind (wpAny_seqItems hol hdl ?_)
  simp only [Int.toNat_natCast, hx]
  refine wpAny_bind (wpAny_rule (wpAny_bind (wpAny_setField ho hd (by simp) ?_)))
  show wpAny _ _ (newExc (.type "StopIteration") [] >>= _) _ _ _
  refine wpAny_bind ?_
  simp only [newExc, newTuple]
  refine wpAny_bind (wpAny_newObj_type ?_ (by size_fits))
  refine wpAny_bind (m := firstArgMember _ _) (wpAny_of_eq (a := Value.none) (by first | rfl | (simp only [firstArgMember]; rfl)) ?_)
  refine wpAny_newObj_type ?_ (by size_fits)
  obtain ⟨hh, o1, vs1, h1, d1, c1⟩ := hot_upd (f := Obj.mapFields (·.setIfInBounds 0 Value.none)) hot ne
  refine raiseNew_hot ⟨hh, o1, vs1, Heap.get?_push_of_some _ (Heap.get?_push_of_some _ h1), d1, c1⟩ (Nat.ne_of_lt (Heap.lt_size (Heap.get?_push_of_some _ h1))) (Heap.get?_push_size _ rfl) rfl (by first | (simp; done) | (simp; omega) | (simp only [Array.size_append]; simp; omega)) ?_
  refine wpAny_bind (wpAny_isInstance (T := "StopIteration") (b := true) ⟨_, Heap.get?_update_self _ (Heap.get?_push_size _ rfl) rfl, rfl⟩ isSubtype_stop ?_)
  refine wpAny_pure (hQ _ fun b u hb e => ?_)
  have e1 := (Heap.get?_update_other s.heap (Obj.mapFields (·.setIfInBounds 0 Value.none)) (Ne.symm hb)).trans e
  rw [Heap.get?_update_other _ _ (Nat.ne_of_gt (Heap.lt_size (Heap.get?_push_of_some _ e1)))]
  exact Heap.get?_push_of_some _ (Heap.get?_push_of_some _ e1)
theorem next_ascii_end_hot {it x1 : Addr} {x : Str} {t : Tok} {i : Nat} {Q : Option Value → Shared → Prop} (hot : HotAt A x1 s.heap)
    (hit : s.heap.IsStrIter it "str_ascii_iterator" x t i) (hx : x.cps[i]? = none)
    (hQ : ∀ h', Heap.ExtBut it s.heap h' → Q none { s with heap := h' }) : wpAny (model prog w) A (pyNext (.ref it)) Q E s := by
  obtain ⟨o, ho, hc, hd⟩ := id hit
  have ne := hot_ne hot ho hd
  unfold pyNext
  refine wpAny_bind (wpAny_attempt (wpAny_callSpecial?_slot (name := Str.ofString "__next__") hit.typeIs F.slot_str_ascii_iterator_next
    (wpAny_call_entry F.slot_str_ascii_iterator_next hit.typeIs F.entry_str_ascii_iterator_next ?_ (F.args_str_ascii_iterator_next_1 _))))
  show wpAny _ _ (field (.ref it) 0 >>= _) _ _ s
  refine wpAny_bind (wpAny_field ho hd (x := .str x t) rfl ?_)
  show wpAny _ _ (field (.ref it) 1 >>= _) _ _ s
  refine wpAny_bind (wpAny_field ho hd (x := .int i 0) rfl ?_)
  simp only [Int.toNat_natCast, hx]
  refine wpAny_bind (wpAny_rule (wpAny_bind (wpAny_setField ho hd (by simp) (wpAny_bind (wpAny_letGo ?_)))))
  show wpAny _ _ (newExc (.type "StopIteration") [] >>= _) _ _ _
  refine wpAny_bind ?_
  simp only [newExc, newTuple]
  refine wpAny_bind (wpAny_newObj_type ?_ (by size_fits))
  refine wpAny_bind (m := firstArgMember _ _) (wpAny_of_eq (a := Value.none) (by first | rfl | (simp only [firstArgMember]; rfl)) ?_)
  refine wpAny_newObj_type ?_ (by size_fits)
  obtain ⟨hh, o1, vs1, h1, d1, c1⟩ := hot_upd (f := Obj.mapFields (·.setIfInBounds 0 Value.none)) hot ne
  refine raiseNew_hot ⟨hh, o1, vs1, Heap.get?_push_of_some _ (Heap.get?_push_of_some _ h1), d1, c1⟩ (Nat.ne_of_lt (Heap.lt_size (Heap.get?_push_of_some _ h1))) (Heap.get?_push_size _ rfl) rfl (by first | (simp; done) | (simp; omega) | (simp only [Array.size_append]; simp; omega)) ?_
  refine wpAny_bind (wpAny_isInstance (T := "StopIteration") (b := true) ⟨_, Heap.get?_update_self _ (Heap.get?_push_size _ rfl) rfl, rfl⟩ isSubtype_stop ?_)
  refine wpAny_pure (hQ _ fun b u hb e => ?_)
  have e1 := (Heap.get?_update_other s.heap (Obj.mapFields (·.setIfInBounds 0 Value.none)) (Ne.symm hb)).trans e
  rw [Heap.get?_update_other _ _ (Nat.ne_of_gt (Heap.lt_size (Heap.get?_push_of_some _ e1)))]
  exact Heap.get?_push_of_some _ (Heap.get?_push_of_some _ e1)
theorem hot_keep {h h' : Heap} {x1 : Addr} (hot : HotAt A x1 h) (k : ∀ o, h.get? x1 = some o → h'.get? x1 = some o) : HotAt A x1 h' := by
  obtain ⟨hh, o1, vs1, h1, d1, c1⟩ := hot
  exact ⟨hh, o1, vs1, k _ h1, d1, c1⟩
theorem hot_lt {h : Heap} {x1 : Addr} (hot : HotAt A x1 h) : x1 < h.objs.size := by
  obtain ⟨_, o1, vs1, h1, _⟩ := hot
  exact Heap.lt_size h1
theorem items_hot {t x1 : Addr} {items : Array Value} {Q : List Value → Shared → Prop} (hot : HotAt A x1 s.heap) (ht : IsTup s.heap t items)
    (hQ : ∀ h', Heap.ExtBut s.heap.objs.size s.heap h' → Q items.toList { s with heap := h' }) : wpAny (model prog w) A (unpackItems (.ref t) items.size none) Q E s := by
  have hlt : t ≠ s.heap.objs.size := by obtain ⟨o, ho, _⟩ := ht; exact Nat.ne_of_lt (Heap.lt_size ho)
  have nx : x1 ≠ s.heap.objs.size := Nat.ne_of_lt (hot_lt hot)
  unfold unpackItems
  refine wpAny_bind ?_
  unfold notIterableAtAll
  refine wpAny_bind (wpAny_specialOf ht.typeIs slot_tuple_iter.lookup ?_)
  refine wpAny_pure ?_
  simp only [Bool.false_eq_true, if_false]
  refine wpAny_bind (wpAny_holding (iter_tuple ht ?_))
  refine wpAny_bind (wpAny_holding (draw_tuple hlt items.size 0 _ _ ⟨_, Heap.get?_push_size _ rfl, rfl, rfl⟩ (ht.push _) (by omega) fun h1 hit1 hs1 => ?_))
  have all : List.take items.size (List.drop 0 items.toList) = items.toList := by
    rw [List.drop_zero]
    exact List.take_of_length_le (by simp)
  rw [all, if_neg (by simp)]
  have ht1 : IsTup h1 t items := (ht.push _).extBut hs1.extBut hlt
  have hot1 : HotAt A x1 h1 := hot_keep hot fun o e => hs1.extBut _ _ nx (Heap.get?_push_of_some _ e)
  refine wpAny_bind (wpAny_holding (next_tuple_end_hot (s := { s with heap := h1 }) hot1 hit1 ht1 (by simp) fun h2 he2 => ?_))
  simp only [Option.isSome_none, Bool.false_eq_true, if_false]
  exact wpAny_pure (hQ h2 fun b o hb e => he2 b o hb (hs1.extBut b o hb (Heap.get?_push_of_some _ e)))
theorem assign_hot {env : Env} {elts : List Expr} {k1} {pos : Pos} {t x1 : Addr} {items : Array Value} {Q : Unit → Shared → Prop} (hot : HotAt A x1 s.heap) (ht : IsTup s.heap t items)
    (hn : (assignEach elts env).length = items.size) (hstar : (assignEach elts env).findIdx? (·.1) = none)
    (h : ∀ h', Heap.ExtBut s.heap.objs.size s.heap h' → wpAny (model prog w) A (assignInOrder ((assignEach elts env).map (·.2)) items.toList) Q E { s with heap := h' }) :
    wpAny (model prog w) A (assign (.Tuple elts k1 pos) env (.ref t)) Q E s := by
  rw [assign_Tuple]
  refine wpAny_bind (wpAny_standAt ?_)
  unfold unpack
  rw [hn, hstar]
  exact wpAny_bind (wpAny_holding (items_hot hot ht h))
end
section
variable {X : Cx} {pos : Pos}
/-- (a, b, ..) = a tuple, where an exception is handled -/
theorem pg_tupH {es : List Expr} {k : Nat} {t : TGs} {n : Nat} {K : PySem.W.Frag} (hc : HotC X) (h : PGs X es t) (hK : X.K = K := by rfl)
    (hn : (assignEach es X.env).length = n := by rfl) (hst : (assignEach es X.env).findIdx? (·.1) = none := by rfl) : PG X (.Tuple es k pos) (gTup K n t) := by
  subst hK
  refine ⟨fun pins s σ H v u Q I r hw => ?_⟩
  obtain ⟨a, xs, e1, hq, hl, hw⟩ := hw
  subst e1
  cases r
  obtain ⟨its, rv, ht, hz⟩ := I.tuple hq
  obtain ⟨x1, hot⟩ := hc.at I
  refine assign_hot hot ht (by simp [hn, ← hl, rv.length]) hst fun h' hx => ?_
  have I1 : Inv X pins σ H { s with heap := h' } := I.kept (t' := s.toks) fun b o e => hx b o (Nat.ne_of_lt (Heap.lt_size e)) e
  exact h.run pins _ σ H xs _ Q I1 (by simpa using rv) hw
end
theorem turn_listH {P : Program} {w : World} {K : PySem.W.Frag} {tg : Expr} (a it : Addr) : TurnH P w K tg (Itl K a) [it] it (fun i h => h.IsListIter it a i) where
  mem := by simp
  obj := fun i h st b hb => by
    have e : b = it := by simpa using hb
    subst e
    obtain ⟨o, e, c, d⟩ := st
    exact ⟨o, e, fun v z => by rw [d] at z; cases z⟩
  keep := fun i h h' st k => st.at fun o e => k it (by simp) o e
  item := by
    intro X hP hw hK hc i pins s σ H E I hf st hg
    subst hP hw hK
    obtain ⟨xs, x, hq, hx⟩ := hg
    obtain ⟨its, rv, p, hz⟩ := I.list hq
    obtain ⟨u, hu, ru⟩ := rv.get hx
    obtain ⟨f0, f1, f2, f3, f4, f5⟩ := hf it (by simp)
    refine wpAny_pyNext_list_item st p.isList (x := u) (by simpa using hu) fun h' st' sb => ?_
    have I1 : Inv X pins σ H { s with heap := h' } := I.turned (t' := s.toks) (fun b o hb e => (sb.2 b hb).trans e) f0 f1 f3 f4 f5
    obtain ⟨o, e, c, d⟩ := id st'
    exact ⟨u, rfl, go_of (s := { s with heap := h' }) e c d (by decide) ⟨x, H, I1, ru, ⟨rfl, fun ys hy => by rw [I.list_inj hy hq]; exact hx⟩, st', fun b hb => (hf b hb).1⟩⟩
  done := by
    intro X hP hw hK hc i pins s σ H E I hf st hg
    subst hP hw hK
    obtain ⟨xs, hq, hx⟩ := hg
    obtain ⟨its, rv, p, hz⟩ := I.list hq
    obtain ⟨f0, f1, f2, f3, f4, f5⟩ := hf it (by simp)
    have hl := rv.length
    obtain ⟨x1, hot⟩ := hc.at I
    exact next_list_end_hot hot st p.isList (by simp; omega) fun h' eb => ⟨rfl, I.turned (t' := s.toks) (fun b o hb e => eb b o hb e) f0 f1 f3 f4 f5⟩
  self := fun _ _ _ _ _ st h => wpAny_pyIter_listiter st h
theorem turn_strH {P : Program} {w : World} {K : PySem.W.Frag} {tg : Expr} (it : Addr) (x : Str) (t : Tok) : TurnH P w K tg (Its x) [it] it (fun i h => h.IsStrIter it "str_ascii_iterator" x t i) where
  mem := by simp
  obj := fun i h st b hb => by
    have e : b = it := by simpa using hb
    subst e
    obtain ⟨o, e, c, d⟩ := st
    exact ⟨o, e, fun v z => by rw [d] at z; cases z⟩
  keep := fun i h h' st k => let ⟨o, ho, r⟩ := st; ⟨o, k it (by simp) o ho, r⟩
  item := by
    intro X hP hw hK hc i pins s σ H E I hf st hg
    subst hP hw hK
    obtain ⟨f0, f1, f2, f3, f4, f5⟩ := hf it (by simp)
    have hx : x.cps[i]? = some x.cps[i] := Array.getElem?_eq_getElem hg
    refine wpAny_pyNext_ascii_item st hx fun h' st' sb => ?_
    have I1 : Inv X pins σ H { s with heap := h', toks := s.toks + 1 } := I.turned (fun b o hb e => (sb.2 b hb).trans e) f0 f1 f3 f4 f5
    obtain ⟨oi, e, cc, dd⟩ := id st'
    exact ⟨_, rfl, go_of (s := { s with heap := h', toks := s.toks + 1 }) e cc dd (by decide) ⟨.str ⟨#[x.cps[i]]⟩, H, I1, ⟨s.toks, rfl⟩, ⟨rfl, _, hx, rfl⟩, st', fun b hb => (hf b hb).1⟩⟩
  done := by
    intro X hP hw hK hc i pins s σ H E I hf st hg
    subst hP hw hK
    obtain ⟨f0, f1, f2, f3, f4, f5⟩ := hf it (by simp)
    have hx : x.cps[i]? = none := Array.getElem?_eq_none hg
    obtain ⟨x1, hot⟩ := hc.at I
    exact next_ascii_end_hot hot st hx fun h' eb => ⟨rfl, I.turned (t' := s.toks) (fun b o hb e => eb b o hb e) f0 f1 f3 f4 f5⟩
  self := fun A i s Q E st h => wpAny_pyIter_striter_ascii st h
section
variable {X : Cx} {tg : Expr}
theorem pi_listH {l : Expr} {tl : TE} (hl : PE X l tl) : PIH X tg l (iList X.K tl) := by
  refine ⟨fun pins s σ H R I h => ?_⟩
  refine thn (hl.run pins s σ H _ I h) fun v s1 ⟨x, H1, I1, r1, q1⟩ => ?_
  obtain ⟨a, e, ⟨xs, hq⟩, q⟩ := q1
  subst e
  cases r1
  obtain ⟨its, rv, p, hz⟩ := I1.list hq
  refine wpAny_pyIter_list p.isList ?_
  refine ⟨s1.heap.objs.size, [s1.heap.objs.size], _, _, H1, rfl, I1.kept (t' := s1.toks) fun b o e => Heap.get?_push_of_some _ e, turn_listH a _, ⟨_, Heap.get?_push_size _ rfl, rfl, rfl⟩, fun b hb => ?_, q⟩
  have e : b = s1.heap.objs.size := by simpa using hb
  subst e
  exact I1.fpOk (Nat.le_refl _) (I1.hok.fresh (Nat.le_refl _))
def iStrA (te : TE) : TI := fun σ H R => te σ H fun v H1 => ∃ x : Str, v = .str x ∧ x.cps.all (· < 128) = true ∧ R (Its x) H1
theorem pi_strH {e : Expr} {te : TE} (he : PE X e te) : PIH X tg e (iStrA te) := by
  refine ⟨fun pins s σ H R I h => ?_⟩
  refine thn (he.run pins s σ H _ I h) fun v s1 ⟨y, H1, I1, r1, x, ex, ha, q⟩ => ?_
  subst ex
  obtain ⟨t, rfl⟩ := r1
  refine wpAny_pyIter_ascii ha ?_
  refine ⟨s1.heap.objs.size, [s1.heap.objs.size], _, _, H1, rfl, I1.kept (t' := s1.toks) fun b o e => Heap.get?_push_of_some _ e, turn_strH _ x t, ⟨_, Heap.get?_push_size _ rfl, rfl, rfl⟩, fun b hb => ?_, q⟩
  have e : b = s1.heap.objs.size := by simpa using hb
  subst e
  exact I1.fpOk (Nat.le_refl _) (I1.hok.fresh (Nat.le_refl _))
end
/-! ### comprehensions -/
/-- the block of a comprehension, where an exception is handled -/
abbrev blkH (X : Cx) (s : Shared) (H : Hp) (scope : Scope) (cenv : Env) (fp : List Addr) : Cx := { X.blk s H scope cenv fp with pn := X.pn }
theorem ok_blkH {X : Cx} {s : Shared} {H : Hp} {scope : Scope} {cenv : Env} {fp : List Addr} (ok : (X.blk s H scope cenv fp).Ok) : (blkH X s H scope cenv fp).Ok :=
  ⟨ok.mod, ok.kind, ok.glob, ok.blt, ok.above, ok.inj, ok.has, ok.cab, ok.hd, ok.frames, ok.stk, ok.exf, ok.bs, ok.bsz, ok.noex, ok.exfs, ok.funs, ok.frf⟩
theorem inv_blkH {X : Cx} {s : Shared} {H : Hp} {scope : Scope} {cenv : Env} {fp : List Addr} {σ : St} {H' : Hp} {s' : Shared} (I : Inv (X.blk s H scope cenv fp) [] σ H' s')
    (k : ∀ p ∈ X.pn, s'.heap.get? p.1 = some p.2 ∧ H' p.1 = none ∧ p.1 ≠ cenv.locals ∧ p.1 ∉ frs X.stack ∧ ∀ v, p.2.data ≠ .cell v) : Inv (blkH X s H scope cenv fp) [] σ H' s' :=
  ⟨ok_blkH I.ok, I.os, I.bare, I.base, I.loc, I.cell, I.free, I.freeC, fun p hp => k p (by simpa using (show p ∈ X.pn ++ ([] : List (Addr × Obj)) from hp)), I.hok, I.len⟩
/-- [elt for target in iter], where an exception is handled -/
theorem pe_lcH {X : Cx} {elt tg iter : Expr} {ifs : List Expr} {scope : Scope} {own : List (Str × Nat)} {pos : Pos} {wi : TI} {g : TG} {tt : TT} {te : TE} (hc : HotC X) (hN : X.N.Nodup) (hi : PIH X tg iter wi) (ok : BlkOk X.N X.env.scope scope own)
    (hg : ∀ (s : Shared) (H : Hp) (C : Addr) (cl : List (Str × Addr)) (fp : List Addr), PG (blkH X s H scope (compEnvC scope cl C X.env) fp) tg g) (ht : ∀ (s : Shared) (H : Hp) (C : Addr) (cl : List (Str × Addr)) (fp : List Addr), PTs (blkH X s H scope (compEnvC scope cl C X.env) fp) ifs tt)
    (he : ∀ (s : Shared) (H : Hp) (C : Addr) (cl : List (Str × Addr)) (fp : List Addr), PE (blkH X s H scope (compEnvC scope cl C X.env) fp) elt te) (hs : ∀ x, foldedSetIterable iter X.env x = pure x := by intro _; rfl) :
    PE X (.ListComp elt [⟨tg, iter, ifs, 0⟩] scope pos) (tLc wi g tt te (own.map (·.2))) := by
  refine ⟨fun pins s σ H Q I h => ?_⟩
  rw [eval_ListComp]
  have hfree : ∀ y ∈ scope.names, y.2 = .free → ∃ c, X.env.cells.lookup y.1 = some c := fun y hy e => by
    rcases ok.free y hy e with k | k
    · exact I.ok.has _ (.inl k)
    · exact I.ok.has _ (.inr k)
  refine wpAny_comprehension_free rfl hs (closure_ok hfree) ok.kind (fun y hy e => by rw [ok.uniq y hy, e])
    (thn (hi.run pins s σ H _ I h) fun xv s1 hx => thn hx fun itv s2 h2 => ?_)
  obtain ⟨it, fp, tn, J, H2, e, I2, T, st2, f2, q⟩ := h2
  subst e
  refine wpAny_newObj_type (newEnv_comp ?_) (by show 0 ≤ sizeLine; decide)
  generalize hD : s2.heap.objs.size = D
  have hDn : H2 D = none := I2.hok.fresh (Nat.le_of_eq hD)
  obtain ⟨W, ⟨m0, w0⟩, turn⟩ := q D hDn
  generalize hs3 : ({ s2 with heap := s2.heap.push { cls := .type "list", data := .seq ([] : List Value).toArray } } : Shared) = s3
  have I3 : Inv X pins σ (upd H2 D (.lst [])) s3 := by
    rw [← hs3]
    refine I2.laid (t' := s2.toks) (fun b o e => Heap.get?_push_of_some _ e) (Nat.le_of_eq hD) ⟨Nat.zero_le _, [], 0, .nil, ?_⟩
    rw [← hD]
    exact Heap.get?_push_size _ rfl
  have h3 : s3.heap = s2.heap.push { cls := .type "list", data := .seq ([] : List Value).toArray } := by rw [← hs3]
  have sz : ∀ b ∈ fp, b < s2.heap.objs.size := fun b hb => by
    obtain ⟨o, e, _⟩ := T.obj _ _ st2 b hb
    exact Heap.lt_size e
  have f3 : ∀ b ∈ fp, FpOk X pins (upd H2 D (.lst [])) b ∧ b < s3.heap.objs.size := fun b hb => by
    have hlt := sz b hb
    refine ⟨⟨?_, (f2 b hb).2⟩, by rw [h3, Heap.size_push]; exact Nat.lt_succ_of_lt hlt⟩
    rw [upd_ne (by rw [← hD]; exact Nat.ne_of_lt hlt)]
    exact (f2 b hb).1
  have st3 : tn 0 s3.heap := T.keep _ _ _ st2 fun b _ o e => by rw [h3]; exact Heap.get?_push_of_some _ e
  have I4' := block_start I3 ok hN f3
  have kp : ∀ b o, s3.heap.get? b = some o → (pushCells (s3.heap.push { cls := .type "dict", data := .dict #[] }) scope.names).get? b = some o := fun b o e => pushCells_keeps _ _ _ _ (Heap.get?_push_of_some _ e)
  have pn3 : ∀ p ∈ X.pn, s3.heap.get? p.1 = some p.2 ∧ (upd H2 D (.lst [])) p.1 = none ∧ p.1 ≠ X.env.locals ∧ p.1 ∉ X.fs ∧ ∀ v, p.2.data ≠ .cell v := fun p hp => I3.pin p (List.mem_append_left _ hp)
  have nstk : ∀ p ∈ X.pn, p.1 ∉ frs X.stack := fun p hp hm => (List.mem_cons.mp (I3.stkSub p.1 hm)).elim (pn3 p hp).2.2.1 (pn3 p hp).2.2.2.1
  have I4 := inv_blkH I4' fun p hp => ⟨kp _ _ (pn3 p hp).1, (pn3 p hp).2.1, Nat.ne_of_lt (Heap.lt_size (pn3 p hp).1), nstk p hp, (pn3 p hp).2.2.2.2⟩
  have pg := hg s3 (upd H2 D (.lst [])) s3.heap.objs.size (cellsFrom (s3.heap.objs.size + 1) scope.names (cloFrom X.env.cells scope.names [])) fp
  have pt := ht s3 (upd H2 D (.lst [])) s3.heap.objs.size (cellsFrom (s3.heap.objs.size + 1) scope.names (cloFrom X.env.cells scope.names [])) fp
  have pe := he s3 (upd H2 D (.lst [])) s3.heap.objs.size (cellsFrom (s3.heap.objs.size + 1) scope.names (cloFrom X.env.cells scope.names [])) fp
  show codeAny _ _ (.compStart (.ListComp elt [⟨tg, iter, ifs, 0⟩] scope pos) 0 (.ref it) (.ref D) (compEnvC scope (cellsFrom (s3.heap.objs.size + 1) scope.names (cloFrom X.env.cells scope.names [])) s3.heap.objs.size X.env)) (compPost (model X.prog X.w) X.A X.xe none (EP X pins σ Q) (.ref D) s3.heap.objs.size) { s3 with heap := pushCells (s3.heap.push { cls := .type "dict", data := .dict #[] }) scope.names }
  have nfp : ∀ b ∈ fp, (upd H2 D (.lst [])) b = none := fun b hb => (f3 b hb).1.1
  generalize hce : compEnvC scope (cellsFrom (s3.heap.objs.size + 1) scope.names (cloFrom X.env.cells scope.names [])) s3.heap.objs.size X.env = ce at I4 pg pt pe ⊢
  have cL : ce.locals = s3.heap.objs.size := by subst hce; rfl
  generalize hH3 : upd H2 D (.lst []) = H3 at I3 I4 pg pt pe w0 nfp f3
  generalize hs4 : ({ s3 with heap := pushCells (s3.heap.push { cls := .type "dict", data := .dict #[] }) scope.names } : Shared) = s4 at I4 ⊢
  have st4 : tn 0 s4.heap := T.keep _ _ _ st3 fun b _ o e => by rw [← hs4]; exact kp _ _ e
  have hcB : HotC (blkH X s3 H3 scope ce fp) := hc
  have stat : ∀ {σ' : St} {H' : Hp} {s' : Shared}, Inv (blkH X s3 H3 scope ce fp) [] σ' H' s' → (∀ b ∈ fp, H' b = none) → ∀ b ∈ fp, FpOk (blkH X s3 H3 scope ce fp) [] H' b := fun {σ' H' s'} I' hn b hb =>
    ⟨hn b hb, (I'.ok.exf b hb).1, I'.ok.exfs b hb, .inl hb, fun x c e => (I'.ok.exf b hb).2 x c e, fun p hp => (f3 b hb).1.2.2.2.2.2 p (List.mem_append_left _ (by simpa using (show p ∈ X.pn ++ ([] : List (Addr × Obj)) from hp)))⟩
  have loop : codeAny (model X.prog X.w) X.A (.compLoop (.ListComp elt [⟨tg, iter, ifs, 0⟩] scope pos) 0 (.ref it) (.ref D) ce) (compPost (model X.prog X.w) X.A X.xe none (EP X pins σ Q) (.ref D) s3.heap.objs.size) s4 := by
    refine compLoop_any (fun n s' => ∃ i H', Inv (blkH X s3 H3 scope ce fp) [] (wipe σ (own.map (·.2))) H' s' ∧ tn i s'.heap ∧ (∀ b ∈ fp, H' b = none) ∧ W i n H') ?_ m0 ⟨0, H3, I4, st4, nfp, w0⟩
    rintro n s5 ⟨i, H5, I5, st5, n5, w5⟩
    rcases turn i n H5 w5 with ⟨stop, qq⟩ | ⟨go, Nx, hNx, step⟩
    · have td := T.done (blkH X s3 H3 scope ce fp) rfl rfl rfl hcB i [] s5 _ H5 (fun _ _ => False) I5 (stat I5 n5) st5 stop
      refine thnF td fun r s6 ⟨hr, I6⟩ => ?_
      subst hr
      have I7 : Inv X pins σ H5 s6 := I3.call' (ch := fp) I6.os I6.base I6.hok I6.bare fun b hb => ⟨(f3 b hb).1.2.2.2.1, (f3 b hb).1.2.1, (f3 b hb).1.2.2.2.2.1, (f3 b hb).1.2.2.2.2.2⟩
      have nC : H5 s3.heap.objs.size = none := by
        have z : H5 ce.locals = none := I6.free
        rw [cL] at z
        exact z
      obtain ⟨m, hn, _⟩ := I6.loc
      have hn : s6.heap.Ns ce.locals m := hn
      rw [cL] at hn
      have f := I3.fpOk (Nat.le_refl _) nC
      refine ⟨m, hn, fun h'' sb => ?_⟩
      obtain ⟨f0, f1, f2, f3', f4, f5⟩ := f
      exact ⟨.ref D, H5, I7.turned (t' := s6.toks) (fun b o hb e => (sb.2 b hb).trans e) f0 f1 f3' f4 f5, rfl, qq⟩
    · have ti := T.item (blkH X s3 H3 scope ce fp) rfl rfl rfl hcB i [] s5 _ H5 (fun _ _ => False) I5 (stat I5 n5) st5 go
      refine thnF ti fun r s6 ⟨u, hr, h6⟩ => ?_
      subst hr
      refine thnF h6 fun _ s7 ⟨x, H7, I7, r7, y7, st7, n7⟩ => ?_
      have I7' := I7.pinned (stat I7 n7) (T.obj _ _ st7)
      refine thnF (pg.run _ s7 _ H7 x u _ I7' r7 (step x H7 y7)) fun _ s8 ⟨σ8, H8, I8, hw8, q8⟩ => ?_
      refine thnF (pt.run _ s8 σ8 H8 _ I8 q8) fun b s9 ⟨H9, I9, q9⟩ => ?_
      have fin : ∀ {s' : Shared} {H' : Hp}, Inv (blkH X s3 H3 scope ce fp) ([] ++ pinsAt fp s7.heap) σ8 H' s' → Nx H' → ∃ m, m < n ∧ ∃ i H', Inv (blkH X s3 H3 scope ce fp) [] (wipe σ (own.map (·.2))) H' s' ∧ tn i s'.heap ∧ (∀ b ∈ fp, H' b = none) ∧ W i m H' := fun {s' H'} I' nx => by
        obtain ⟨m', hm, w'⟩ := hNx H' nx
        have pin' : ∀ b ∈ fp, ∀ o, s7.heap.get? b = some o → s'.heap.get? b = some o ∧ H' b = none := fun b hb o e =>
          let z := I'.pin (b, o) (List.mem_append_right _ (List.mem_append_right _ (mem_pinsAt hb e)))
          ⟨z.1, z.2.1⟩
        have hl : (wipe σ (own.map (·.2))).length = σ8.length := by rw [← hw8, wipe_length]
        refine ⟨m', hm, i + 1, H', (I'.unpinned (pins := [])).weak hl (fun j v e => ?_), T.keep _ _ _ st7 fun b hb o e => (pin' b hb o e).1, fun b hb => ?_, w'⟩
        · rw [← hw8] at e
          exact (wipe_some e).1
        · obtain ⟨o, e, _⟩ := T.obj _ _ st7 b hb
          exact (pin' b hb o e).2
      cases b with
      | false =>
        simp only [Bool.false_eq_true, if_false] at q9 ⊢
        exact fin I9 q9
      | true =>
        simp only [if_true] at q9 ⊢
        refine thnF (pe.run _ s9 σ8 H9 _ I9 q9) fun z s10 ⟨yv, H10, I10, r10, acc, hD10, hz10, nx⟩ => ?_
        exact app_ok (X := blkH X s3 H3 scope ce fp) I10 hD10 hz10 r10 fun s11 I11 => fin I11 nx
  exact codeAny_compStart_list loop (T.self X.A 0 _ _ _ st4 loop)
theorem hot_blk {X : Cx} {s : Shared} {H : Hp} {scope : Scope} {cenv : Env} {fp : List Addr} (hc : HotC X) : HotC (blkH X s H scope cenv fp) := hc
end Ov
set_option maxHeartbeats 2000000
/-! H2: defs called where an exception is handled. -/
namespace Ov
open PySem PySem.Spec PyProof.Rows L2 L2H
open R7237f.Spec (Plain Units)
section
variable (P : Program) (w : World) (K : PySem.W.Frag) (mg : Str → Option Value) (base : Heap)
def DefH (k : Nat) (x : Str) (ps : List Str) (sp : Sp) : Prop := ∃ f fd, FnH P w K mg base CX0 k f fd ps sp ∧ mg x = some (.ref f) ∧ PySem.W.keepIn K (.ref f) = true ∧ Binds K fd ps []
def MetH (k : Nat) (C : Addr) (m : Str) (ps : List Str) (sp : Sp) : Prop := ∃ f fd, FnH P w K mg base CX0 k f fd ps sp ∧ Meth K C m f ∧ Binds K fd ps []
def BodyH (k : Nat) (qual : Str) (st : Stmt) (N : List Str) (sp : Sp) : Prop :=
  ∀ (f : Addr) (cdv : Value) (A : Around) (outer : List Env) (s : Shared) (H : Hp) (vs : List V) (Q : VK) (E : XK) (p : Addr × Obj), HotC (cxH CX0 P w K mg base N qual (defScope st) f cdv A outer s H E p) → RoomH k (A.deeper (envOfC qual (defScope st) s.heap.objs.size f cdv)) → sp vs H Q E →
    ∃ t, PSs (cxH CX0 P w K mg base N qual (defScope st) f cdv A outer s H E p) (defBody st) t ∧ t { nx := fun _ H' => Q .non H', rt := Q } (start N vs) H
end
section
variable {P : Program} {w : World} {K : PySem.W.Frag} {mg : Str → Option Value} {base : Heap} {x m qual : Str} {C : Addr} {st : Stmt} {N ps : List Str} {k n : Nat} {sp : Sp}
theorem fn_H {f : Addr} {fd : FuncData} [a : Ar sp n] (F : FnP K x qual st f fd) (S : FnScope N ps (defScope st)) (hn : n = ps.length) (b : BodyH P w K mg base k qual st N sp) : FnH P w K mg base CX0 (k + 1) f fd ps sp := by
  obtain ⟨oc, od, dV, kV, doc, pm, an, cdv, ct, osl, rfl, lk, hcd, _, _⟩ := F.ex
  refine fn_ofH lk hcd S (fun vs H Q E h => (a.len vs H Q E h).trans hn) fun A outer s H vs Q E p hot hr h => ?_
  exact b f cdv A outer s H vs Q E p ⟨p, ⟨hot.1, hot.2⟩, List.mem_singleton.mpr rfl⟩ hr h
theorem def_H [Ar sp n] (F : Fs K mg x st) (S : FnScope N ps (defScope st)) (hb : Bd x x st ps) (b : BodyH P w K mg base k x st N sp) (hn : n = ps.length := by rfl) : DefH P w K mg base (k + 1) x ps sp := by
  obtain ⟨f, fd, F, g⟩ := F
  exact ⟨f, fd, fn_H F S hn b, g, F.kp, F.bindsN hb⟩
theorem met_H [Ar sp n] (F : Ms K C m qual st) (S : FnScope N ps (defScope st)) (hb : Bd m qual st ps) (b : BodyH P w K mg base k qual st N sp) (hn : n = ps.length := by rfl) : MetH P w K mg base (k + 1) C m ps sp := by
  obtain ⟨f, fd, F, g⟩ := F
  exact ⟨f, fd, fn_H F S hn b, g, F.bindsN hb⟩
end
section
variable {X : Cx} {k : Nat} {x m : Str} {C : Addr} {ps : List Str} {sp : Sp} {p pos apos : Pos} {e o : Expr} {es : List Expr} {ta : TE} {t : TA}
theorem pass0H : ∀ σ, PassesAt CX0 X σ ((fun _ => E0) σ) := fun _ _ _ _ _ _ _ z => z.elim
theorem pe_dH (D : DefH X.prog X.w X.K X.mg X.base k x ps sp) (hr : RoomH k X.A) (hc : HotC X) (ha : PA X (e :: es) t) (hg : Gl X x := by rfl) (hdb : (x == ("__debug__" : Str)) = false := by decide)
    (he : starEach (e :: es) X.env = (false, eval e X.env) :: starEach es X.env := by rfl) (hpl : (backTo pos (starEach es X.env)).any (·.1) = false := by rfl) : PE X (.Call (.Name x p) (e :: es) [] pos) (tCallS sp (fun _ => E0) t) := by
  obtain ⟨f, fd, F, hm, hk, hb⟩ := D
  exact pe_callH F hr hc hg hm hk hb pass0H ha hdb he hpl
theorem pe_dH0 (D : DefH X.prog X.w X.K X.mg X.base k x ps sp) (hr : RoomH k X.A) (hc : HotC X) (hg : Gl X x := by rfl) (hdb : (x == ("__debug__" : Str)) = false := by decide) : PE X (.Call (.Name x p) [] [] pos) (tCallS sp (fun _ => E0) tNil) := by
  obtain ⟨f, fd, F, hm, hk, hb⟩ := D
  refine ⟨fun pins s σ H Q I h => ?_⟩
  refine wpAny_Call_Name_kw (ld_glob I hg hm ?_ hdb)
  exact PySem.W.callWith_K0 I.kIn hk (run_fnH (E := fun _ => E0) (us := []) (vs := []) F hr hc hb (pass0H σ) I .nil h)
theorem pe_mH0 {pl : Sem Bool} (c : Cls X.K C) (D : MetH X.prog X.w X.K X.mg X.base k C m ps sp) (hr : RoomH k X.A) (hc : HotC X) (he : PE X o ta)
    (ht : eval (.Call (.Attribute o m apos) [] [] pos) X.env = (do
      let ov ← eval o X.env
      standAt apos.atName
      let (f, first) ← holding [ov] (getMethod ov m pl)
      callWith pos f first (backTo pos (starEach [] X.env)) (backToKw pos (keywordEach [] X.env))) := by rfl) : PE X (.Call (.Attribute o m apos) [] [] pos) (tMethH C m sp (fun _ => E0) ta tNil) := by
  obtain ⟨f, fd, F, hm, hb⟩ := D
  refine ⟨fun pins s σ H Q I h => ?_⟩
  refine PySem.W.methodCall_KW (pl := pl) (thn (he.run pins s σ H _ I h) fun u s1 ⟨x, H1, I1, rx, a, dx, fs, ex, ea, l, q⟩ => ?_) ht
  subst ex
  obtain rfl : u = Value.ref a := rx
  refine getmeth_ok I1 ea c hm l ?_
  exact PySem.W.callWith_K0 (first := [.ref a]) I1.kIn hm.kp (run_fnH (E := fun _ => E0) (us := [.ref a]) (vs := [.ref a]) F hr hc hb (pass0H σ) I1 (.cons rfl .nil) q)
end
section
variable {P : Program} {w : World} {K : PySem.W.Frag} {mg : Str → Option Value} {base : Heap}
abbrev s_low_octets : Stmt := top 117
theorem sc_low_octets : FnScope ["number", "many", "turn"] ["number", "many"] (defScope s_low_octets) := ⟨rfl, rfl, rfl, by decide +kernel, rfl, by decide +kernel, by decide +kernel⟩
theorem bd_low_octets : Bd "low_octets" "low_octets" s_low_octets ["number", "many"] := fun _ _ _ _ _ _ us hl => match us, hl with | [_, _], _ => rfl
abbrev s_written_text : Stmt := top 118
theorem sc_written_text : FnScope ["octets"] ["octets"] (defScope s_written_text) := ⟨rfl, rfl, rfl, by decide +kernel, rfl, by decide +kernel, by decide +kernel⟩
theorem bd_written_text : Bd "written_text" "written_text" s_written_text ["octets"] := fun _ _ _ _ _ _ us hl => match us, hl with | [_], _ => rfl
abbrev s_written_refusal : Stmt := top 123
theorem sc_written_refusal : FnScope ["place", "words"] ["place", "words"] (defScope s_written_refusal) := ⟨rfl, rfl, rfl, by decide +kernel, rfl, by decide +kernel, by decide +kernel⟩
theorem bd_written_refusal : Bd "written_refusal" "written_refusal" s_written_refusal ["place", "words"] := fun _ _ _ _ _ _ us hl => match us, hl with | [_, _], _ => rfl
abbrev s_written_malformed : Stmt := top 124
theorem sc_written_malformed : FnScope [] [] (defScope s_written_malformed) := ⟨rfl, rfl, rfl, by decide +kernel, rfl, by decide +kernel, by decide +kernel⟩
theorem bd_written_malformed : Bd "written_malformed" "written_malformed" s_written_malformed [] := fun _ _ _ _ _ _ us hl => match us, hl with | [], _ => rfl
abbrev s_Recovery___init__ : Stmt := inClass (top 80) 0
theorem sc_Recovery___init__ : FnScope ["self", "volume", "by", "lost"] ["self", "volume", "by", "lost"] (defScope s_Recovery___init__) := ⟨rfl, rfl, rfl, by decide +kernel, rfl, by decide +kernel, by decide +kernel⟩
theorem bd_Recovery___init__ : Bd "__init__" "Recovery.__init__" s_Recovery___init__ ["self", "volume", "by", "lost"] := fun _ _ _ _ _ _ us hl => match us, hl with | [_, _, _, _], _ => rfl
abbrev s_Recovery_end : Stmt := inClass (top 80) 1
theorem sc_Recovery_end : FnScope ["self"] ["self"] (defScope s_Recovery_end) := ⟨rfl, rfl, rfl, by decide +kernel, rfl, by decide +kernel, by decide +kernel⟩
theorem bd_Recovery_end : Bd "end" "Recovery.end" s_Recovery_end ["self"] := fun _ _ _ _ _ _ us hl => match us, hl with | [_], _ => rfl
abbrev s_new_recovery : Stmt := top 81
theorem sc_new_recovery : FnScope ["volume", "by_value", "node_value", "by", "node"] ["volume", "by_value", "node_value"] (defScope s_new_recovery) := ⟨rfl, rfl, rfl, by decide +kernel, rfl, by decide +kernel, by decide +kernel⟩
theorem bd_new_recovery : Bd "new_recovery" "new_recovery" s_new_recovery ["volume", "by_value", "node_value"] := fun _ _ _ _ _ _ us hl => match us, hl with | [_, _, _], _ => rfl
abbrev s_told : Stmt := top 82
theorem sc_told : FnScope ["value", "done"] ["value", "done"] (defScope s_told) := ⟨rfl, rfl, rfl, by decide +kernel, rfl, by decide +kernel, by decide +kernel⟩
theorem bd_told : Bd "told" "told" s_told ["value", "done"] := fun _ _ _ _ _ _ us hl => match us, hl with | [_, _], _ => rfl
abbrev s_free_if_not_refused : Stmt := top 83
theorem sc_free_if_not_refused : FnScope ["recovery"] ["recovery"] (defScope s_free_if_not_refused) := ⟨rfl, rfl, rfl, by decide +kernel, rfl, by decide +kernel, by decide +kernel⟩
theorem bd_free_if_not_refused : Bd "free_if_not_refused" "free_if_not_refused" s_free_if_not_refused ["recovery"] := fun _ _ _ _ _ _ us hl => match us, hl with | [_], _ => rfl
abbrev s_next_of_recovery : Stmt := top 84
theorem sc_next_of_recovery : FnScope ["recovery", "found"] ["recovery"] (defScope s_next_of_recovery) := ⟨rfl, rfl, rfl, by decide +kernel, rfl, by decide +kernel, by decide +kernel⟩
theorem bd_next_of_recovery : Bd "next_of_recovery" "next_of_recovery" s_next_of_recovery ["recovery"] := fun _ _ _ _ _ _ us hl => match us, hl with | [_], _ => rfl
abbrev s_close_of_recovery : Stmt := top 85
theorem sc_close_of_recovery : FnScope ["recovery", "value"] ["recovery", "value"] (defScope s_close_of_recovery) := ⟨rfl, rfl, rfl, by decide +kernel, rfl, by decide +kernel, by decide +kernel⟩
theorem bd_close_of_recovery : Bd "close_of_recovery" "close_of_recovery" s_close_of_recovery ["recovery", "value"] := fun _ _ _ _ _ _ us hl => match us, hl with | [_, _], _ => rfl
theorem h_nothing (T : TxtX K mg) (F : Fs K mg "nothing" s_nothing) : DefH P w K mg base 1 "nothing" [] (Sp0 fNothing) :=
  def_H F sc_nothing bd_nothing fun f cdv A outer s H vs Q E p hc hr h => by
    obtain ⟨rfl, G, hs, q⟩ := h
    refine ⟨_, (pss_one (ps_ret (pe_tup (pa_cons (pe_gi T.i_NOTHING) (pa_cons pe_int pa_nil))))), ?_⟩
    exact ⟨sz2, fun p hp => q.mk hs hp fun G' h _ => ⟨p, rfl, h⟩⟩
theorem h_boolean (T : TxtX K mg) (F : Fs K mg "boolean" s_boolean) : DefH P w K mg base 1 "boolean" ["flag"] (Sp1 fBoolean) :=
  def_H F sc_boolean bd_boolean fun f cdv A outer s H vs Q E p hc hr h => by
    obtain ⟨_, rfl, G, b, rfl, hs, q⟩ := h
    refine ⟨_, (pss_cons (ps_if (pt_val (pv 0)) (pss_one (ps_ret (pe_tup (pa_cons (pe_gi T.i_TRUE) (pa_cons pe_int pa_nil))))) pss_nil) (pss_one (ps_ret (pe_tup (pa_cons (pe_gi T.i_FALSE) (pa_cons pe_int pa_nil)))))), ?_⟩
    refine ⟨_, rfl, b, rfl, ?_⟩
    cases b with
    | true => exact iteT ⟨sz2, fun p hp => q.mk hs hp fun G' h _ => ⟨p, rfl, h⟩⟩
    | false => exact iteF ⟨sz2, fun p hp => q.mk hs hp fun G' h _ => ⟨p, rfl, h⟩⟩
def fOctetsA : V → Hp → VK → XK → Prop := fun a H Q E => ∃ x : Str, a = .str x ∧ asc x = true ∧ fOctets a H Q E
theorem h_octets_of (T : TxtX K mg) (F : Fs K mg "octets_of" s_octets_of) : DefH P w K mg base 1 "octets_of" ["words"] (Sp1 fOctetsA) :=
  def_H F sc_octets_of bd_octets_of fun f cdv A outer s H vs Q E p hc hr h => by
    obtain ⟨_, rfl, x, rfl, hx, x', ex, hz, q⟩ := h
    cases ex
    refine ⟨_, (pss_one (ps_ret (pe_lcH (own := [("sign", 1)]) (g := (gName 1)) (tt := tYes) hc sc_octets_of.nd (pi_strH (pv 0)) (blkOk_by (N := ["words", "sign"]) (sc := defScope s_octets_of) (by decide +kernel)) (fun _ _ _ _ _ => (pg_name (i := 1) sc_octets_of.nd rfl (Or.inl rfl))) (fun _ _ _ _ _ => pts_nil) (fun _ _ _ _ _ => (pe_callB call_ord (by rfl) T.z_ord (by decide +kernel) (pa_cons (pv 1) pa_nil)))))), ?_⟩
    refine ⟨_, rfl, x, rfl, hx, fun D hD => lc_str (fun r H' => ∃ pre, pre ++ r = x.cps.toList ∧ H' = upd H D (.lst (nlst pre))) ⟨[], rfl, rfl⟩ (fun c r H' p => ?_) (fun H' p => ?_)⟩
    · obtain ⟨pre, e, rfl⟩ := p
      refine ⟨rfl, _, rfl, ⟨#[c]⟩, rfl, rfl, _, upd_same, szk ?_, pre ++ [c], by rw [List.append_assoc]; exact e, ?_⟩
      · have z := congrArg List.length e
        simp only [List.length_append, List.length_cons, Array.length_toList] at z
        rw [nlst_len]
        omega
      · rw [upd_upd, nlst_app]
        rfl
    · obtain ⟨pre, e, rfl⟩ := p
      rw [List.append_nil] at e
      subst e
      exact q D hD
def NmA (G : Hp) (m : Str × Plain) (v : V) : Prop := asc m.1 = true ∧ NmAt G m v
def fRecordA : V → Hp → VK → XK → Prop := fun a H Q _ => ∃ G l vs ms, a = .ref l ∧ H l = some (.lst vs) ∧ Same G H ∧ ms.length ≤ 1000 ∧ Paired (NmA G) ms vs ∧ Ret G H (recOf ms) Q
theorem h_record (T : TxtX K mg) (HD_octets_of : DefH P w K mg base 1 "octets_of" ["words"] (Sp1 fOctetsA)) (F : Fs K mg "record" s_record) : DefH P w K mg base 2 "record" ["members"] (Sp1 fRecordA) :=
  def_H F sc_record bd_record fun f cdv A outer s H vs Q E p hc hr h => by
    obtain ⟨_, rfl, G, l, xs, ms, rfl, hl, hs, hz, ha, q⟩ := h
    refine ⟨_, (pss_one (ps_ret (pe_tup (pa_cons (pe_gi T.i_RECORD) (pa_cons (pe_lcH (own := [("name", 1), ("value", 2)]) (g := (gTup K 2 (gCons (gName 1) (gCons (gName 2) gNil)))) (tt := tYes) hc sc_record.nd (pi_listH (pv 0)) (blkOk_by (N := ["members", "name", "value"]) (sc := defScope s_record) (by decide +kernel)) (fun _ _ _ _ _ => (pg_tupH hc (pgs_cons (pg_name (i := 1) sc_record.nd rfl (Or.inl rfl)) (pgs_cons (pg_name (i := 2) sc_record.nd rfl (Or.inl rfl)) pgs_nil)))) (fun _ _ _ _ _ => pts_nil) (fun _ _ _ _ _ => (pe_tup (pa_cons (pe_dH HD_octets_of (hr.mono (by decide)) hc (pa_cons (pv 1) pa_nil)) (pa_cons (pv 2) pa_nil))))) pa_nil))))), ?_⟩
    refine ⟨_, rfl, l, rfl, ⟨_, SqL.of hl⟩, fun D hD => lc_map (S := NmA G) (R := fun G m v => MemAt G (unitsOf m.1, m.2) v) (.lst (SqL.of hl)) hs hD ha (Nat.le_trans hz (by decide)) (fun _ _ _ _ s h => h.mono s) ?_ ?_⟩
    · rintro m _ G1 H1 Y N ⟨h0, t, x, rfl, h1, h2, h3, h4⟩ - e y
      refine ⟨t, _, rfl, SqT.of (e.sub _ _ (e.g _ _ h1)), rfl, _, _, rfl, ⟨_, _, rfl, rfl, rfl, _, rfl, _, rfl, m.1, rfl, h0, m.1, rfl, h3, fun l hl => ⟨_, rfl, sz2, fun p hp => ?_⟩⟩⟩
      have e1 := (ExtF.refl (F := NoF) e.sub).imm (o := .lst (nlst m.1.cps.toList)) hl
      have e2 := e1.imm (o := .tup [.ref l, x]) hp
      refine y _ _ _ e2 ⟨p, l, x, rfl, upd_same, ?_, (h2.mono e.g).mono e2.g⟩
      rw [upd_ne (ne_of_none (upd_same (H := H1)) hp), upd_same, ulst_of h4]
    · intro G1 H1 ys e g1 h1 pd
      exact ⟨sz2, fun p hp => q.pair e hD h1 g1 hp fun G' g' hp' hD' => ⟨p, D, ys, rfl, hp', hD', AtM.of (Pd.map_left (Pd.mono (fun _ _ z => z.mono g') pd))⟩⟩
/-- told(value, done) -/
def fTold : V → V → Hp → VK → XK → Prop := fun a b H Q _ => ∃ G p d, AtV G p a ∧ b = .bl d ∧ Same G H ∧ Ret G H (R7237f.Spec.iteration p d) Q
theorem d_told (T : TxtX K mg) (D_boolean : DefOk P w K mg base CX0 1 "boolean" ["flag"] (Sp1 fBoolean)) (D_record : DefOk P w K mg base CX0 2 "record" ["members"] (Sp1 fRecord)) (F : Fs K mg "told" s_told) : DefOk P w K mg base CX0 3 "told" ["value", "done"] (Sp2 fTold) :=
  def_C F sc_told bd_told fun f cdv A outer s H vs Q E hr h => by
    obtain ⟨a, _, rfl, G, p, d, ha, rfl, hs, q⟩ := h
    refine ⟨_, (pss_one (ps_ret (pe_d D_record (hr.mono (by decide)) pass0 (pa_cons (pe_lst (pa_cons (pe_tup (pa_cons pe_str (pa_cons (pv 0) pa_nil))) (pa_cons (pe_tup (pa_cons pe_str (pa_cons (pe_d D_boolean (hr.mono (by decide)) pass0 (pa_cons (pv 1) pa_nil)) pa_nil))) pa_nil))) pa_nil)))), ?_⟩
    refine ev_record (G := G) (ps := recS [("value", p), ("done", .bool d)]) (.cons ?_ (by kernel_rfl) (.cons ?_ (by kernel_rfl) .nil)) hs (Nat.le_of_ble_eq_true rfl) ?_
    · exact fun G1 H1 Q e r => ⟨_, rfl, r _ _ _ (ExtF.refl e.sub) (ha.mono e.g)⟩
    · exact fun G1 H1 Q e r => ⟨_, rfl, _, rfl, G1, _, rfl, e.sub, r⟩
    · rw [rec_spec (by kernel_rfl)]
      exact q
theorem h_told (T : TxtX K mg) (HD_boolean : DefH P w K mg base 1 "boolean" ["flag"] (Sp1 fBoolean)) (HD_record : DefH P w K mg base 2 "record" ["members"] (Sp1 fRecordA)) (F : Fs K mg "told" s_told) : DefH P w K mg base 3 "told" ["value", "done"] (Sp2 fTold) :=
  def_H F sc_told bd_told fun f cdv A outer s H vs Q E p0 hc hr h => by
    obtain ⟨a, _, rfl, G, p, d, ha, rfl, hs, q⟩ := h
    refine ⟨_, (pss_one (ps_ret (pe_dH HD_record (hr.mono (by decide)) hc (pa_cons (pe_lst (pa_cons (pe_tup (pa_cons pe_str (pa_cons (pv 0) pa_nil))) (pa_cons (pe_tup (pa_cons pe_str (pa_cons (pe_dH HD_boolean (hr.mono (by decide)) hc (pa_cons (pv 1) pa_nil)) pa_nil))) pa_nil))) pa_nil)))), ?_⟩
    have e0 : recOf (recS [("value", p), ("done", .bool d)]) = R7237f.Spec.iteration p d := rec_spec (by kernel_rfl)
    refine ⟨_, rfl, sz2, fun t1 h1 => ⟨_, rfl, _, rfl, upd G t1 (.tup [.str "value", a]), d, rfl, ?_⟩⟩
    have e1 := (ExtF.refl (F := NoF) hs).imm (o := .tup [.str "value", a]) h1
    refine ⟨e1.sub, fun G2 H2 v e2 hv => ⟨sz2, fun t2 h2 => ⟨sz2, fun l hl => ?_⟩⟩⟩
    have e3 := (e1.trans e2).imm (o := .tup [.str "done", v]) h2
    have e4 := e3.mut (o := .lst [.ref t1, .ref t2]) hl
    have g1 : upd G2 t2 (.tup [.str "done", v]) t1 = some (.tup [.str "value", a]) := by
      rw [upd_ne (ne_of_none (e2.sub _ _ (e2.g _ _ upd_same)) h2)]
      exact e2.g _ _ upd_same
    have s2 : Same G2 (upd G2 t2 (.tup [.str "done", v])) := fun b o hb => by
      rw [upd_ne (ne_of_none (e2.sub _ _ hb) h2)]
      exact hb
    refine ⟨_, rfl, upd G2 t2 (.tup [.str "done", v]), l, _, recS [("value", p), ("done", .bool d)], rfl, upd_same, e4.sub, Nat.le_of_ble_eq_true rfl, .cons ⟨by kernel_rfl, t1, a, rfl, g1, ha.mono e3.g, Nat.le_of_ble_eq_true (by kernel_rfl), by kernel_rfl⟩ (.cons ⟨by kernel_rfl, t2, v, rfl, upd_same, hv.mono s2, Nat.le_of_ble_eq_true (by kernel_rfl), by kernel_rfl⟩ .nil), ?_⟩
    rw [e0]
    exact fun G5 H5 y e5 hy => q _ _ _ (e4.trans e5) hy
end
end Ov
set_option maxHeartbeats 4000000
/-! V14: recovering. -/
namespace Ov
open PySem PySem.Spec PyProof.Rows L2 L2H
open R7237f.Spec (Plain Units Item Cell Lock Replay Op Way Volume Err Res andThen require aNode nodeArg doReplay doFree behind iteration Told toldPlain)
def recF (s : Addr) (m n : Nat) (e : Bool) : List (Str × V) := [("volume", .ref s), ("by", .int (m : Int)), ("lost", .int (n : Int)), ("ended", .bl e)]
theorem roomH_mark {k : Nat} {A : Around} {v : Option Value} (r : Room k A) : RoomH k (A.mark v) := ⟨r.dp, r.un⟩
theorem exm_ref {K : PySem.W.Frag} {mg : Str → Option Value} (T : TxtX K mg) {c : R7237f.Spec.Cls} (h : c ≠ .syntaxError) : PySem.W.exmOne K (.ref (clsOf K c)) (.ref (He.ga K "Refusal")) = some true := by
  cases c with
  | typeError => exact T.e_WR
  | rangeError => exact T.e_OR
  | syntaxError => exact absurd rfl h
/-- a change of a volume and of one object more -/
structure StepR (r : Addr) (L : VA) (G H : Hp) (L' : VA) (G' H' : Hp) : Prop where
  e : ExtF (fun b => L.tg b ≠ 0 ∨ b = r) G H G' H'
  own : ∀ b, L'.tg b ≠ 0 → L.tg b ≠ 0 ∨ H b = none
  self : L'.self = L.self
theorem Step.r {r : Addr} {L L' : VA} {G H G' H' : Hp} (s : Step L G H L' G' H') : StepR r L G H L' G' H' := ⟨s.e.mono fun _ h => .inl h, s.own, s.self⟩
theorem StepR.trans {r : Addr} {L L1 L2 : VA} {G H G1 H1 G2 H2 : Hp} (a : StepR r L G H L1 G1 H1) (b : StepR r L1 G1 H1 L2 G2 H2) : StepR r L G H L2 G2 H2 where
  e := a.e.trans' b.e fun x h => h.elim (fun z => (a.own x z).elim (fun y => .inl (.inl y)) .inr) fun z => .inl (.inr z)
  own := fun x h => (b.own x h).elim (a.own x) fun z => .inr (a.e.free z)
  self := b.self.trans a.self
/-- r's object changes, it is no volume's -/
theorem VolAt.other {K : PySem.W.Frag} {G H : Hp} {L : VA} {v : Volume} (h : VolAt K G H L v) {r : Addr} {o : HO} (ht : L.tg r = 0) (hr : H r ≠ none) (gr : G r = none) : StepR r L G H L G (upd H r o) ∧ VolAt K G (upd H r o) L v := by
  have e := (ExtF.refl (F := fun b => b = r) h.sub).write (o := o) (.inr rfl) hr gr
  exact ⟨⟨e.mono fun b z => .inr z, fun _ z => .inl z, rfl⟩, h.away e fun b hb z => hb (z ▸ ht)⟩
section
variable {P : Program} {w : World} {K : PySem.W.Frag} {mg : Str → Option Value} {base : Heap}
def fRecInit (K : PySem.W.Frag) : V → V → V → V → Hp → VK → XK → Prop := fun a b c d H Q _ => ∃ x dx s, ∃ m n : Nat, a = .ref x ∧ b = .ref s ∧ c = .int (m : Int) ∧ d = .int (n : Int) ∧ H x = some (.ins (cRec K) dx []) ∧ Q .non (upd H x (.ins (cRec K) dx (recF s m n false)))
theorem d_Recovery_init (T : TxtX K mg) (F : Mks K mg "Recovery" "Recovery.__init__" s_Recovery___init__) : MkOk P w K mg base 1 "Recovery" ["self", "volume", "by", "lost"] (Sp4 (fRecInit K)) :=
  mk_C F sc_Recovery___init__ bd_Recovery___init__ fun f cdv A outer s H vs Q E hr h => by
    obtain ⟨_, _, _, _, rfl, x, dx, s0, m, n, rfl, rfl, rfl, rfl, hx, q⟩ := h
    refine ⟨_, (pss_cons (ps_fld (pv 0) (pv 1) rfl) (pss_cons (ps_fld (pv 0) (pv 2) rfl) (pss_cons (ps_fld (pv 0) (pv 3) rfl) (pss_one (ps_fld (pv 0) pe_bl rfl))))), ?_⟩
    refine ⟨_, rfl, _, rfl, _, _, _, _, rfl, hx, T.c_Recovery, T.n_Recovery _ mm0, Nat.le_of_ble_eq_true rfl, ?_⟩
    refine ⟨_, rfl, _, rfl, _, _, _, _, rfl, upd_same, T.c_Recovery, T.n_Recovery _ mm1, Nat.le_of_ble_eq_true rfl, ?_⟩
    refine ⟨_, rfl, _, rfl, _, _, _, _, rfl, upd_same, T.c_Recovery, T.n_Recovery _ mm2, Nat.le_of_ble_eq_true rfl, ?_⟩
    refine ⟨_, rfl, _, _, _, _, rfl, upd_same, T.c_Recovery, T.n_Recovery _ mm3, Nat.le_of_ble_eq_true rfl, ?_⟩
    rw [upd_upd, upd_upd, upd_upd]
    exact q
def fEnd (K : PySem.W.Frag) : V → Hp → VK → XK → Prop := fun a H Q _ => ∃ r dr s m n e, a = .ref r ∧ H r = some (.ins (cRec K) dr (recF s m n e)) ∧ Q .non (upd H r (.ins (cRec K) dr (recF s m n true)))
theorem d_Recovery_end (T : TxtX K mg) (F : Ms K (cRec K) "end" "Recovery.end" s_Recovery_end) : MetOk P w K mg base CX0 1 (cRec K) "end" ["self"] (Sp1 (fEnd K)) :=
  met_C F sc_Recovery_end bd_Recovery_end fun f cdv A outer s H vs Q E hr h => by
    obtain ⟨_, rfl, r, dr, s0, m, n, e, rfl, hx, q⟩ := h
    refine ⟨_, (pss_one (ps_fld (pv 0) pe_bl rfl)), ?_⟩
    exact ⟨_, rfl, _, _, _, _, rfl, hx, T.c_Recovery, T.n_Recovery _ mm3, Nat.le_of_ble_eq_true rfl, q⟩
theorem h_Recovery_end (T : TxtX K mg) (F : Ms K (cRec K) "end" "Recovery.end" s_Recovery_end) : MetH P w K mg base 1 (cRec K) "end" ["self"] (Sp1 (fEnd K)) :=
  met_H F sc_Recovery_end bd_Recovery_end fun f cdv A outer s H vs Q E p hc hr h => by
    obtain ⟨_, rfl, r, dr, s0, m, n, e, rfl, hx, q⟩ := h
    refine ⟨_, (pss_one (ps_fld (pv 0) pe_bl rfl)), ?_⟩
    exact ⟨_, rfl, _, _, _, _, rfl, hx, T.c_Recovery, T.n_Recovery _ mm3, Nat.le_of_ble_eq_true rfl, q⟩
/-- a new recovery comes back -/
def fNewRec (K : PySem.W.Frag) : V → V → V → Hp → VK → XK → Prop := fun a b c H Q E => ∃ G L v p1 p2, a = .ref L.self ∧ AtV G p1 b ∧ AtV G p2 c ∧ v.nodes.length ≤ 8 ∧ VolAt K G H L v ∧
  RC K G H (andThen (aNode v (nodeArg p1)) fun _ => aNode v (nodeArg p2)) (fun _ => ∀ G' H' r dr, Ext G H G' H' → H r = none → G' r = none → H' r = some (.ins (cRec K) dr (recF L.self (nodeArg p1) (nodeArg p2) false)) → Q (.ref r) H') E
theorem d_new_recovery (T : TxtX K mg) (D_node_number : DefOk P w K mg base (L2N.CX P w) 2 "node_number" ["volume", "value"] (Sp2 (fNodeNumber K))) (D_Recovery_init : MkOk P w K mg base 1 "Recovery" ["self", "volume", "by", "lost"] (Sp4 (fRecInit K))) (F : Fs K mg "new_recovery" s_new_recovery) : DefOk P w K mg base (L2N.CX P w) 3 "new_recovery" ["volume", "by_value", "node_value"] (Sp3 (fNewRec K)) :=
  def_R F sc_new_recovery bd_new_recovery fun f cdv A outer s H vs Q E hr h => by
    obtain ⟨_, _, _, rfl, G, L, v, p1, p2, rfl, a1, a2, hn, h, q⟩ := h
    refine ⟨_, (pss_cons (ps_set (i := 3) sc_new_recovery.nd rfl (Or.inl rfl) (pe_d D_node_number (hr.mono (by decide)) passR (pa_cons (pv 0) (pa_cons (pv 1) pa_nil)))) (pss_cons (ps_set (i := 4) sc_new_recovery.nd rfl (Or.inl rfl) (pe_d D_node_number (hr.mono (by decide)) passR (pa_cons (pv 0) (pa_cons (pv 2) pa_nil)))) (pss_one (ps_ret (pe_mk D_Recovery_init (hr.mono (by decide)) pass0 (pa_cons (pv 0) (pa_cons (pv 3) (pa_cons (pv 4) pa_nil)))))))), ?_⟩
    refine ⟨_, rfl, _, rfl, _, _, rfl, G, L, v, p1, rfl, a1, hn, h, q.then.mono fun u hu q => ?_⟩
    refine ⟨_, rfl, _, rfl, _, _, rfl, G, L, v, p2, rfl, a2, hn, h, q.mono fun u hu2 q => ?_⟩
    refine ⟨_, rfl, _, rfl, _, rfl, fun x dx hx hdx ndx => ⟨_, _, _, _, rfl, x, dx, L.self, nodeArg p1, nodeArg p2, rfl, rfl, rfl, rfl, upd_same, rfl, ?_⟩⟩
    rw [upd_upd]
    have e1 := (ExtF.refl (F := NoF) h.sub).imm (o := .own x) hdx
    have hx1 : upd H dx (.own x) x = none := by rw [upd_ne ndx.symm]; exact hx
    have e2 := e1.mut (o := .ins (cRec K) dx (recF L.self (nodeArg p1) (nodeArg p2) false)) hx1
    exact q _ _ x dx e2 hx (by rw [upd_ne ndx.symm]; exact Same.none h.sub hx) upd_same
def fFreeTry (K : PySem.W.Frag) : V → Hp → VK → XK → Prop := fun a H Q _ => ∃ G L v r dr m n e, a = .ref r ∧ H r = some (.ins (cRec K) dr (recF L.self m n e)) ∧ L.tg r = 0 ∧ (1 ≤ n ∧ n ≤ v.nodes.length) ∧ VGood v ∧ VolAt K G H L v ∧ Aft K G H L (behind v (.free n)) Q
theorem d_free_if_not_refused (T : TxtX K mg) (D_free_step : DefOk P w K mg base (L2N.CX P w) 3 "free_step" ["volume", "node"] (Sp2 (fFreeStep K))) (F : Fs K mg "free_if_not_refused" s_free_if_not_refused) : DefOk P w K mg base CX0 4 "free_if_not_refused" ["recovery"] (Sp1 (fFreeTry K)) :=
  def_C F sc_free_if_not_refused bd_free_if_not_refused fun f cdv A outer s H vs Q E hr h => by
    obtain ⟨_, rfl, G, L, v, r, dr, m, n, e, rfl, hx, ht, hn, hg, h, q⟩ := h
    refine ⟨_, pss_one (ps_try_mix (tb := fun W => tDrop (tCallS (Sp2 (fFreeStep K)) (WE W) (tCons (tFld K (tVar 0) "volume") (tCons (tFld K (tVar 0) "lost") tNil)))) (l := [(.ref (He.ga K "Refusal"), none, fun _ _ _ => tRetN)]) rfl rfl takesN0
      (fun W pn xe tk _ => pss_one (ps_expr (by exact pe_dS D_free_step (hr.mono (by decide)) (fun σ => L2N.passAt tk σ) (pa_cons (pe_fld (pv 0) rfl) (pa_cons (pe_fld (pv 0) rfl) pa_nil)))))
      (.bare ⟨rfl, by decide, .inl T.g_Refusal⟩ (fun a oe cls d pn hz hf => pss_one ps_retN) .nil)), ?_⟩
    refine ⟨_, rfl, _, _, _, _, _, rfl, hx, T.c_Recovery, T.n_Recovery _ mm0, rfl, _, rfl, _, _, _, _, _, rfl, hx, T.c_Recovery, T.n_Recovery _ mm2, rfl, _, _, rfl, G, L, v, n, rfl, rfl, hn, hg, h, ?_⟩
    unfold behind at q
    have eap : R7237f.Spec.apply v (.free n) = doFree v n := rfl
    rw [eap] at q
    cases c : doFree v n with
    | ok ut =>
      rw [c] at q
      exact fun G' H' L' x s' v' _ => q G' H' L' s' v'
    | error er =>
      rw [c] at q
      intro G' H' d x e1 gd hu hna hasc hsz hcl
      exact ⟨true, exm_ref T hcl, fun _ a _ => q G' H' L (Step.ext e1) (h.ext e1), fun z => by cases z⟩
def nextRes (v : Volume) (m n : Nat) (e : Bool) : Volume × Bool × Plain := if e then (v, true, iteration .undef true) else match doReplay v m n with
  | .error _ => (v, true, iteration .undef true)
  | .ok (u, .done) => (behind u (.free n), true, iteration .undef true)
  | .ok (u, t) => (u, false, iteration (toldPlain t) false)
def NextOk (K : PySem.W.Frag) (G H : Hp) (L : VA) (r dr : Addr) (m n : Nat) (x : Volume × Bool × Plain) (Q : VK) : Prop := ∀ G' H' L' y, StepR r L G H L' G' H' → VolAt K G' H' L' x.1 → H' r = some (.ins (cRec K) dr (recF L.self m n x.2.1)) → AtV G' x.2.2 y → Q y H'
def fNext (K : PySem.W.Frag) : V → Hp → VK → XK → Prop := fun a H Q _ => ∃ G L v r dr m n e, a = .ref r ∧ H r = some (.ins (cRec K) dr (recF L.self m n e)) ∧ L.tg r = 0 ∧ G r = none ∧ (1 ≤ m ∧ m ≤ v.nodes.length) ∧ (1 ≤ n ∧ n ≤ v.nodes.length) ∧ VGood v ∧ (∀ u t, doReplay v m n = .ok (u, t) → VGood u ∧ u.nodes.length = v.nodes.length) ∧ VolAt K G H L v ∧ NextOk K G H L r dr m n (nextRes v m n e) Q
theorem kind_null {t : Told} : decide (V.int (kindOf (toldPlain t)) = V.int 1) = (match t with | .done => true | _ => false) := by cases t <;> rfl
theorem d_next_of_recovery (T : TxtX K mg) (D_told : DefOk P w K mg base CX0 3 "told" ["value", "done"] (Sp2 fTold)) (D_nothing : DefOk P w K mg base CX0 1 "nothing" [] (Sp0 fNothing)) (D_replay_step : DefOk P w K mg base (L2N.CX P w) 5 "replay_step" ["volume", "by", "node"] (Sp3 (fReplayStep K)))
    (HD_Recovery_end : MetH P w K mg base 1 (cRec K) "end" ["self"] (Sp1 (fEnd K))) (HD_told : DefH P w K mg base 3 "told" ["value", "done"] (Sp2 fTold)) (HD_nothing : DefH P w K mg base 1 "nothing" [] (Sp0 fNothing)) (D_free_if_not_refused : DefOk P w K mg base CX0 4 "free_if_not_refused" ["recovery"] (Sp1 (fFreeTry K)))
    (D_Recovery_end : MetOk P w K mg base CX0 1 (cRec K) "end" ["self"] (Sp1 (fEnd K))) (F : Fs K mg "next_of_recovery" s_next_of_recovery) : DefOk P w K mg base CX0 6 "next_of_recovery" ["recovery"] (Sp1 (fNext K)) :=
  def_C F sc_next_of_recovery bd_next_of_recovery fun f cdv A outer s H vs Q E hr h => by
    obtain ⟨_, rfl, G, L, v, r, dr, m, n, e, rfl, hx, ht, gr, hm, hn, hg, hgu, h, q⟩ := h
    refine ⟨_, (pss_cons (ps_if (pt_val (pe_fld (pv 0) rfl)) (pss_one (ps_ret (pe_d D_told (hr.mono (by decide)) pass0 (pa_cons (pe_d0 D_nothing (hr.mono (by decide)) pass0) (pa_cons pe_bl pa_nil))))) pss_nil) (pss_cons (ps_try_mix (tb := fun W => tAsg (tCallS (Sp3 (fReplayStep K)) (WE W) (tCons (tFld K (tVar 0) "volume") (tCons (tFld K (tVar 0) "by") (tCons (tFld K (tVar 0) "lost") tNil)))) (gName 1)) (l := [(.ref (He.ga K "Refusal"), none, fun _ _ _ => tSeq (tDrop (tMethH (cRec K) "end" (Sp1 (fEnd K)) (fun _ => E0) (tVar 0) tNil)) (tRet (tCallS (Sp2 fTold) (fun _ => E0) (tCons (tCallS (Sp0 fNothing) (fun _ => E0) tNil) (tCons (tC (.bl true)) tNil)))))]) rfl rfl takesN0 (fun W pn xe tk _ => pss_one (ps_set (i := 1) sc_next_of_recovery.nd rfl (Or.inl rfl) (by exact pe_dS D_replay_step (hr.mono (by decide)) (fun σ => L2N.passAt tk σ) (pa_cons (pe_fld (pv 0) rfl) (pa_cons (pe_fld (pv 0) rfl) (pa_cons (pe_fld (pv 0) rfl) pa_nil)))))) (.bare ⟨rfl, by decide, .inl T.g_Refusal⟩ (fun a oe cls d pn hz hf => pss_cons (ps_expr (by exact pe_mH0 T.c_Recovery HD_Recovery_end (roomH_mark (hr.mono (by decide))) (hot_of hz hf) (pv 0))) (pss_one (ps_ret (by exact pe_dH HD_told (roomH_mark (hr.mono (by decide))) (hot_of hz hf) (pa_cons (pe_dH0 HD_nothing (roomH_mark (hr.mono (by decide))) (hot_of hz hf)) (pa_cons pe_bl pa_nil)))))) .nil)) (pss_cons (ps_if (pt_cmpR op_ne (pe_ix ix_tup (pv 1) pe_int (fun _ _ => rfl)) (pe_gi T.i_NULL) (nomark _)) (pss_one (ps_ret (pe_d D_told (hr.mono (by decide)) pass0 (pa_cons (pv 1) (pa_cons pe_bl pa_nil))))) pss_nil) (pss_cons (ps_expr (pe_d D_free_if_not_refused (hr.mono (by decide)) pass0 (pa_cons (pv 0) pa_nil))) (pss_cons (ps_expr (pe_m0 T.c_Recovery D_Recovery_end (hr.mono (by decide)) pass0 (pv 0))) (pss_one (ps_ret (pe_d D_told (hr.mono (by decide)) pass0 (pa_cons (pe_d0 D_nothing (hr.mono (by decide)) pass0) (pa_cons pe_bl pa_nil)))))))))), ?_⟩
    refine ⟨_, rfl, _, _, _, _, _, rfl, hx, T.c_Recovery, T.n_Recovery _ mm3, rfl, _, rfl, ?_⟩
    unfold nextRes at q
    cases e with
    | true =>
      refine iteT ⟨rfl, G, h.sub, fun G1 H1 x e1 hx1 => ⟨_, _, rfl, G1, .undef, true, hx1, rfl, e1.sub, fun G2 H2 y e2 hy => ?_⟩⟩
      exact q G2 H2 L y (Step.ext (e1.trans e2)).r (h.ext (e1.trans e2)) ((e1.trans e2).same _ _ hx) hy
    | false =>
    have q : NextOk K G H L r dr m n (match doReplay v m n with
      | .error _ => (v, true, iteration .undef true)
      | .ok (u, .done) => (behind u (.free n), true, iteration .undef true)
      | .ok (u, t) => (u, false, iteration (toldPlain t) false)) Q := q
    refine iteF ⟨_, rfl, _, _, _, _, _, rfl, hx, T.c_Recovery, T.n_Recovery _ mm0, rfl, _, rfl, _, _, _, _, _, rfl, hx, T.c_Recovery, T.n_Recovery _ mm1, rfl, _, rfl, _, _, _, _, _, rfl, hx, T.c_Recovery, T.n_Recovery _ mm2, rfl, _, _, _, rfl, G, L, v, m, n, rfl, rfl, rfl, hm, hn, hg, h, ?_⟩
    cases c : doReplay v m n with
    | error er =>
      rw [c] at q
      intro G1 H1 d x e1 gd hu hna hasc hsz hcl
      refine ⟨true, exm_ref T hcl, fun _ a ha => ?_, fun z => by cases z⟩
      have h1 := h.ext e1
      have hx1 := e1.same _ _ hx
      have gr1 := e1.gnone (ne_of_some hx) gr
      obtain ⟨st, va⟩ := h1.other (o := .ins (cRec K) dr (recF L.self m n true)) ht (ne_of_some hx1) gr1
      refine ⟨_, rfl, r, _, _, rfl, hx1, rfl, _, rfl, r, dr, L.self, m, n, false, rfl, hx1, rfl, G1, va.sub, fun G2 H2 y e2 hy => ⟨_, _, rfl, G2, .undef, true, hy, rfl, e2.sub, fun G3 H3 z e3 hz => ?_⟩⟩
      exact q G3 H3 L z (((Step.ext e1).r.trans st).trans (Step.ext (e2.trans e3)).r) (va.ext (e2.trans e3)) ((e2.trans e3).same _ _ upd_same) hz
    | ok ut =>
      obtain ⟨u, t⟩ := ut
      rw [c] at q
      obtain ⟨hgu, hnu⟩ := hgu u t c
      intro G1 H1 L1 y s1 v1 hy
      have hx1 : H1 r = some (.ins (cRec K) dr (recF L.self m n false)) := s1.e.h _ _ hx (by rw [ht]; exact fun z => z rfl)
      have gr1 : G1 r = none := (s1.e.old _ (ne_of_some hx)).trans gr
      have ht1 : L1.tg r = 0 := Classical.byContradiction fun z => (s1.own r z).elim (fun k => k ht) fun k => ne_of_some hx k
      obtain ⟨ay, cy, ey, hay⟩ := hy.pair
      subst ey
      refine ⟨_, rfl, ay, _, _, _, rfl, rfl, SqT.of (v1.sub _ _ hay), rfl, rfl, _, rfl, ?_⟩
      rw [kind_null]
      have hn1 : 1 ≤ n ∧ n ≤ u.nodes.length := by rw [hnu]; exact hn
      have rest : ∀ (X : Volume × Bool × Plain), X = (u, false, iteration (toldPlain t) false) → NextOk K G H L r dr m n X Q → tRet (tCall (Sp2 fTold) [] E0 (tCons (tVar 1) (tCons (tC (.bl false)) tNil))) { nx := fun _ H' => Q .non H', rt := Q } [some (.ref r), some (.ref ay)] H1 := fun X eX qX => by
        subst eX
        refine ⟨_, rfl, _, _, rfl, G1, toldPlain t, false, hy, rfl, v1.sub, fun G2 H2 z e2 hz => ?_⟩
        exact qX G2 H2 L1 z (s1.trans (Step.ext e2)).r (v1.ext e2) (e2.same _ _ hx1) hz
      cases t with
      | nothing => exact iteT (rest _ rfl q)
      | number k => exact iteT (rest _ rfl q)
      | item x w => exact iteT (rest _ rfl q)
      | done =>
        have q : NextOk K G H L r dr m n (behind u (.free n), true, iteration .undef true) Q := q
        refine iteF ⟨_, rfl, _, rfl, G1, L1, u, r, dr, m, n, false, rfl, (by rw [s1.self]; exact hx1), ht1, hn1, hgu, v1, fun G2 H2 L2 s2 v2 => ?_⟩
        have hx2 : H2 r = some (.ins (cRec K) dr (recF L.self m n false)) := s2.e.h _ _ hx1 (by rw [ht1]; exact fun z => z rfl)
        have gr2 : G2 r = none := (s2.e.old _ (ne_of_some hx1)).trans gr1
        have ht2 : L2.tg r = 0 := Classical.byContradiction fun z => (s2.own r z).elim (fun k => k ht1) fun k => ne_of_some hx1 k
        obtain ⟨st, va⟩ := v2.other (o := .ins (cRec K) dr (recF L.self m n true)) ht2 (ne_of_some hx2) gr2
        refine ⟨_, rfl, r, _, _, rfl, hx2, rfl, _, rfl, r, dr, L.self, m, n, false, rfl, hx2, rfl, G2, va.sub, fun G3 H3 y e3 hy => ⟨_, _, rfl, G3, .undef, true, hy, rfl, e3.sub, fun G4 H4 z e4 hz => ?_⟩⟩
        exact q G4 H4 L2 z (((s1.r.trans s2.r).trans st).trans (Step.ext (e3.trans e4)).r) (va.ext (e3.trans e4)) ((e3.trans e4).same _ _ upd_same) hz
def fClose (K : PySem.W.Frag) : V → V → Hp → VK → XK → Prop := fun a b H Q _ => ∃ G r dr s m n e p, a = .ref r ∧ H r = some (.ins (cRec K) dr (recF s m n e)) ∧ G r = none ∧ Same G H ∧ AtV G p b ∧
  ∀ G' H' y, ExtF (fun b => b = r) G H G' H' → H' r = some (.ins (cRec K) dr (recF s m n true)) → AtV G' (iteration p true) y → Q y H'
theorem d_close_of_recovery (T : TxtX K mg) (D_told : DefOk P w K mg base CX0 3 "told" ["value", "done"] (Sp2 fTold)) (D_Recovery_end : MetOk P w K mg base CX0 1 (cRec K) "end" ["self"] (Sp1 (fEnd K))) (F : Fs K mg "close_of_recovery" s_close_of_recovery) : DefOk P w K mg base CX0 4 "close_of_recovery" ["recovery", "value"] (Sp2 (fClose K)) :=
  def_C F sc_close_of_recovery bd_close_of_recovery fun f cdv A outer s H vs Q E hr h => by
    obtain ⟨_, _, rfl, G, r, dr, s0, m, n, e, p, rfl, hx, gr, hs, hp, q⟩ := h
    refine ⟨_, (pss_cons (ps_expr (pe_m0 T.c_Recovery D_Recovery_end (hr.mono (by decide)) pass0 (pv 0))) (pss_one (ps_ret (pe_d D_told (hr.mono (by decide)) pass0 (pa_cons (pv 1) (pa_cons pe_bl pa_nil)))))), ?_⟩
    have e1 := (ExtF.refl (F := fun b => b = r) hs).write (o := .ins (cRec K) dr (recF s0 m n true)) (.inr rfl) (ne_of_some hx) gr
    refine ⟨_, rfl, r, _, _, rfl, hx, rfl, _, rfl, r, dr, s0, m, n, e, rfl, hx, _, rfl, _, _, rfl, G, p, true, hp, rfl, e1.sub, fun G2 H2 z e2 hz => ?_⟩
    exact q G2 H2 z (e1.trans e2) (e2.same _ _ upd_same) hz
end
end Ov
set_option maxHeartbeats 4000000
/-! V15: replies. -/
namespace Ov
open PySem PySem.Spec PyProof.Rows L2 L2H
open R7237f.Spec (Plain Units)
def octV (l : List UInt8) : List V := l.map fun b => V.int (b.toNat : Int)
theorem octV_app (a b : List UInt8) : octV (a ++ b) = octV a ++ octV b := List.map_append
theorem octV_len (a : List UInt8) : (octV a).length = a.length := List.length_map _
/-- a number's octets, the lowest first, as the program makes them -/
def lowI (i : Int) (k : Nat) : List V := (List.range k).map fun t => V.int (i / 2 ^ (8 * t) % 2 ^ 8)
theorem lowI_succ (i : Int) (k : Nat) : lowI i (k + 1) = V.int (i % 2 ^ 8) :: lowI (i / 2 ^ 8) k := by
  unfold lowI
  rw [List.range_succ_eq_map, List.map_cons, List.map_map]
  congr 1
  · show V.int (i / 2 ^ (8 * 0) % 2 ^ 8) = _
    rw [Nat.mul_zero, Int.pow_zero, Int.ediv_one]
  · refine List.map_congr_left fun t _ => ?_
    show V.int (i / 2 ^ (8 * (t + 1)) % 2 ^ 8) = V.int (i / 2 ^ 8 / 2 ^ (8 * t) % 2 ^ 8)
    rw [Int.ediv_ediv_of_nonneg (by decide), ← Int.pow_add, show 8 * (t + 1) = 8 + 8 * t by omega]
theorem low_oct : ∀ (k n : Nat), lowI (n : Int) k = octV (RWire.low k n)
  | 0, _ => rfl
  | k + 1, n => by
    rw [lowI_succ]
    have e1 : ((n : Int)) % 2 ^ 8 = ((n % 256 : Nat) : Int) := and255 n
    have e2 : ((n : Int)) / 2 ^ 8 = ((n / 256 : Nat) : Int) := by
      have e : (2 : Int) ^ 8 = 256 := rfl
      rw [e]
      omega
    rw [e1, e2, low_oct k (n / 256)]
    show _ = V.int ((UInt8.ofNat n).toNat : Int) :: octV (RWire.low k (n / 256))
    rw [UInt8.toNat_ofNat']
theorem low_int (i : Int) : lowI i 8 = octV (RWire.writeInt i) := by
  unfold RWire.writeInt
  rw [← low_oct]
  unfold lowI
  refine List.map_congr_left fun t ht => ?_
  have h8 := List.mem_range.mp ht
  have e : (((i % RWire.wordMost).toNat : Nat) : Int) = i % 18446744073709551616 := by
    unfold RWire.wordMost
    omega
  rw [e]
  congr 1
  have e8 : (2 : Int) ^ 8 = 256 := rfl
  rw [e8]
  match t, h8 with
  | 0, _ => show i / 1 % 256 = i % 18446744073709551616 / 1 % 256; omega
  | 1, _ => show i / 256 % 256 = i % 18446744073709551616 / 256 % 256; omega
  | 2, _ => show i / 65536 % 256 = i % 18446744073709551616 / 65536 % 256; omega
  | 3, _ => show i / 16777216 % 256 = i % 18446744073709551616 / 16777216 % 256; omega
  | 4, _ => show i / 4294967296 % 256 = i % 18446744073709551616 / 4294967296 % 256; omega
  | 5, _ => show i / 1099511627776 % 256 = i % 18446744073709551616 / 1099511627776 % 256; omega
  | 6, _ => show i / 281474976710656 % 256 = i % 18446744073709551616 / 281474976710656 % 256; omega
  | 7, _ => show i / 72057594037927936 % 256 = i % 18446744073709551616 / 72057594037927936 % 256; omega
theorem ulst_oct {s : Units} (h : Rust.narrowText s = true) : ulst s = octV (s.map Rust.octetOf) := by
  unfold ulst octV
  rw [List.map_map]
  refine List.map_congr_left fun u hu => ?_
  have z : Nat.blt u.toNat 256 = true := List.all_eq_true.mp h u hu
  have z' : u.toNat < 256 := Nat.le_of_ble_eq_true z
  show V.int (u.toNat : Int) = V.int ((UInt8.ofNat u.toNat).toNat : Int)
  rw [UInt8.toNat_ofNat', Nat.mod_eq_of_lt (by omega)]
/-- a new list of these octets comes back -/
def RetL (G H : Hp) (o : List UInt8) (Q : VK) : Prop := ∀ G' H' D, Ext G H G' H' → H D = none → H' D = some (.lst (octV o)) → Q (.ref D) H'
section
variable {P : Program} {w : World} {K : PySem.W.Frag} {mg : Str → Option Value} {base : Heap}
abbrev s_written_members : Stmt := top 119
theorem sc_written_members : FnScope ["members", "octets", "name", "value"] ["members"] (defScope s_written_members) := ⟨rfl, rfl, rfl, by decide +kernel, rfl, by decide +kernel, by decide +kernel⟩
theorem bd_written_members : Bd "written_members" "written_members" s_written_members ["members"] := fun _ _ _ _ _ _ us hl => match us, hl with | [_], _ => rfl
abbrev s_written_elements : Stmt := top 120
theorem sc_written_elements : FnScope ["values", "octets", "value"] ["values"] (defScope s_written_elements) := ⟨rfl, rfl, rfl, by decide +kernel, rfl, by decide +kernel, by decide +kernel⟩
theorem bd_written_elements : Bd "written_elements" "written_elements" s_written_elements ["values"] := fun _ _ _ _ _ _ us hl => match us, hl with | [_], _ => rfl
abbrev s_written_value : Stmt := top 121
theorem sc_written_value : FnScope ["value", "kind", "content"] ["value"] (defScope s_written_value) := ⟨rfl, rfl, rfl, by decide +kernel, rfl, by decide +kernel, by decide +kernel⟩
theorem bd_written_value : Bd "written_value" "written_value" s_written_value ["value"] := fun _ _ _ _ _ _ us hl => match us, hl with | [_], _ => rfl
abbrev s_written_return : Stmt := top 122
theorem sc_written_return : FnScope ["value"] ["value"] (defScope s_written_return) := ⟨rfl, rfl, rfl, by decide +kernel, rfl, by decide +kernel, by decide +kernel⟩
theorem bd_written_return : Bd "written_return" "written_return" s_written_return ["value"] := fun _ _ _ _ _ _ us hl => match us, hl with | [_], _ => rfl
def fLow : V → V → Hp → VK → XK → Prop := fun a b H Q _ => ∃ (i : Int) (k : Nat), a = .int i ∧ b = .int (k : Int) ∧ k ≤ 100 ∧ ∀ D, H D = none → Q (.ref D) (upd H D (.lst (lowI i k)))
theorem d_low_octets (T : TxtX K mg) (F : Fs K mg "low_octets" s_low_octets) : DefOk P w K mg base CX0 1 "low_octets" ["number", "many"] (Sp2 fLow) :=
  def_C F sc_low_octets bd_low_octets fun f cdv A outer s H vs Q E hr h => by
    obtain ⟨_, _, rfl, i, k, rfl, rfl, hk, q⟩ := h
    refine ⟨_, (pss_one (ps_ret (pe_lc (own := [("turn", 2)]) (g := (gName 2)) (tt := tYes) rfl sc_low_octets.nd (pi_range1 rfl T.z_range (pa_cons (pv 1) pa_nil)) (blkOk_by (N := ["number", "many", "turn"]) (sc := defScope s_low_octets) (by decide +kernel)) (fun _ _ _ _ _ => (pg_name (i := 2) sc_low_octets.nd rfl (Or.inl rfl))) (fun _ _ _ _ _ => pts_nil) (fun _ _ _ _ _ => (pe_op op_andM (pe_op op_shrN (pv 0) (pe_op op_mul pe_int (pv 2))) pe_int))))), ?_⟩
    refine ⟨_, rfl, k, rfl, by omega, by omega, fun D hD => lc_rng (n := k) (fun t H' => H' = upd H D (.lst (lowI i t))) rfl ?_ ?_⟩
    · rintro t H' ht rfl
      refine ⟨rfl, _, rfl, _, rfl, _, _, rfl, rfl, .inl (by decide), i, 8 * t, rfl, by congr 1, _, 8, rfl, rfl, _, upd_same, szk (by unfold lowI; rw [List.length_map, List.length_range]; omega), ?_⟩
      rw [upd_upd]
      unfold lowI
      rw [List.range_succ, List.map_append]
      rfl
    · rintro H' rfl
      exact q D hD
theorem h_low_octets (T : TxtX K mg) (F : Fs K mg "low_octets" s_low_octets) : DefH P w K mg base 1 "low_octets" ["number", "many"] (Sp2 fLow) :=
  def_H F sc_low_octets bd_low_octets fun f cdv A outer s H vs Q E p hc hr h => by
    obtain ⟨_, _, rfl, i, k, rfl, rfl, hk, q⟩ := h
    refine ⟨_, (pss_one (ps_ret (pe_lcH (own := [("turn", 2)]) (g := (gName 2)) (tt := tYes) hc sc_low_octets.nd (pi_range1H rfl T.z_range (pa_cons (pv 1) pa_nil)) (blkOk_by (N := ["number", "many", "turn"]) (sc := defScope s_low_octets) (by decide +kernel)) (fun _ _ _ _ _ => (pg_name (i := 2) sc_low_octets.nd rfl (Or.inl rfl))) (fun _ _ _ _ _ => pts_nil) (fun _ _ _ _ _ => (pe_op op_andM (pe_op op_shrN (pv 0) (pe_op op_mul pe_int (pv 2))) pe_int))))), ?_⟩
    refine ⟨_, rfl, k, rfl, by omega, by omega, fun D hD => lc_rng (n := k) (fun t H' => H' = upd H D (.lst (lowI i t))) rfl ?_ ?_⟩
    · rintro t H' ht rfl
      refine ⟨rfl, _, rfl, _, rfl, _, _, rfl, rfl, .inl (by decide), i, 8 * t, rfl, by congr 1, _, 8, rfl, rfl, _, upd_same, szk (by unfold lowI; rw [List.length_map, List.length_range]; omega), ?_⟩
      rw [upd_upd]
      unfold lowI
      rw [List.range_succ, List.map_append]
      rfl
    · rintro H' rfl
      exact q D hD
def fWText : V → Hp → VK → XK → Prop := fun a H Q _ => ∃ G l o, a = .ref l ∧ H l = some (.lst (octV o)) ∧ Same G H ∧ o.length ≤ 2000000 ∧ RetL G H (RWire.writeText o) Q
theorem d_written_text (T : TxtX K mg) (D_low_octets : DefOk P w K mg base CX0 1 "low_octets" ["number", "many"] (Sp2 fLow)) (F : Fs K mg "written_text" s_written_text) : DefOk P w K mg base CX0 2 "written_text" ["octets"] (Sp1 fWText) :=
  def_C F sc_written_text bd_written_text fun f cdv A outer s H vs Q E hr h => by
    obtain ⟨_, rfl, G, l, o, rfl, hl, hs, hz, q⟩ := h
    refine ⟨_, (pss_one (ps_ret (pe_op op_cat (pe_d D_low_octets (hr.mono (by decide)) pass0 (pa_cons (pe_callB call_len_seq (by rfl) T.z_len PySem.boot_len (pa_cons (pv 0) pa_nil)) (pa_cons pe_int pa_nil))) (pv 0)))), ?_⟩
    refine ⟨_, rfl, _, _, rfl, .inl (SqL.of hl), _, _, rfl, _, 4, rfl, rfl, by decide, fun D hD => ⟨_, rfl, D, l, _, _, rfl, rfl, upd_same, up_ne hl hD, szK ?_, fun E hE => ?_⟩⟩
    · unfold lowI
      rw [List.length_map, List.length_range, octV_len]
      omega
    · rw [octV_len, low_oct]
      have e1 := ((ExtF.refl (F := NoF) hs).mut (o := .lst (octV (RWire.low 4 o.length))) hD)
      rw [octV_len, low_oct] at hE
      have e2 := e1.mut (o := .lst (octV (RWire.low 4 o.length) ++ octV o)) hE
      exact q _ _ E e2 (e1.free hE) (by rw [upd_same, ← octV_app]; rfl)
theorem h_written_text (T : TxtX K mg) (HD_low_octets : DefH P w K mg base 1 "low_octets" ["number", "many"] (Sp2 fLow)) (F : Fs K mg "written_text" s_written_text) : DefH P w K mg base 2 "written_text" ["octets"] (Sp1 fWText) :=
  def_H F sc_written_text bd_written_text fun f cdv A outer s H vs Q E p hc hr h => by
    obtain ⟨_, rfl, G, l, o, rfl, hl, hs, hz, q⟩ := h
    refine ⟨_, (pss_one (ps_ret (pe_op op_cat (pe_dH HD_low_octets (hr.mono (by decide)) hc (pa_cons (pe_callB call_len_seq (by rfl) T.z_len PySem.boot_len (pa_cons (pv 0) pa_nil)) (pa_cons pe_int pa_nil))) (pv 0)))), ?_⟩
    refine ⟨_, rfl, _, _, rfl, .inl (SqL.of hl), _, _, rfl, _, 4, rfl, rfl, by decide, fun D hD => ⟨_, rfl, D, l, _, _, rfl, rfl, upd_same, up_ne hl hD, szK ?_, fun E hE => ?_⟩⟩
    · unfold lowI
      rw [List.length_map, List.length_range, octV_len]
      omega
    · rw [octV_len, low_oct]
      have e1 := ((ExtF.refl (F := NoF) hs).mut (o := .lst (octV (RWire.low 4 o.length))) hD)
      rw [octV_len, low_oct] at hE
      have e2 := e1.mut (o := .lst (octV (RWire.low 4 o.length) ++ octV o)) hE
      exact q _ _ E e2 (e1.free hE) (by rw [upd_same, ← octV_app]; rfl)
def WOk (n : Nat) (p : Plain) : Prop := Rust.narrow p = true ∧ RWire.depth (Rust.given p) ≤ n ∧ (RWire.write (Rust.given p)).length ≤ 2000000
def fWv (n : Nat) : V → Hp → VK → XK → Prop := fun a H Q _ => ∃ G p, Same G H ∧ AtV G p a ∧ WOk n p ∧ RetL G H (RWire.write (Rust.given p)) Q
def fWe (n : Nat) : V → Hp → VK → XK → Prop := fun a H Q _ => ∃ G l vs ps, a = .ref l ∧ G l = some (.lst vs) ∧ Same G H ∧ Paired (AtV G) ps vs ∧ Rust.narrowAll ps = true ∧ RWire.depthMany (Rust.givenAll ps) ≤ n ∧ (RWire.writeMany (Rust.givenAll ps)).length ≤ 2000000 ∧ RetL G H (RWire.writeCount ps.length ++ RWire.writeMany (Rust.givenAll ps)) Q
def fWm (n : Nat) : V → Hp → VK → XK → Prop := fun a H Q _ => ∃ G l vs fs, a = .ref l ∧ G l = some (.lst vs) ∧ Same G H ∧ Paired (MemAt G) fs vs ∧ Rust.narrowFields fs = true ∧ RWire.depthEntries (Rust.givenFields fs) ≤ n ∧ (RWire.writeEntries (Rust.givenFields fs)).length ≤ 2000000 ∧ RetL G H (RWire.writeCount fs.length ++ RWire.writeEntries (Rust.givenFields fs)) Q
theorem many_app : ∀ (a b : List Plain), RWire.writeMany (Rust.givenAll (a ++ b)) = RWire.writeMany (Rust.givenAll a) ++ RWire.writeMany (Rust.givenAll b)
  | [], b => rfl
  | x :: r, b => by
    show RWire.write (Rust.given x) ++ RWire.writeMany (Rust.givenAll (r ++ b)) = (RWire.write (Rust.given x) ++ RWire.writeMany (Rust.givenAll r)) ++ _
    rw [many_app r b, List.append_assoc]
theorem ents_app : ∀ (a b : List (Units × Plain)), RWire.writeEntries (Rust.givenFields (a ++ b)) = RWire.writeEntries (Rust.givenFields a) ++ RWire.writeEntries (Rust.givenFields b)
  | [], b => rfl
  | x :: r, b => by
    show RWire.writeText (x.1.map Rust.octetOf) ++ (RWire.write (Rust.given x.2) ++ RWire.writeEntries (Rust.givenFields (r ++ b))) = (RWire.writeText (x.1.map Rust.octetOf) ++ (RWire.write (Rust.given x.2) ++ RWire.writeEntries (Rust.givenFields r))) ++ _
    rw [ents_app r b, List.append_assoc, List.append_assoc]
theorem all_cut : ∀ {a : List Plain} {x : Plain} {b : List Plain} {n : Nat}, Rust.narrowAll (a ++ x :: b) = true → RWire.depthMany (Rust.givenAll (a ++ x :: b)) ≤ n → Rust.narrow x = true ∧ RWire.depth (Rust.given x) ≤ n
  | [], x, b, n, h, d => by
    have h' : (Rust.narrow x && Rust.narrowAll b) = true := h
    have d' : Nat.max (RWire.depth (Rust.given x)) (RWire.depthMany (Rust.givenAll b)) ≤ n := d
    rw [Bool.and_eq_true] at h'
    exact ⟨h'.1, Nat.le_trans (Nat.le_max_left _ _) d'⟩
  | y :: a, x, b, n, h, d => by
    have h' : (Rust.narrow y && Rust.narrowAll (a ++ x :: b)) = true := h
    have d' : Nat.max (RWire.depth (Rust.given y)) (RWire.depthMany (Rust.givenAll (a ++ x :: b))) ≤ n := d
    rw [Bool.and_eq_true] at h'
    exact all_cut h'.2 (Nat.le_trans (Nat.le_max_right _ _) d')
theorem ents_cut : ∀ {a : List (Units × Plain)} {x : Units × Plain} {b : List (Units × Plain)} {n : Nat}, Rust.narrowFields (a ++ x :: b) = true → RWire.depthEntries (Rust.givenFields (a ++ x :: b)) ≤ n → Rust.narrowText x.1 = true ∧ Rust.narrow x.2 = true ∧ RWire.depth (Rust.given x.2) ≤ n
  | [], x, b, n, h, d => by
    have h' : (Rust.narrowText x.1 && (Rust.narrow x.2 && Rust.narrowFields b)) = true := h
    have d' : Nat.max (RWire.depth (Rust.given x.2)) (RWire.depthEntries (Rust.givenFields b)) ≤ n := d
    rw [Bool.and_eq_true, Bool.and_eq_true] at h'
    exact ⟨h'.1, h'.2.1, Nat.le_trans (Nat.le_max_left _ _) d'⟩
  | y :: a, x, b, n, h, d => by
    have h' : (Rust.narrowText y.1 && (Rust.narrow y.2 && Rust.narrowFields (a ++ x :: b))) = true := h
    have d' : Nat.max (RWire.depth (Rust.given y.2)) (RWire.depthEntries (Rust.givenFields (a ++ x :: b))) ≤ n := d
    rw [Bool.and_eq_true, Bool.and_eq_true] at h'
    exact ents_cut h'.2.2 (Nat.le_trans (Nat.le_max_right _ _) d')
theorem low_len : ∀ k n, (RWire.low k n).length = k
  | 0, _ => rfl
  | k + 1, n => by
    show (RWire.low k (n / 256)).length + 1 = k + 1
    rw [low_len k]
abbrev WvOk (P : Program) (w : World) (K : PySem.W.Frag) (mg : Str → Option Value) (base : Heap) (n : Nat) : Prop := DefOk P w K mg base CX0 (2 * n + 3) "written_value" ["value"] (Sp1 (fWv n))
theorem d_written_elements (T : TxtX K mg) {n : Nat} (D_low_octets : DefOk P w K mg base CX0 1 "low_octets" ["number", "many"] (Sp2 fLow)) (D_written_value : WvOk P w K mg base n) (F : Fs K mg "written_elements" s_written_elements) : DefOk P w K mg base CX0 (2 * n + 4) "written_elements" ["values"] (Sp1 (fWe n)) :=
  def_C F sc_written_elements bd_written_elements fun f cdv A outer s H vs Q E hr h => by
    obtain ⟨_, rfl, G, l, xs, ps, rfl, gl, hs, pd, hn, hd, hz, q⟩ := h
    refine ⟨_, (pss_cons (ps_set (i := 1) sc_written_elements.nd rfl (Or.inl rfl) (pe_d D_low_octets (hr.mono (by omega)) pass0 (pa_cons (pe_callB call_len_seq (by rfl) T.z_len PySem.boot_len (pa_cons (pv 0) pa_nil)) (pa_cons pe_int pa_nil)))) (pss_cons (ps_for PassesOwn.never rfl (pi_list (pv 0)) (pg_name (i := 2) sc_written_elements.nd rfl (Or.inl rfl)) (pss_one (ps_expr (pe_bm PySem.F.plainAttrs_list PySem.F.slot_list_extend PySem.F.type_list_extend mt_extend (pv 1) (pa_cons (pe_d D_written_value (hr.mono (by omega)) pass0 (pa_cons (pv 2) pa_nil)) pa_nil))))) (pss_one (ps_ret (pv 1))))), ?_⟩
    have hl := hs _ _ gl
    have len := Pd.len pd
    refine ⟨_, rfl, _, _, rfl, .inl (SqL.of hl), _, _, rfl, _, 4, rfl, rfl, by decide, fun D hD => ?_⟩
    rw [low_oct, ← len]
    have e0 := (ExtF.refl (F := NoF) hs).mut (o := .lst (octV (RWire.low 4 ps.length))) hD
    refine ⟨_, rfl, l, rfl, ⟨_, SqL.of (e0.same _ _ hl)⟩, for_run (K := K) (a := l) (xs := xs)
      (fun r σ H' => (∃ x2, σ = [some (.ref l), some (.ref D), x2]) ∧ ∃ pre rest G1, pre ++ rest = ps ∧ Paired (AtV G) rest r ∧ Ext G H G1 H' ∧ G1 D = none ∧ H' D = some (.lst (octV (RWire.writeCount ps.length ++ RWire.writeMany (Rust.givenAll pre))))) ?_ ?_ ?_ ?_⟩
    · refine ⟨⟨_, rfl⟩, [], ps, G, rfl, pd, e0, Same.none hs hD, ?_⟩
      rw [upd_same]
      show _ = some (HO.lst (octV (RWire.low 4 ps.length ++ [])))
      rw [List.append_nil]
    · rintro r σ H' ⟨_, pre, rest, G1, _, _, e, _⟩
      exact SqL.of (e.same _ _ hl)
    · rintro t r σ H' ⟨⟨x2, rfl⟩, pre, rest, G1, e1, pr, e, g1, h1⟩
      cases pr with
      | cons hm pr =>
      rename_i m rest
      subst e1
      obtain ⟨n1, n2⟩ := all_cut hn hd
      rw [many_app] at hz
      have hz2 : (RWire.writeMany (Rust.givenAll pre) ++ (RWire.write (Rust.given m) ++ RWire.writeMany (Rust.givenAll rest))).length ≤ 2000000 := hz
      rw [List.length_append, List.length_append] at hz2
      have lD : H' D ≠ none := ne_of_some h1
      refine ⟨_, rfl, .inl ⟨rfl, _, SqL.of h1⟩, _, rfl, _, rfl, G1, m, e.sub, hm.mono e.g, ⟨n1, n2, by omega⟩, fun G2 H2 E e2 he h2 => ⟨D, E, _, _, rfl, rfl, e2.same _ _ h1, h2, szK ?_, ?_⟩⟩
      · rw [octV_len, octV_len, List.length_append]
        have : (RWire.writeCount (pre ++ m :: rest).length).length = 4 := low_len 4 _
        omega
      · refine ⟨⟨_, rfl⟩, pre ++ [m], rest, G2, by rw [List.append_assoc]; rfl, pr, (e.trans e2).write (.inl hD) (e2.live D lD) (e2.gnone lD g1), e2.gnone lD g1, ?_⟩
        rw [upd_same, many_app, ← octV_app, List.append_assoc]
        show _ = some (HO.lst (octV (RWire.writeCount _ ++ (RWire.writeMany (Rust.givenAll pre) ++ (RWire.write (Rust.given m) ++ [])))))
        rw [List.append_nil]
    · rintro σ H' ⟨⟨x2, rfl⟩, pre, rest, G1, e1, pr, e, g1, h1⟩
      cases pr
      rw [List.append_nil] at e1
      subst e1
      exact ⟨_, rfl, q G1 H' D e hD h1⟩
theorem d_written_members (T : TxtX K mg) {n : Nat} (D_low_octets : DefOk P w K mg base CX0 1 "low_octets" ["number", "many"] (Sp2 fLow)) (D_written_text : DefOk P w K mg base CX0 2 "written_text" ["octets"] (Sp1 fWText)) (D_written_value : WvOk P w K mg base n) (F : Fs K mg "written_members" s_written_members) : DefOk P w K mg base CX0 (2 * n + 4) "written_members" ["members"] (Sp1 (fWm n)) :=
  def_C F sc_written_members bd_written_members fun f cdv A outer s H vs Q E hr h => by
    obtain ⟨_, rfl, G, l, xs, ps, rfl, gl, hs, pd, hn, hd, hz, q⟩ := h
    refine ⟨_, (pss_cons (ps_set (i := 1) sc_written_members.nd rfl (Or.inl rfl) (pe_d D_low_octets (hr.mono (by omega)) pass0 (pa_cons (pe_callB call_len_seq (by rfl) T.z_len PySem.boot_len (pa_cons (pv 0) pa_nil)) (pa_cons pe_int pa_nil)))) (pss_cons (ps_for PassesOwn.never rfl (pi_list (pv 0)) (pg_tup rfl (pgs_cons (pg_name (i := 2) sc_written_members.nd rfl (Or.inl rfl)) (pgs_cons (pg_name (i := 3) sc_written_members.nd rfl (Or.inl rfl)) pgs_nil))) (pss_cons (ps_expr (pe_bm PySem.F.plainAttrs_list PySem.F.slot_list_extend PySem.F.type_list_extend mt_extend (pv 1) (pa_cons (pe_d D_written_text (hr.mono (by omega)) pass0 (pa_cons (pv 2) pa_nil)) pa_nil))) (pss_one (ps_expr (pe_bm PySem.F.plainAttrs_list PySem.F.slot_list_extend PySem.F.type_list_extend mt_extend (pv 1) (pa_cons (pe_d D_written_value (hr.mono (by omega)) pass0 (pa_cons (pv 3) pa_nil)) pa_nil)))))) (pss_one (ps_ret (pv 1))))), ?_⟩
    have hl := hs _ _ gl
    have len := Pd.len pd
    refine ⟨_, rfl, _, _, rfl, .inl (SqL.of hl), _, _, rfl, _, 4, rfl, rfl, by decide, fun D hD => ?_⟩
    rw [low_oct, ← len]
    have e0 := (ExtF.refl (F := NoF) hs).mut (o := .lst (octV (RWire.low 4 ps.length))) hD
    refine ⟨_, rfl, l, rfl, ⟨_, SqL.of (e0.same _ _ hl)⟩, for_run (K := K) (a := l) (xs := xs)
      (fun r σ H' => (∃ x2 x3, σ = [some (.ref l), some (.ref D), x2, x3]) ∧ ∃ pre rest G1, pre ++ rest = ps ∧ Paired (MemAt G) rest r ∧ Ext G H G1 H' ∧ G1 D = none ∧ H' D = some (.lst (octV (RWire.writeCount ps.length ++ RWire.writeEntries (Rust.givenFields pre))))) ?_ ?_ ?_ ?_⟩
    · refine ⟨⟨_, _, rfl⟩, [], ps, G, rfl, pd, e0, Same.none hs hD, ?_⟩
      rw [upd_same]
      show _ = some (HO.lst (octV (RWire.low 4 ps.length ++ [])))
      rw [List.append_nil]
    · rintro r σ H' ⟨_, pre, rest, G1, _, _, e, _⟩
      exact SqL.of (e.same _ _ hl)
    · rintro t r σ H' ⟨⟨x2, x3, rfl⟩, pre, rest, G1, e1, pr, e, g1, h1⟩
      cases pr with
      | cons hm pr =>
      rename_i m rest
      subst e1
      obtain ⟨n0, n1, n2⟩ := ents_cut hn hd
      obtain ⟨a, ln, x, rfl, m1, m2, m3⟩ := hm
      rw [ents_app] at hz
      have hz2 : (RWire.writeEntries (Rust.givenFields pre) ++ (RWire.writeText (m.1.map Rust.octetOf) ++ (RWire.write (Rust.given m.2) ++ RWire.writeEntries (Rust.givenFields rest)))).length ≤ 2000000 := hz
      rw [List.length_append, List.length_append, List.length_append] at hz2
      have lt : (RWire.writeText (m.1.map Rust.octetOf)).length = 4 + m.1.length := by
        show (RWire.low 4 _ ++ _).length = _
        rw [List.length_append, low_len, List.length_map]
      have l4 : (RWire.writeCount (pre ++ m :: rest).length).length = 4 := low_len 4 _
      have lD : H' D ≠ none := ne_of_some h1
      have hln : H' ln = some (.lst (octV (m.1.map Rust.octetOf))) := by
        rw [← ulst_oct n0]
        exact e.same _ _ (hs _ _ m2)
      refine ⟨a, _, rfl, SqT.of (e.same _ _ (hs _ _ m1)), rfl, _, _, rfl, _, _, rfl, rfl, _, rfl, .inl ⟨rfl, _, SqL.of h1⟩, _, rfl, _, rfl, G1, ln, _, rfl, hln, e.sub, by rw [List.length_map]; omega, fun G2 H2 E e2 he h2 => ⟨D, E, _, _, rfl, rfl, e2.same _ _ h1, h2, szK ?_, ?_⟩⟩
      · rw [octV_len, octV_len, List.length_append]
        omega
      have ew := (e.trans e2).write (o := .lst (octV (RWire.writeCount (pre ++ m :: rest).length ++ RWire.writeEntries (Rust.givenFields pre)) ++ octV (RWire.writeText (m.1.map Rust.octetOf)))) (.inl hD) (e2.live D lD) (e2.gnone lD g1)
      have g2 := e2.gnone lD g1
      refine ⟨_, rfl, .inl ⟨rfl, _, SqL.of upd_same⟩, _, rfl, _, rfl, G2, m.2, ew.sub, m3.mono (e.g.trans e2.g), ⟨n1, n2, by omega⟩, fun G3 H3 E3 e3 he3 h3 => ⟨D, E3, _, _, rfl, rfl, e3.same _ _ upd_same, h3, szK ?_, ?_⟩⟩
      · rw [List.length_append, octV_len, octV_len, octV_len, List.length_append]
        omega
      · have lD3 := ne_of_some (upd_same (H := H2) (a := D) (o := .lst (octV (RWire.writeCount (pre ++ m :: rest).length ++ RWire.writeEntries (Rust.givenFields pre)) ++ octV (RWire.writeText (m.1.map Rust.octetOf)))))
        refine ⟨⟨_, _, rfl⟩, pre ++ [m], rest, G3, by rw [List.append_assoc]; rfl, pr, (ew.trans e3).write (.inl hD) (e3.live D lD3) (e3.gnone lD3 g2), e3.gnone lD3 g2, ?_⟩
        rw [upd_same, ents_app, ← octV_app, ← octV_app, List.append_assoc, List.append_assoc]
        show _ = some (HO.lst (octV (RWire.writeCount _ ++ (RWire.writeEntries (Rust.givenFields pre) ++ (RWire.writeText (m.1.map Rust.octetOf) ++ (RWire.write (Rust.given m.2) ++ []))))))
        rw [List.append_nil]
    · rintro σ H' ⟨⟨x2, x3, rfl⟩, pre, rest, G1, e1, pr, e, g1, h1⟩
      cases pr
      rw [List.append_nil] at e1
      subst e1
      exact ⟨_, rfl, q G1 H' D e hD h1⟩
theorem given_len : ∀ xs : List Plain, (Rust.givenAll xs).length = xs.length
  | [] => rfl
  | _ :: r => congrArg Nat.succ (given_len r)
theorem givenF_len : ∀ xs : List (Units × Plain), (Rust.givenFields xs).length = xs.length
  | [] => rfl
  | _ :: r => congrArg Nat.succ (givenF_len r)
theorem depth_pos : ∀ v : RWire.Value, 1 ≤ RWire.depth v
  | .nothing => Nat.le_refl _
  | .null => Nat.le_refl _
  | .bool _ => Nat.le_refl _
  | .int _ => Nat.le_refl _
  | .big _ => Nat.le_refl _
  | .text _ => Nat.le_refl _
  | .octets _ => Nat.le_refl _
  | .wide _ => Nat.le_refl _
  | .list l => Nat.succ_le_succ (Nat.zero_le _)
  | .record l => Nat.succ_le_succ (Nat.zero_le _)
theorem many_len : ∀ ps : List Plain, ps.length ≤ (RWire.writeMany (Rust.givenAll ps)).length
  | [] => Nat.le_refl _
  | x :: r => by
    show r.length + 1 ≤ (RWire.write (Rust.given x) ++ RWire.writeMany (Rust.givenAll r)).length
    have := many_len r
    have h1 : 1 ≤ (RWire.write (Rust.given x)).length := by
      cases x with
      | str u => exact Nat.succ_le_succ (Nat.zero_le _)
      | _ => exact Nat.succ_le_succ (Nat.zero_le _)
    rw [List.length_append]
    omega
theorem ents_len : ∀ ps : List (Units × Plain), ps.length ≤ (RWire.writeEntries (Rust.givenFields ps)).length
  | [] => Nat.le_refl _
  | x :: r => by
    show r.length + 1 ≤ (RWire.writeText (x.1.map Rust.octetOf) ++ (RWire.write (Rust.given x.2) ++ RWire.writeEntries (Rust.givenFields r))).length
    have := ents_len r
    have h4 : (RWire.writeText (x.1.map Rust.octetOf)).length = 4 + x.1.length := by
      show (RWire.low 4 _ ++ _).length = _
      rw [List.length_append, low_len, List.length_map]
    rw [List.length_append, List.length_append]
    omega
theorem d_written_value (T : TxtX K mg) {n : Nat} (D_low_octets : DefOk P w K mg base CX0 1 "low_octets" ["number", "many"] (Sp2 fLow)) (D_written_text : DefOk P w K mg base CX0 2 "written_text" ["octets"] (Sp1 fWText)) (D_written_elements : DefOk P w K mg base CX0 (2 * n + 4) "written_elements" ["values"] (Sp1 (fWe n)))
    (D_written_members : DefOk P w K mg base CX0 (2 * n + 4) "written_members" ["members"] (Sp1 (fWm n))) (F : Fs K mg "written_value" s_written_value) : WvOk P w K mg base (n + 1) :=
  def_C (k := 2 * n + 4) F sc_written_value bd_written_value fun f cdv A outer s H vs Q E hr h => by
    obtain ⟨_, rfl, G, p, hs, hp, ⟨hn, hd, hz⟩, q⟩ := h
    refine ⟨_, (pss_cons (ps_asg (pv 0) (pg_tup rfl (pgs_cons (pg_name (i := 1) sc_written_value.nd rfl (Or.inl rfl)) (pgs_cons (pg_name (i := 2) sc_written_value.nd rfl (Or.inl rfl)) pgs_nil)))) (pss_cons (ps_if (pt_cmpR op_eq (pv 1) (pe_gi T.i_INTEGER) (nomark _)) (pss_one (ps_ret (pe_op op_cat (pe_lst (pa_cons (pv 1) pa_nil)) (pe_d D_low_octets (hr.mono (by omega)) pass0 (pa_cons (pv 2) (pa_cons pe_int pa_nil)))))) pss_nil) (pss_cons (ps_if (pt_cmpR op_eq (pv 1) (pe_gi T.i_TEXT) (nomark _)) (pss_one (ps_ret (pe_op op_cat (pe_lst (pa_cons (pv 1) pa_nil)) (pe_d D_written_text (hr.mono (by omega)) pass0 (pa_cons (pv 2) pa_nil))))) pss_nil) (pss_cons (ps_if (pt_cmpR op_eq (pv 1) (pe_gi T.i_LIST) (nomark _)) (pss_one (ps_ret (pe_op op_cat (pe_lst (pa_cons (pv 1) pa_nil)) (pe_d D_written_elements (hr.mono (by omega)) pass0 (pa_cons (pv 2) pa_nil))))) pss_nil) (pss_cons (ps_if (pt_cmpR op_eq (pv 1) (pe_gi T.i_RECORD) (nomark _)) (pss_one (ps_ret (pe_op op_cat (pe_lst (pa_cons (pv 1) pa_nil)) (pe_d D_written_members (hr.mono (by omega)) pass0 (pa_cons (pv 2) pa_nil))))) pss_nil) (pss_one (ps_ret (pe_lst (pa_cons (pv 1) pa_nil))))))))), ?_⟩
    -- [kind] + more
    have cat : ∀ {k : UInt8} {o : List UInt8} {Ek : V}, Ek = V.int (k.toNat : Int) → RetL G H (k :: o) Q → ∀ l, H l = none → (∀ G1 H1 D, Ext G (upd H l (.lst [Ek])) G1 H1 → upd H l (.lst [Ek]) D = none → H1 D = some (.lst (octV o)) → o.length ≤ 2000000 →
        ∃ a b xs zs, V.ref l = .ref a ∧ V.ref D = .ref b ∧ H1 a = some (.lst xs) ∧ H1 b = some (.lst zs) ∧ xs.length + zs.length ≤ sizeLine ∧ ∀ p, H1 p = none → Q (.ref p) (upd H1 p (.lst (xs ++ zs)))) := fun {k o Ek} ek r l hl G1 H1 D e1 hD h1 hz => by
      have h0 := e1.same _ _ (upd_same (H := H) (a := l) (o := .lst [Ek]))
      refine ⟨l, D, _, _, rfl, rfl, h0, h1, szK (by rw [octV_len, List.length_singleton]; omega), fun p hp => ?_⟩
      have e0 := (ExtF.refl (F := NoF) hs).mut (o := .lst [Ek]) hl
      have e2 := (e0.trans e1).mut (o := .lst ([Ek] ++ octV o)) hp
      refine r _ _ p e2 ((e0.trans e1).free hp) ?_
      rw [upd_same, ek]
      rfl
    cases p with
    | undef =>
      obtain ⟨a, rfl, ha⟩ := hp
      exact ⟨_, rfl, a, _, rfl, SqT.of (hs _ _ ha), rfl, _, _, rfl, _, _, rfl, rfl, _, rfl, rfl, _, rfl, iteF ⟨_, rfl, rfl, _, rfl, iteF ⟨_, rfl, rfl, _, rfl, iteF ⟨_, rfl, rfl, _, rfl, iteF ⟨_, rfl, sz1, fun l hl => q _ _ _ ((ExtF.refl hs).mut hl) hl upd_same⟩⟩⟩⟩⟩
    | null =>
      obtain ⟨a, rfl, ha⟩ := hp
      exact ⟨_, rfl, a, _, rfl, SqT.of (hs _ _ ha), rfl, _, _, rfl, _, _, rfl, rfl, _, rfl, rfl, _, rfl, iteF ⟨_, rfl, rfl, _, rfl, iteF ⟨_, rfl, rfl, _, rfl, iteF ⟨_, rfl, rfl, _, rfl, iteF ⟨_, rfl, sz1, fun l hl => q _ _ _ ((ExtF.refl hs).mut hl) hl upd_same⟩⟩⟩⟩⟩
    | bool b =>
      obtain ⟨a, rfl, ha⟩ := hp
      cases b with
      | true => exact ⟨_, rfl, a, _, rfl, SqT.of (hs _ _ ha), rfl, _, _, rfl, _, _, rfl, rfl, _, rfl, rfl, _, rfl, iteF ⟨_, rfl, rfl, _, rfl, iteF ⟨_, rfl, rfl, _, rfl, iteF ⟨_, rfl, rfl, _, rfl, iteF ⟨_, rfl, sz1, fun l hl => q _ _ _ ((ExtF.refl hs).mut hl) hl upd_same⟩⟩⟩⟩⟩
      | false => exact ⟨_, rfl, a, _, rfl, SqT.of (hs _ _ ha), rfl, _, _, rfl, _, _, rfl, rfl, _, rfl, rfl, _, rfl, iteF ⟨_, rfl, rfl, _, rfl, iteF ⟨_, rfl, rfl, _, rfl, iteF ⟨_, rfl, rfl, _, rfl, iteF ⟨_, rfl, sz1, fun l hl => q _ _ _ ((ExtF.refl hs).mut hl) hl upd_same⟩⟩⟩⟩⟩
    | num x =>
      obtain ⟨a, i, rfl, rfl, ha⟩ := hp
      have q : RetL G H (4 :: RWire.writeInt i) Q := q
      refine ⟨_, rfl, a, _, rfl, SqT.of (hs _ _ ha), rfl, _, _, rfl, _, _, rfl, rfl, _, rfl, rfl, _, rfl, iteT ⟨_, rfl, sz1, fun l hl => ⟨_, rfl, _, _, rfl, i, 8, rfl, rfl, by decide, fun D hD => ?_⟩⟩⟩
      have e0 := (ExtF.refl (F := NoF) hs).mut (o := .lst [V.int 4]) hl
      rw [low_int]
      exact cat (k := 4) rfl q l hl G _ D ((ExtF.refl e0.sub).mut hD) hD upd_same (by unfold RWire.writeInt; rw [low_len]; decide)
    | str u =>
      obtain ⟨a, c, rfl, ha, hc⟩ := hp
      have nt : Rust.narrowText u = true := hn
      have q : RetL G H (6 :: RWire.writeText (u.map Rust.octetOf)) Q := q
      have hz : (6 :: RWire.writeText (u.map Rust.octetOf)).length ≤ 2000000 := hz
      have lt : (RWire.writeText (u.map Rust.octetOf)).length = 4 + u.length := by
        show (RWire.low 4 _ ++ _).length = _
        rw [List.length_append, low_len, List.length_map]
      rw [List.length_cons, lt] at hz
      refine ⟨_, rfl, a, _, rfl, SqT.of (hs _ _ ha), rfl, _, _, rfl, _, _, rfl, rfl, _, rfl, rfl, _, rfl, iteF ⟨_, rfl, rfl, _, rfl, iteT ⟨_, rfl, sz1, fun l hl => ⟨_, rfl, ?_⟩⟩⟩⟩
      have e0 := (ExtF.refl (F := NoF) hs).mut (o := .lst [V.int 6]) hl
      refine ⟨_, rfl, G, c, u.map Rust.octetOf, rfl, ?_, e0.sub, by rw [List.length_map]; omega, fun G1 H1 D e1 hD h1 => cat (k := 6) rfl q l hl G1 H1 D e1 hD h1 (by rw [lt]; omega)⟩
      rw [← ulst_oct nt]
      exact e0.sub _ _ hc
    | arr xs =>
      obtain ⟨a, c, ys, rfl, ha, hc, hL⟩ := hp
      have q : RetL G H (7 :: (RWire.writeCount (Rust.givenAll xs).length ++ RWire.writeMany (Rust.givenAll xs))) Q := q
      have hz : (7 :: (RWire.writeCount (Rust.givenAll xs).length ++ RWire.writeMany (Rust.givenAll xs))).length ≤ 2000000 := hz
      have hn : Rust.narrowAll xs = true := hn
      have hd : RWire.depthMany (Rust.givenAll xs) + 1 ≤ n + 1 := hd
      have l4 : (RWire.writeCount (Rust.givenAll xs).length).length = 4 := low_len 4 _
      have ml := many_len xs
      rw [List.length_cons, List.length_append, l4] at hz
      rw [given_len] at q
      refine ⟨_, rfl, a, _, rfl, SqT.of (hs _ _ ha), rfl, _, _, rfl, _, _, rfl, rfl, _, rfl, rfl, _, rfl, iteF ⟨_, rfl, rfl, _, rfl, iteF ⟨_, rfl, rfl, _, rfl, iteT ⟨_, rfl, sz1, fun l hl => ⟨_, rfl, ?_⟩⟩⟩⟩⟩
      have e0 := (ExtF.refl (F := NoF) hs).mut (o := .lst [V.int 7]) hl
      exact ⟨_, rfl, G, c, ys, xs, rfl, hc, e0.sub, hL.pd, hn, by omega, by omega, fun G1 H1 D e1 hD h1 => cat (k := 7) rfl q l hl G1 H1 D e1 hD h1 (by rw [List.length_append, show (RWire.writeCount xs.length).length = 4 from low_len 4 _]; omega)⟩
    | obj fs =>
      obtain ⟨a, c, ys, rfl, ha, hc, hL⟩ := hp
      have q : RetL G H (8 :: (RWire.writeCount (Rust.givenFields fs).length ++ RWire.writeEntries (Rust.givenFields fs))) Q := q
      have hz : (8 :: (RWire.writeCount (Rust.givenFields fs).length ++ RWire.writeEntries (Rust.givenFields fs))).length ≤ 2000000 := hz
      have hn : Rust.narrowFields fs = true := hn
      have hd : RWire.depthEntries (Rust.givenFields fs) + 1 ≤ n + 1 := hd
      have l4 : (RWire.writeCount (Rust.givenFields fs).length).length = 4 := low_len 4 _
      have ml := ents_len fs
      rw [List.length_cons, List.length_append, l4] at hz
      rw [givenF_len] at q
      refine ⟨_, rfl, a, _, rfl, SqT.of (hs _ _ ha), rfl, _, _, rfl, _, _, rfl, rfl, _, rfl, rfl, _, rfl, iteF ⟨_, rfl, rfl, _, rfl, iteF ⟨_, rfl, rfl, _, rfl, iteF ⟨_, rfl, rfl, _, rfl, iteT ⟨_, rfl, sz1, fun l hl => ⟨_, rfl, ?_⟩⟩⟩⟩⟩⟩
      have e0 := (ExtF.refl (F := NoF) hs).mut (o := .lst [V.int 8]) hl
      exact ⟨_, rfl, G, c, ys, fs, rfl, hc, e0.sub, hL.pd, hn, by omega, by omega, fun G1 H1 D e1 hD h1 => cat (k := 8) rfl q l hl G1 H1 D e1 hD h1 (by rw [List.length_append, show (RWire.writeCount fs.length).length = 4 from low_len 4 _]; omega)⟩
    | big _ => exact hp.elim
theorem wv_all (T : TxtX K mg) (D_low_octets : DefOk P w K mg base CX0 1 "low_octets" ["number", "many"] (Sp2 fLow)) (D_written_text : DefOk P w K mg base CX0 2 "written_text" ["octets"] (Sp1 fWText)) (Fv : Fs K mg "written_value" s_written_value) (Fe : Fs K mg "written_elements" s_written_elements) (Fm : Fs K mg "written_members" s_written_members) : ∀ n, WvOk P w K mg base n
  | 0 => DefOk.mono (def_C (k := 0) Fv sc_written_value bd_written_value fun f cdv A outer s H vs Q E hr h => by
      obtain ⟨_, _, G, p, _, _, ⟨_, hd, _⟩, _⟩ := h
      have := depth_pos (Rust.given p)
      omega) (by decide)
  | n + 1 =>
    have D := wv_all T D_low_octets D_written_text Fv Fe Fm n
    d_written_value T D_low_octets D_written_text (d_written_elements T D_low_octets D Fe) (d_written_members T D_low_octets D_written_text D Fm) Fv
def fWReturn : V → Hp → VK → XK → Prop := fun a H Q _ => ∃ G p, Same G H ∧ AtV G p a ∧ WOk 32 p ∧ RetL G H (0 :: RWire.write (Rust.given p)) Q
theorem d_written_return (T : TxtX K mg) (D_written_value : WvOk P w K mg base 32) (F : Fs K mg "written_return" s_written_return) : DefOk P w K mg base CX0 68 "written_return" ["value"] (Sp1 fWReturn) :=
  def_C F sc_written_return bd_written_return fun f cdv A outer s H vs Q E hr h => by
    obtain ⟨_, rfl, G, p, hs, hp, hw, q⟩ := h
    have hz := hw.2.2
    refine ⟨_, (pss_one (ps_ret (pe_op op_cat (pe_lst (pa_cons pe_int pa_nil)) (pe_d D_written_value (hr.mono (by decide)) pass0 (pa_cons (pv 0) pa_nil))))), ?_⟩
    refine ⟨sz1, fun l hl => ⟨_, rfl, _, rfl, G, p, ?_, hp, hw, fun G1 H1 D e1 hD h1 => ?_⟩⟩
    · exact ((ExtF.refl (F := NoF) hs).mut hl).sub
    have e0 := (ExtF.refl (F := NoF) hs).mut (o := .lst [V.int 0]) hl
    refine ⟨l, D, _, _, rfl, rfl, e1.same _ _ upd_same, h1, szK (by rw [octV_len, List.length_singleton]; omega), fun p hp => ?_⟩
    exact q _ _ p ((e0.trans e1).mut hp) ((e0.trans e1).free hp) (by rw [upd_same]; rfl)
theorem asc_oct {x : Str} (h : asc x = true) : nlst x.cps.toList = octV ((unitsOf x).map Rust.octetOf) := by
  unfold nlst octV unitsOf
  rw [List.map_map, List.map_map]
  refine List.map_congr_left fun c hc => ?_
  unfold asc at h
  rw [Array.all_eq_true_iff_forall_mem] at h
  have z := of_decide_eq_true (h c (Array.mem_def.mpr hc))
  show V.int (c : Int) = V.int ((UInt8.ofNat (UInt16.ofNat c).toNat).toNat : Int)
  rw [UInt8.toNat_ofNat', UInt16.toNat_ofNat', Nat.mod_eq_of_lt (by omega), Nat.mod_eq_of_lt (by omega)]
def fWRefusal : V → V → Hp → VK → XK → Prop := fun a b H Q _ => ∃ G, ∃ (c : Nat) (x : Str), a = .int (c : Int) ∧ c < 256 ∧ b = .str x ∧ asc x = true ∧ x.cps.size ≤ 1000 ∧ Same G H ∧ RetL G H (1 :: UInt8.ofNat c :: RWire.writeText ((unitsOf x).map Rust.octetOf)) Q
theorem h_written_refusal (T : TxtX K mg) (HD_octets_of : DefH P w K mg base 1 "octets_of" ["words"] (Sp1 fOctetsA)) (HD_written_text : DefH P w K mg base 2 "written_text" ["octets"] (Sp1 fWText)) (F : Fs K mg "written_refusal" s_written_refusal) : DefH P w K mg base 3 "written_refusal" ["place", "words"] (Sp2 fWRefusal) :=
  def_H F sc_written_refusal bd_written_refusal fun f cdv A outer s H vs Q E p hc hr h => by
    obtain ⟨_, _, rfl, G, c, x, rfl, hc', rfl, hx, hz, hs, q⟩ := h
    refine ⟨_, (pss_one (ps_ret (pe_op op_cat (pe_lst (pa_cons pe_int (pa_cons (pv 0) pa_nil))) (pe_dH HD_written_text (hr.mono (by decide)) hc (pa_cons (pe_dH HD_octets_of (hr.mono (by decide)) hc (pa_cons (pv 1) pa_nil)) pa_nil))))), ?_⟩
    have lz : ((unitsOf x).map Rust.octetOf).length = x.cps.size := by
      unfold unitsOf
      rw [List.length_map, List.length_map, Array.length_toList]
    refine ⟨_, rfl, sz2, fun l hl => ⟨_, rfl, _, rfl, x, rfl, hx, x, rfl, hz, fun lo hlo => ?_⟩⟩
    have e0 := (ExtF.refl (F := NoF) hs).mut (o := .lst [V.int 1, V.int (c : Int)]) hl
    have e1 := e0.mut (o := .lst (nlst x.cps.toList)) hlo
    refine ⟨_, rfl, G, lo, (unitsOf x).map Rust.octetOf, rfl, by rw [upd_same, asc_oct hx], e1.sub, by omega, fun G1 H1 D e2 hD h1 => ?_⟩
    have lt : (RWire.writeText ((unitsOf x).map Rust.octetOf)).length = 4 + x.cps.size := by
      show (RWire.low 4 _ ++ _).length = _
      rw [List.length_append, low_len, lz]
    refine ⟨l, D, _, _, rfl, rfl, e2.same _ _ (up_ne upd_same hlo), h1, szK (by rw [octV_len, lt]; show 2 + _ ≤ _; omega), fun p hp => ?_⟩
    refine q _ _ p ((e1.trans e2).mut hp) ((e1.trans e2).free hp) ?_
    rw [upd_same]
    have ec : V.int (c : Int) = V.int ((UInt8.ofNat c).toNat : Int) := by rw [UInt8.toNat_ofNat', Nat.mod_eq_of_lt (by omega)]
    rw [ec]
    rfl
def fWMal : Hp → VK → XK → Prop := fun H Q _ => ∀ D, H D = none → Q (.ref D) (upd H D (.lst [.int 2]))
theorem h_written_malformed (T : TxtX K mg) (F : Fs K mg "written_malformed" s_written_malformed) : DefH P w K mg base 1 "written_malformed" [] (Sp0 fWMal) :=
  def_H F sc_written_malformed bd_written_malformed fun f cdv A outer s H vs Q E p hc hr h => by
    obtain ⟨rfl, q⟩ := h
    refine ⟨_, (pss_one (ps_ret (pe_lst (pa_cons pe_int pa_nil)))), ?_⟩
    exact ⟨sz1, q⟩
end
end Ov
/-! S4: the plain law of reading octets. -/
namespace Ov
open RWire
theorem front_yes : ∀ {k : Nat} {b : Octets}, k ≤ b.length → front k b = some (b.take k, b.drop k)
  | 0, b, _ => by rw [front]; rfl
  | k + 1, [], h => absurd h (Nat.not_succ_le_zero k)
  | k + 1, a :: r, h => by
    rw [front, front_yes (Nat.le_of_succ_le_succ h)]
    rfl
theorem front_no : ∀ {k : Nat} {b : Octets}, b.length < k → front k b = none
  | 0, b, h => absurd h (Nat.not_lt_zero _)
  | k + 1, [], _ => by rw [front]
  | k + 1, a :: r, h => by
    rw [front, front_no (Nat.lt_of_succ_lt_succ h)]
theorem front_some {k : Nat} {b x r : Octets} (h : front k b = some (x, r)) : k ≤ b.length ∧ x = b.take k ∧ r = b.drop k := by
  by_cases c : k ≤ b.length
  · rw [front_yes c] at h
    cases h
    exact ⟨c, rfl, rfl⟩
  · rw [front_no (by omega)] at h
    cases h
theorem num_some {k n : Nat} {b r : Octets} (h : readNum k b = some (n, r)) : k ≤ b.length ∧ n = numOf (b.take k) ∧ r = b.drop k := by
  unfold readNum at h
  cases q : front k b with
  | none => rw [q] at h; cases h
  | some p =>
    rw [q] at h
    cases h
    obtain ⟨h1, h2, h3⟩ := front_some (x := p.1) (r := p.2) q
    exact ⟨h1, by rw [h2], h3⟩
theorem text_some {b u r : Octets} (h : readText b = some (u, r)) : 4 + numOf (b.take 4) ≤ b.length ∧ u = (b.drop 4).take (numOf (b.take 4)) ∧ r = b.drop (4 + numOf (b.take 4)) := by
  unfold readText at h
  cases q : readNum 4 b with
  | none => rw [q] at h; cases h
  | some p =>
    rw [q] at h
    obtain ⟨n, s⟩ := p
    obtain ⟨h1, h2, h3⟩ := num_some q
    obtain ⟨g1, g2, g3⟩ := front_some h
    subst h2 h3
    rw [List.length_drop] at g1
    exact ⟨by omega, g2, by rw [g3, List.drop_drop]⟩
theorem int_some {b r : Octets} {v : Value} (h : readInt b = some (v, r)) : 8 ≤ b.length ∧ v = .int (intOf (numOf (b.take 8))) ∧ (intOf (numOf (b.take 8))).natAbs ≤ intMost ∧ r = b.drop 8 := by
  unfold readInt at h
  cases q : readNum 8 b with
  | none => rw [q] at h; cases h
  | some p =>
    rw [q] at h
    obtain ⟨n, s⟩ := p
    obtain ⟨h1, h2, h3⟩ := num_some q
    subst h2 h3
    by_cases c : Nat.ble (intOf (numOf (b.take 8))).natAbs intMost = true
    · have h : (if Nat.ble (intOf (numOf (b.take 8))).natAbs intMost then some (Value.int (intOf (numOf (b.take 8))), b.drop 8) else none) = some (v, r) := h
      rw [if_pos c] at h
      cases h
      exact ⟨h1, rfl, Nat.le_of_ble_eq_true c, rfl⟩
    · have h : (if Nat.ble (intOf (numOf (b.take 8))).natAbs intMost then some (Value.int (intOf (numOf (b.take 8))), b.drop 8) else none) = some (v, r) := h
      rw [if_neg c] at h
      cases h
/-- what is read is eaten off the front -/
def Eats {α : Type} (m : Nat) (f : Octets → Option (α × Octets)) : Prop := ∀ l x r, f l = some (x, r) → ∃ j, m ≤ j ∧ j ≤ l.length ∧ r = l.drop j
theorem Eats.many {α : Type} {f : Octets → Option (α × Octets)} {m : Nat} (e : Eats m f) : ∀ n, Eats (m * n) (readMany f n)
  | 0, l, x, r, h => by
    rw [readMany] at h
    cases h
    exact ⟨0, by omega, Nat.zero_le _, rfl⟩
  | n + 1, l, x, r, h => by
    rw [readMany] at h
    cases q : f l with
    | none => rw [q] at h; cases h
    | some p =>
      rw [q] at h
      obtain ⟨y, s⟩ := p
      simp only at h
      cases q2 : readMany f n s with
      | none => rw [q2] at h; cases h
      | some p2 =>
        rw [q2] at h
        cases h
        obtain ⟨j1, h1, h2, rfl⟩ := e l y s q
        obtain ⟨j2, g1, g2, g3⟩ := Eats.many e n _ p2.1 p2.2 q2
        rw [List.length_drop] at g2
        exact ⟨j1 + j2, by rw [Nat.mul_succ]; omega, by omega, by rw [g3, List.drop_drop]⟩
theorem eats_text : Eats 4 readText := fun l x r h => by
  obtain ⟨h1, h2, h3⟩ := text_some h
  exact ⟨_, by omega, h1, h3⟩
theorem eats_entry {f : Octets → Option (Value × Octets)} {m : Nat} (e : Eats m f) : Eats (4 + m) (readEntry f) := fun l x r h => by
  unfold readEntry at h
  cases q : readText l with
  | none => rw [q] at h; cases h
  | some p =>
    rw [q] at h
    obtain ⟨y, s⟩ := p
    simp only at h
    cases q2 : f s with
    | none => rw [q2] at h; cases h
    | some p2 =>
      rw [q2] at h
      cases h
      obtain ⟨j1, h1, h2, rfl⟩ := eats_text l y s q
      obtain ⟨j2, g1, g2, g3⟩ := e _ p2.1 p2.2 q2
      rw [List.length_drop] at g2
      exact ⟨j1 + j2, by omega, by omega, by rw [g3, List.drop_drop]⟩
theorem list_some {f : Octets → Option (Value × Octets)} {b r : Octets} {v : Value} (h : readList f b = some (v, r)) : ∃ l, 4 ≤ b.length ∧ readMany f (numOf (b.take 4)) (b.drop 4) = some (l, r) ∧ v = .list l := by
  unfold readList at h
  cases q : readNum 4 b with
  | none => rw [q] at h; cases h
  | some p =>
    rw [q] at h
    obtain ⟨n, s⟩ := p
    obtain ⟨h1, h2, h3⟩ := num_some q
    subst h2 h3
    simp only at h
    cases q2 : readMany f (numOf (b.take 4)) (b.drop 4) with
    | none => rw [q2] at h; cases h
    | some p2 =>
      rw [q2] at h
      cases h
      exact ⟨p2.1, h1, rfl, rfl⟩
theorem record_some {f : Octets → Option (Value × Octets)} {b r : Octets} {v : Value} (h : readRecord f b = some (v, r)) : ∃ l, 4 ≤ b.length ∧ readMany (readEntry f) (numOf (b.take 4)) (b.drop 4) = some (l, r) ∧ apart l = true ∧ v = .record l := by
  unfold readRecord at h
  cases q : readNum 4 b with
  | none => rw [q] at h; cases h
  | some p =>
    rw [q] at h
    obtain ⟨n, s⟩ := p
    obtain ⟨h1, h2, h3⟩ := num_some q
    subst h2 h3
    simp only at h
    cases q2 : readMany (readEntry f) (numOf (b.take 4)) (b.drop 4) with
    | none => rw [q2] at h; cases h
    | some p2 =>
      rw [q2] at h
      simp only at h
      by_cases c : apart p2.1 = true
      · rw [if_pos c] at h
        cases h
        exact ⟨p2.1, h1, rfl, c, rfl⟩
      · rw [if_neg c] at h
        cases h
/-- kinds that this document has -/
def clean (v : Value) : Bool := noBig v && (noOctets v && noWide v)
/-- a value read where only such kinds are: the cases -/
inductive Read1 (f : Octets → Option (Value × Octets)) (r0 : Octets) (k : Nat) (v : Value) (r : Octets) : Prop
  | low (h : k ≤ 3) (hv : v = (if k = 0 then .nothing else if k = 1 then .null else .bool (k == 3))) (hr : r = r0)
  | int (h : k = 4) (q : readInt r0 = some (v, r))
  | text (h : k = 6) (u : Text) (q : readText r0 = some (u, r)) (hv : v = .text u)
  | list (h : k = 7) (q : readList f r0 = some (v, r))
  | record (h : k = 8) (q : readRecord f r0 = some (v, r))
theorem eats_big {l r : Octets} {x : Value} (h : readBig l = some (x, r)) : ∃ j, j ≤ l.length ∧ r = l.drop j := by
  cases l with
  | nil => rw [readBig] at h; cases h
  | cons s l =>
    rw [readBig] at h
    cases q : readNum 4 l with
    | none => rw [q] at h; cases h
    | some p =>
      rw [q] at h
      obtain ⟨n, t⟩ := p
      obtain ⟨h1, _, h3⟩ := num_some q
      subst h3
      simp only at h
      cases q2 : front n (l.drop 4) with
      | none => rw [q2] at h; cases h
      | some p2 =>
        rw [q2] at h
        obtain ⟨y, u⟩ := p2
        obtain ⟨g1, _, g3⟩ := front_some q2
        simp only at h
        cases q3 : bigOf s y with
        | none => rw [q3] at h; cases h
        | some i =>
          rw [q3] at h
          cases h
          rw [List.length_drop] at g1
          exact ⟨n + 4 + 1, by rw [List.length_cons]; omega, by rw [g3, List.drop_drop, List.drop_succ_cons, Nat.add_comm n 4]⟩
theorem eats_signs : ∀ (n : Nat) (l : Octets) (x : List UInt16) (r : Octets), readSigns n l = some (x, r) → ∃ j, j ≤ l.length ∧ r = l.drop j
  | 0, l, x, r, h => by
    rw [readSigns] at h
    cases h
    exact ⟨0, Nat.zero_le _, rfl⟩
  | n + 1, a :: b :: l, x, r, h => by
    rw [readSigns] at h
    cases q : readSigns n l with
    | none => rw [q] at h; cases h
    | some p =>
      rw [q] at h
      cases h
      obtain ⟨j, h1, h2⟩ := eats_signs n l p.1 p.2 q
      exact ⟨j + 2, by simp only [List.length_cons]; omega, h2⟩
  | n + 1, [], x, r, h => by simp [readSigns] at h
  | n + 1, [_], x, r, h => by simp [readSigns] at h
theorem eats_wide {l r : Octets} {x : Value} (h : readWide l = some (x, r)) : ∃ j, j ≤ l.length ∧ r = l.drop j := by
  unfold readWide at h
  cases q : readNum 4 l with
  | none => rw [q] at h; cases h
  | some p =>
    rw [q] at h
    obtain ⟨n, t⟩ := p
    obtain ⟨h1, _, h3⟩ := num_some q
    subst h3
    simp only at h
    cases q2 : readSigns n (l.drop 4) with
    | none => rw [q2] at h; cases h
    | some p2 =>
      rw [q2] at h
      simp only at h
      obtain ⟨j, g1, g2⟩ := eats_signs _ _ _ _ q2
      by_cases c : isWide p2.1 = true
      · rw [if_pos c] at h
        cases h
        rw [List.length_drop] at g1
        exact ⟨4 + j, by omega, by rw [g2, List.drop_drop]⟩
      · rw [if_neg c] at h
        cases h
theorem eats_F : ∀ n, Eats 1 (readF n)
  | 0, l, x, r, h => by rw [readF] at h; cases h
  | n + 1, [], x, r, h => by rw [readF] at h; cases h
  | n + 1, k :: l, x, r, h => by
    rw [readF] at h
    have key : ∃ j, j ≤ l.length ∧ r = l.drop j := by
      unfold readKind at h
      have ih := eats_F n
      split at h
      · cases h; exact ⟨0, Nat.zero_le _, rfl⟩
      · cases h; exact ⟨0, Nat.zero_le _, rfl⟩
      · cases h; exact ⟨0, Nat.zero_le _, rfl⟩
      · cases h; exact ⟨0, Nat.zero_le _, rfl⟩
      · obtain ⟨h1, _, _, h3⟩ := int_some h
        exact ⟨8, h1, h3⟩
      · exact eats_big h
      · unfold readWords at h
        cases q : readText l with
        | none => rw [q] at h; cases h
        | some p =>
          rw [q] at h
          cases h
          obtain ⟨j, _, h2, h3⟩ := eats_text l p.1 p.2 q
          exact ⟨j, h2, h3⟩
      · obtain ⟨l', h1, h2, _⟩ := list_some h
        obtain ⟨j, _, g2, g3⟩ := ih.many _ _ _ _ h2
        rw [List.length_drop] at g2
        exact ⟨4 + j, by omega, by rw [g3, List.drop_drop]⟩
      · obtain ⟨l', h1, h2, _, _⟩ := record_some h
        obtain ⟨j, _, g2, g3⟩ := (eats_entry ih).many _ _ _ _ h2
        rw [List.length_drop] at g2
        exact ⟨4 + j, by omega, by rw [g3, List.drop_drop]⟩
      · unfold readOctets at h
        cases q : readText l with
        | none => rw [q] at h; cases h
        | some p =>
          rw [q] at h
          cases h
          obtain ⟨j, _, h2, h3⟩ := eats_text l p.1 p.2 q
          exact ⟨j, h2, h3⟩
      · exact eats_wide h
      · cases h
    obtain ⟨j, h1, h2⟩ := key
    exact ⟨j + 1, by omega, Nat.succ_le_succ h1, h2⟩
theorem big_no {l r : Octets} {x : Value} (h : readBig l = some (x, r)) : noBig x = false := by
  cases l with
  | nil => rw [readBig] at h; cases h
  | cons s l =>
    rw [readBig] at h
    cases q : readNum 4 l with
    | none => rw [q] at h; cases h
    | some p =>
      rw [q] at h
      simp only at h
      cases q2 : front p.1 p.2 with
      | none => rw [q2] at h; cases h
      | some p2 =>
        rw [q2] at h
        simp only at h
        cases q3 : bigOf s p2.1 with
        | none => rw [q3] at h; cases h
        | some i =>
          rw [q3] at h
          cases h
          rfl
theorem wide_no {l r : Octets} {x : Value} (h : readWide l = some (x, r)) : noWide x = false := by
  unfold readWide at h
  cases q : readNum 4 l with
  | none => rw [q] at h; cases h
  | some p =>
    rw [q] at h
    simp only at h
    cases q2 : readSigns p.1 p.2 with
    | none => rw [q2] at h; cases h
    | some p2 =>
      rw [q2] at h
      simp only at h
      by_cases c : isWide p2.1 = true
      · rw [if_pos c] at h
        cases h
        rfl
      · rw [if_neg c] at h
        cases h
theorem read1 {n k : Nat} {l r : Octets} {v : Value} (h : readKind (readF n) k l = some (v, r)) (c : clean v = true) : Read1 (readF n) l k v r := by
  unfold clean at c
  rw [Bool.and_eq_true, Bool.and_eq_true] at c
  unfold readKind at h
  split at h
  · cases h; exact .low (by decide) rfl rfl
  · cases h; exact .low (by decide) rfl rfl
  · cases h; exact .low (by decide) rfl rfl
  · cases h; exact .low (by decide) rfl rfl
  · exact .int rfl h
  · have := big_no h
    rw [c.1] at this
    cases this
  · unfold readWords at h
    cases q : readText l with
    | none => rw [q] at h; cases h
    | some p =>
      rw [q] at h
      cases h
      exact .text rfl p.1 q rfl
  · exact .list rfl h
  · exact .record rfl h
  · unfold readOctets at h
    cases q : readText l with
    | none => rw [q] at h; cases h
    | some p =>
      rw [q] at h
      cases h
      cases c.2.1
  · have := wide_no h
    rw [c.2.2] at this
    cases this
  · cases h
/-- the numbers, octet by octet from the highest -/
theorem numOf_cons (a : UInt8) (r : Octets) : numOf (a :: r) = a.toNat + 256 * numOf r := by rw [numOf]
theorem numOf_lt : ∀ b : Octets, numOf b < 256 ^ b.length
  | [] => by rw [numOf]; decide
  | a :: r => by
    have ih := numOf_lt r
    have ha : a.toNat < 256 := a.toNat_lt
    rw [numOf_cons, List.length_cons, Nat.pow_succ]
    omega
end Ov
set_option maxHeartbeats 4000000
/-! V16: requests. -/
namespace Ov
open PySem PySem.Spec PyProof.Rows L2
open R7237f.Spec (Plain Units)
open RWire (numOf readF readMany readText readInt readList readRecord intOf)
theorem octV_at {b : List UInt8} {i : Nat} {k : Int} (h : i < b.length) (hk : k = (i : Int)) : atI (octV b) k = some (.int ((b[i]).toNat : Int)) := by
  subst hk
  refine atI_nat ?_
  unfold octV
  rw [List.getElem?_map, List.getElem?_eq_getElem h]
  rfl
/-- the numbers of the last octets of a row -/
theorem num_step {s : List UInt8} {j : Nat} (h : j < s.length) : numOf (s.drop j) = (s[j]).toNat + 256 * numOf (s.drop (j + 1)) := by
  rw [List.drop_eq_getElem_cons h, numOf_cons]
theorem drop_take_get {b : List UInt8} {k m j : Nat} (h : k + m ≤ b.length) (hj : j < m) : ∃ hl : j < ((b.drop k).take m).length, ((b.drop k).take m)[j] = b[k + j]'(by omega) := by
  refine ⟨by rw [List.length_take, List.length_drop]; omega, ?_⟩
  rw [List.getElem_take, List.getElem_drop]
theorem many_succ {α : Type} {f : List UInt8 → Option (α × List UInt8)} {n : Nat} {b r : List UInt8} {l : List α} (h : readMany f (n + 1) b = some (l, r)) : ∃ x s l', f b = some (x, s) ∧ readMany f n s = some (l', r) ∧ l = x :: l' := by
  rw [readMany] at h
  cases q : f b with
  | none => rw [q] at h; cases h
  | some p =>
    rw [q] at h
    obtain ⟨y, s⟩ := p
    simp only at h
    cases q2 : readMany f n s with
    | none => rw [q2] at h; cases h
    | some p2 =>
      rw [q2] at h
      cases h
      exact ⟨y, s, p2.1, rfl, q2, rfl⟩
theorem many_zero {α : Type} {f : List UInt8 → Option (α × List UInt8)} {b r : List UInt8} {l : List α} (h : readMany f 0 b = some (l, r)) : l = [] ∧ r = b := by
  rw [readMany] at h
  cases h
  exact ⟨rfl, rfl⟩
theorem rd_at {α : Type} {f : List UInt8 → Option (α × List UInt8)} {m : Nat} (e : Eats m f) {b r : List UInt8} {k : Nat} {x : α} (hk : k ≤ b.length) (h : f (b.drop k) = some (x, r)) : ∃ k', k + m ≤ k' ∧ k' ≤ b.length ∧ r = b.drop k' ∧ b.length - r.length = k' := by
  obtain ⟨j, h1, h2, h3⟩ := e _ _ _ h
  rw [List.length_drop] at h2
  refine ⟨k + j, by omega, by omega, by rw [h3, List.drop_drop], ?_⟩
  rw [h3, List.length_drop, List.length_drop]
  omega
theorem takenAll_map : ∀ l : List RWire.Value, Rust.takenAll l = l.map Rust.taken
  | [] => rfl
  | v :: r => by
    rw [List.map_cons, ← takenAll_map r]
    rfl
theorem takenFields_map : ∀ l : List (RWire.Text × RWire.Value), Rust.takenFields l = l.map fun e => (e.1.map Rust.unitOf, Rust.taken e.2)
  | [] => rfl
  | (n, v) :: r => by
    rw [List.map_cons, ← takenFields_map r]
    rfl
theorem ulst_unit (u : List UInt8) : ulst (u.map Rust.unitOf) = octV u := by
  unfold ulst octV
  rw [List.map_map]
  refine List.map_congr_left fun o _ => ?_
  show V.int ((UInt16.ofNat o.toNat).toNat : Int) = _
  have ho : o.toNat < 256 := o.toNat_lt
  rw [UInt16.toNat_ofNat', Nat.mod_eq_of_lt (by omega)]
def cleanM (l : List RWire.Value) : Bool := l.all clean
theorem clean_list {l : List RWire.Value} (h : clean (.list l) = true) : ∀ v ∈ l, clean v = true := by
  unfold clean at h
  rw [Bool.and_eq_true, Bool.and_eq_true] at h
  obtain ⟨h1, h2, h3⟩ := h
  replace h1 : RWire.noBigMany l = true := h1
  replace h2 : RWire.noOctetsMany l = true := h2
  replace h3 : RWire.noWideMany l = true := h3
  induction l with
  | nil => intro v hv; cases hv
  | cons x l ih =>
    intro v hv
    rw [RWire.noBigMany, Bool.and_eq_true] at h1
    rw [RWire.noOctetsMany, Bool.and_eq_true] at h2
    rw [RWire.noWideMany, Bool.and_eq_true] at h3
    rcases List.mem_cons.mp hv with rfl | hv
    · unfold clean
      rw [h1.1, h2.1, h3.1]
      rfl
    · exact ih h1.2 h2.2 h3.2 v hv
theorem clean_rec {l : List (RWire.Text × RWire.Value)} (h : clean (.record l) = true) : ∀ e ∈ l, clean e.2 = true := by
  unfold clean at h
  rw [Bool.and_eq_true, Bool.and_eq_true] at h
  obtain ⟨h1, h2, h3⟩ := h
  replace h1 : RWire.noBigEntries l = true := h1
  replace h2 : RWire.noOctetsEntries l = true := h2
  replace h3 : RWire.noWideEntries l = true := h3
  induction l with
  | nil => intro v hv; cases hv
  | cons x l ih =>
    intro v hv
    rw [RWire.noBigEntries, Bool.and_eq_true] at h1
    rw [RWire.noOctetsEntries, Bool.and_eq_true] at h2
    rw [RWire.noWideEntries, Bool.and_eq_true] at h3
    rcases List.mem_cons.mp hv with rfl | hv
    · unfold clean
      rw [h1.1, h2.1, h3.1]
      rfl
    · exact ih h1.2 h2.2 h3.2 v hv
/-- a value and the place behind it come back -/
def RetP (G H : Hp) (p : Plain) (k : Nat) (Q : VK) : Prop := ∀ G' H' t v, Ext G H G' H' → G' t = some (.tup [v, .int (k : Int)]) → AtV G' p v → Q (.ref t) H'
section
variable {P : Program} {w : World} {K : PySem.W.Frag} {mg : Str → Option Value} {base : Heap}
abbrev s_octet_at : Stmt := top 129
theorem sc_octet_at : FnScope ["octets", "at"] ["octets", "at"] (defScope s_octet_at) := ⟨rfl, rfl, rfl, by decide +kernel, rfl, by decide +kernel, by decide +kernel⟩
theorem bd_octet_at : Bd "octet_at" "octet_at" s_octet_at ["octets", "at"] := fun _ _ _ _ _ _ us hl => match us, hl with | [_, _], _ => rfl
abbrev s_number_at : Stmt := top 130
theorem sc_number_at : FnScope ["octets", "at", "many", "number", "turn"] ["octets", "at", "many"] (defScope s_number_at) := ⟨rfl, rfl, rfl, by decide +kernel, rfl, by decide +kernel, by decide +kernel⟩
theorem bd_number_at : Bd "number_at" "number_at" s_number_at ["octets", "at", "many"] := fun _ _ _ _ _ _ us hl => match us, hl with | [_, _, _], _ => rfl
abbrev s_read_integer : Stmt := top 131
theorem sc_read_integer : FnScope ["octets", "at", "number"] ["octets", "at"] (defScope s_read_integer) := ⟨rfl, rfl, rfl, by decide +kernel, rfl, by decide +kernel, by decide +kernel⟩
theorem bd_read_integer : Bd "read_integer" "read_integer" s_read_integer ["octets", "at"] := fun _ _ _ _ _ _ us hl => match us, hl with | [_, _], _ => rfl
abbrev s_read_text : Stmt := top 132
theorem sc_read_text : FnScope ["octets", "at", "many"] ["octets", "at"] (defScope s_read_text) := ⟨rfl, rfl, rfl, by decide +kernel, rfl, by decide +kernel, by decide +kernel⟩
theorem bd_read_text : Bd "read_text" "read_text" s_read_text ["octets", "at"] := fun _ _ _ _ _ _ us hl => match us, hl with | [_, _], _ => rfl
abbrev s_read_list : Stmt := top 133
theorem sc_read_list : FnScope ["octets", "at", "room", "many", "values", "place", "turn", "found"] ["octets", "at", "room"] (defScope s_read_list) := ⟨rfl, rfl, rfl, by decide +kernel, rfl, by decide +kernel, by decide +kernel⟩
theorem bd_read_list : Bd "read_list" "read_list" s_read_list ["octets", "at", "room"] := fun _ _ _ _ _ _ us hl => match us, hl with | [_, _, _], _ => rfl
abbrev s_read_record : Stmt := top 134
theorem sc_read_record : FnScope ["octets", "at", "room", "many", "members", "seen", "place", "turn", "name", "found"] ["octets", "at", "room"] (defScope s_read_record) := ⟨rfl, rfl, rfl, by decide +kernel, rfl, by decide +kernel, by decide +kernel⟩
theorem bd_read_record : Bd "read_record" "read_record" s_read_record ["octets", "at", "room"] := fun _ _ _ _ _ _ us hl => match us, hl with | [_, _, _], _ => rfl
abbrev s_read_value : Stmt := top 135
theorem sc_read_value : FnScope ["octets", "at", "room", "kind", "found", "place"] ["octets", "at", "room"] (defScope s_read_value) := ⟨rfl, rfl, rfl, by decide +kernel, rfl, by decide +kernel, by decide +kernel⟩
theorem bd_read_value : Bd "read_value" "read_value" s_read_value ["octets", "at", "room"] := fun _ _ _ _ _ _ us hl => match us, hl with | [_, _, _], _ => rfl
abbrev s_is_digits : Stmt := top 136
theorem sc_is_digits : FnScope ["name", "octet"] ["name"] (defScope s_is_digits) := ⟨rfl, rfl, rfl, by decide +kernel, rfl, by decide +kernel, by decide +kernel⟩
theorem bd_is_digits : Bd "is_digits" "is_digits" s_is_digits ["name"] := fun _ _ _ _ _ _ us hl => match us, hl with | [_], _ => rfl
abbrev s_size_of_record : Stmt := top 137
theorem sc_size_of_record : FnScope ["members", "room", "size", "name", "value"] ["members", "room"] (defScope s_size_of_record) := ⟨rfl, rfl, rfl, by decide +kernel, rfl, by decide +kernel, by decide +kernel⟩
theorem bd_size_of_record : Bd "size_of_record" "size_of_record" s_size_of_record ["members", "room"] := fun _ _ _ _ _ _ us hl => match us, hl with | [_, _], _ => rfl
abbrev s_size_of : Stmt := top 138
theorem sc_size_of : FnScope ["value", "room", "kind", "content", "size", "element"] ["value", "room"] (defScope s_size_of) := ⟨rfl, rfl, rfl, by decide +kernel, rfl, by decide +kernel, by decide +kernel⟩
theorem bd_size_of : Bd "size_of" "size_of" s_size_of ["value", "room"] := fun _ _ _ _ _ _ us hl => match us, hl with | [_, _], _ => rfl
abbrev s_check_limits : Stmt := top 139
theorem sc_check_limits : FnScope ["door", "values", "size", "value"] ["door", "values"] (defScope s_check_limits) := ⟨rfl, rfl, rfl, by decide +kernel, rfl, by decide +kernel, by decide +kernel⟩
theorem bd_check_limits : Bd "check_limits" "check_limits" s_check_limits ["door", "values"] := fun _ _ _ _ _ _ us hl => match us, hl with | [_, _], _ => rfl
abbrev s_read_request : Stmt := top 140
theorem sc_read_request : FnScope ["octets", "door", "given", "values", "place", "turn", "found"] ["octets"] (defScope s_read_request) := ⟨rfl, rfl, rfl, by decide +kernel, rfl, by decide +kernel, by decide +kernel⟩
theorem bd_read_request : Bd "read_request" "read_request" s_read_request ["octets"] := fun _ _ _ _ _ _ us hl => match us, hl with | [_], _ => rfl
def fOctetAt (K : PySem.W.Frag) : V → V → Hp → VK → XK → Prop := fun a c H Q _ => ∃ l b, ∃ k : Nat, ∃ hk : k < b.length, a = .ref l ∧ c = .int (k : Int) ∧ SqL K H l (octV b) ∧ Q (.int ((b[k]).toNat : Int)) H
theorem d_octet_at (T : TxtX K mg) (F : Fs K mg "octet_at" s_octet_at) : DefOk P w K mg base CX0 1 "octet_at" ["octets", "at"] (Sp2 (fOctetAt K)) :=
  def_C F sc_octet_at bd_octet_at fun f cdv A outer s H vs Q E hr h => by
    obtain ⟨_, _, rfl, l, b, k, hk, rfl, rfl, hl, q⟩ := h
    refine ⟨_, (pss_cons (ps_if (pt_cmpR op_ge (pv 1) (pe_callB call_len_seq (by rfl) T.z_len PySem.boot_len (pa_cons (pv 0) pa_nil)) (nomark _)) (pss_one ps_never) pss_nil) (pss_one (ps_ret (pe_ix ix_list (pv 0) (pv 1) (fun _ _ => rfl))))), ?_⟩
    refine ⟨_, rfl, _, rfl, l, _, rfl, .inl hl, _, _, rfl, rfl, _, rfl, ?_⟩
    rw [octV_len, decide_eq_false (by omega : ¬ (k : Int) ≥ (b.length : Int))]
    exact iteF ⟨_, rfl, _, rfl, l, _, _, _, rfl, rfl, hl, octV_at hk rfl, q⟩
def fNumberAt (K : PySem.W.Frag) : V → V → V → Hp → VK → XK → Prop := fun a c d H Q _ => ∃ l b, ∃ k m : Nat, a = .ref l ∧ c = .int (k : Int) ∧ d = .int (m : Int) ∧ SqL K H l (octV b) ∧ k + m ≤ b.length ∧ m ≤ 100 ∧ Q (.int (numOf ((b.drop k).take m) : Int)) H
theorem d_number_at (T : TxtX K mg) (F : Fs K mg "number_at" s_number_at) : DefOk P w K mg base CX0 1 "number_at" ["octets", "at", "many"] (Sp3 (fNumberAt K)) :=
  def_C F sc_number_at bd_number_at fun f cdv A outer s H vs Q E hr h => by
    obtain ⟨_, _, _, rfl, l, b, k, m, rfl, rfl, rfl, hl, hk, hm, q⟩ := h
    refine ⟨_, (pss_cons (ps_if (pt_cmpR op_gt (pe_op op_add (pv 1) (pv 2)) (pe_callB call_len_seq (by rfl) T.z_len PySem.boot_len (pa_cons (pv 0) pa_nil)) (nomark _)) (pss_one ps_never) pss_nil) (pss_cons (ps_set (i := 3) sc_number_at.nd rfl (Or.inl rfl) pe_int) (pss_cons (ps_for PassesOwn.never rfl (pi_range1 rfl T.z_range (pa_cons (pv 2) pa_nil)) (pg_name (i := 4) sc_number_at.nd rfl (Or.inl rfl)) (pss_one (ps_set (i := 3) sc_number_at.nd rfl (Or.inl rfl) (pe_op op_add (pe_op op_mul (pv 3) pe_int) (pe_ix ix_list (pv 0) (pe_op op_sub (pe_op op_sub (pe_op op_add (pv 1) (pv 2)) pe_int) (pv 4)) (fun _ _ => rfl)))))) (pss_one (ps_ret (pv 3)))))), ?_⟩
    refine ⟨_, rfl, _, rfl, _, _, rfl, rfl, _, rfl, l, _, rfl, .inl hl, _, _, rfl, rfl, _, rfl, ?_⟩
    rw [octV_len, decide_eq_false (by omega : ¬ (k : Int) + (m : Int) > (b.length : Int))]
    refine iteF ⟨_, rfl, m, rfl, by omega, by omega, for_rng (n := m) (fun t σ H' => H' = H ∧ ∃ x4, σ = [some (.ref l), some (.int (k : Int)), some (.int (m : Int)), some (.int (numOf (((b.drop k).take m).drop (m - t)) : Int)), x4]) ⟨rfl, none, ?_⟩ ?_ ?_⟩
    · have e : ((b.drop k).take m).drop (m - 0) = [] := List.drop_eq_nil_of_le (by rw [List.length_take]; omega)
      rw [e]
      rfl
    · rintro t σ H' ht ⟨rfl, x4, rfl⟩
      obtain ⟨hj, ej⟩ := drop_take_get (b := b) (k := k) (m := m) (j := m - (t + 1)) hk (by omega)
      have st := num_step hj
      rw [ej, show m - (t + 1) + 1 = m - t by omega] at st
      refine ⟨_, rfl, _, _, rfl, rfl, .inr (by decide), _, rfl, _, rfl, _, rfl, _, _, rfl, rfl, _, _, rfl, rfl, _, rfl, _, _, rfl, rfl, l, _, _, _, rfl, rfl, hl, octV_at (i := k + (m - (t + 1))) (by omega) (by omega), _, _, rfl, rfl, ?_⟩
      refine ⟨rfl, some (.int (t : Int)), ?_⟩
      rw [st]
      show [some (V.ref l), some (.int (k : Int)), some (.int (m : Int)), some (.int _), some (.int (t : Int))] = _
      rw [show ((b[k + (m - (t + 1))].toNat + 256 * numOf (List.drop (m - t) (List.take m (List.drop k b))) : Nat) : Int) = (numOf (List.drop (m - t) (List.take m (List.drop k b))) : Int) * 256 + (b[k + (m - (t + 1))].toNat : Int) by omega]
    · rintro σ H' ⟨rfl, x4, rfl⟩
      rw [Nat.sub_self, List.drop_zero]
      exact ⟨_, rfl, q⟩
/-- what a reader of values does -/
def fRd (f : List UInt8 → Option (RWire.Value × List UInt8)) : V → V → Hp → VK → XK → Prop := fun a c H Q _ => ∃ G l b, ∃ k : Nat, ∃ v r, a = .ref l ∧ c = .int (k : Int) ∧ H l = some (.lst (octV b)) ∧ G l = some (.lst (octV b)) ∧ Same G H ∧ b.length ≤ 1000000 ∧ f (b.drop k) = some (v, r) ∧ clean v = true ∧ RetP G H (Rust.taken v) (b.length - r.length) Q
theorem d_read_integer (T : TxtX K mg) (D_number_at : DefOk P w K mg base CX0 1 "number_at" ["octets", "at", "many"] (Sp3 (fNumberAt K))) (F : Fs K mg "read_integer" s_read_integer) : DefOk P w K mg base CX0 2 "read_integer" ["octets", "at"] (Sp2 (fRd readInt)) :=
  def_C F sc_read_integer bd_read_integer fun f cdv A outer s H vs Q E hr h => by
    obtain ⟨_, _, rfl, G, l, b, k, v, r, rfl, rfl, hl, hg, hs, hz, hv, hc, q⟩ := h
    obtain ⟨h1, rfl, h2, rfl⟩ := int_some hv
    rw [List.length_drop] at h1
    have hn : numOf ((b.drop k).take 8) < 18446744073709551616 := by
      have z := numOf_lt ((b.drop k).take 8)
      rw [List.length_take, List.length_drop, Nat.min_eq_left h1] at z
      exact z
    have er : b.length - ((b.drop k).drop 8).length = k + 8 := by
      rw [List.length_drop, List.length_drop]
      omega
    rw [er] at q
    have hz2 : (intOf (numOf ((b.drop k).take 8))).natAbs ≤ 9007199254740991 := h2
    obtain ⟨n, en⟩ : ∃ n, n = numOf ((b.drop k).take 8) := ⟨_, rfl⟩
    rw [← en] at hn hz2 q
    have fin : ∀ i : Int, i = intOf n → ∀ p, H p = none → ∀ p', upd H p (.tup [.int 4, .int i]) p' = none → Q (.ref p') (upd (upd H p (.tup [.int 4, .int i])) p' (.tup [.ref p, .int ((k : Int) + 8)])) := by
      rintro i rfl p hp p' hp'
      have e1 := (ExtF.refl (F := NoF) hs).imm (o := .tup [.int 4, .int (intOf n)]) hp
      have e2 := e1.imm (o := .tup [.ref p, .int ((k : Int) + 8)]) hp'
      refine q _ _ p' (.ref p) e2 (by rw [upd_same]; rfl) ⟨p, intOf n, rfl, rfl, ?_⟩
      have np : p ≠ p' := fun z => by rw [← z, upd_same] at hp'; cases hp'
      rw [upd_ne np, upd_same]
    refine ⟨_, (pss_cons (ps_set (i := 2) sc_read_integer.nd rfl (Or.inl rfl) (pe_d D_number_at (hr.mono (by decide)) pass0 (pa_cons (pv 0) (pa_cons (pv 1) (pa_cons pe_int pa_nil))))) (pss_cons (ps_if (pt_cmpR op_ge (pv 2) (pe_op op_pow pe_int pe_int) (nomark _)) (pss_one (ps_set (i := 2) sc_read_integer.nd rfl (Or.inl rfl) (pe_op op_sub (pv 2) (pe_op op_pow pe_int pe_int)))) pss_nil) (pss_cons (ps_if (PW.pt (pw_or (pt_cmpR op_lt (pv 2) (pe_un un_neg (pe_gi T.i_GREATEST)) (nomark _)) (pw_or1 (pt_cmpR op_gt (pv 2) (pe_gi T.i_GREATEST) (nomark _))))) (pss_one ps_never) pss_nil) (pss_one (ps_ret (pe_tup (pa_cons (pe_tup (pa_cons (pe_gi T.i_INTEGER) (pa_cons (pv 2) pa_nil))) (pa_cons (pe_op op_add (pv 1) pe_int) pa_nil)))))))), ?_⟩
    refine ⟨_, rfl, _, rfl, _, _, _, rfl, l, b, k, 8, rfl, rfl, rfl, SqL.of hl, by omega, by decide, ?_⟩
    rw [← en]
    dsimp only
    refine tSeq_if ?_
    refine ⟨_, rfl, _, _, rfl, rfl, ⟨by decide, by decide, by decide⟩, _, _, rfl, rfl, _, rfl, ?_⟩
    have e63 : (2 : Int) ^ Int.toNat 63 = 9223372036854775808 := by decide
    have e64 : (2 : Int) ^ Int.toNat 64 = 18446744073709551616 := by decide
    rw [e63]
    by_cases c1 : n < 9223372036854775808
    · rw [decide_eq_false (by omega : ¬ (9223372036854775808 : Int) ≤ (n : Int))]
      have ei : intOf n = (n : Int) := if_pos (decide_eq_true c1)
      rw [ei] at hz2
      refine iteF ?_
      dsimp only [tNext]
      refine tSeq_if (tOr_pure false false (fun Q' z => ?_) (fun Q' z => ?_) ?_)
      · refine ⟨_, rfl, _, rfl, _, _, rfl, rfl, _, rfl, ?_⟩
        rw [decide_eq_false (by omega : ¬ (n : Int) < -9007199254740991)]
        exact z
      · refine ⟨_, rfl, _, _, rfl, rfl, _, rfl, ?_⟩
        rw [decide_eq_false (by omega : ¬ (9007199254740991 : Int) < (n : Int))]
        exact z
      · refine iteF ?_
        dsimp only [tNext]
        refine ⟨_, rfl, sz2, fun p hp => ⟨_, rfl, _, _, rfl, rfl, sz2, fun p' hp' => fin _ ei.symm p hp p' hp'⟩⟩
    · rw [decide_eq_true (by omega : (9223372036854775808 : Int) ≤ (n : Int))]
      have ei : intOf n = (n : Int) - 18446744073709551616 := if_neg (by rw [decide_eq_false c1]; decide)
      rw [ei] at hz2
      refine iteT ⟨_, rfl, _, _, rfl, rfl, ⟨by decide, by decide, by decide⟩, _, _, rfl, rfl, ?_⟩
      rw [e64]
      dsimp only
      refine tSeq_if (tOr_pure false false (fun Q' z => ?_) (fun Q' z => ?_) ?_)
      · refine ⟨_, rfl, _, rfl, _, _, rfl, rfl, _, rfl, ?_⟩
        rw [decide_eq_false (by omega : ¬ (n : Int) - 18446744073709551616 < -9007199254740991)]
        exact z
      · refine ⟨_, rfl, _, _, rfl, rfl, _, rfl, ?_⟩
        rw [decide_eq_false (by omega : ¬ (9007199254740991 : Int) < (n : Int) - 18446744073709551616)]
        exact z
      · refine iteF ?_
        dsimp only [tNext]
        refine ⟨_, rfl, sz2, fun p hp => ⟨_, rfl, _, _, rfl, rfl, sz2, fun p' hp' => fin _ ei.symm p hp p' hp'⟩⟩
theorem cut_oct (b : List UInt8) (i m : Nat) (h : i + m ≤ b.length) : cutV (octV b) (some (i : Int)) (some ((i : Int) + (m : Int))) = octV ((b.drop i).take m) := by
  unfold cutV
  rw [octV_len]
  have e1 : HT.sIx b.length 0 (some (i : Int)) = i := by
    rw [HT.sIx_nat]
    omega
  have e2 : HT.sIx b.length b.length (some ((i : Int) + (m : Int))) = i + m := by
    rw [← Int.natCast_add, HT.sIx_nat]
    omega
  rw [e1, e2, Nat.add_sub_cancel_left]
  unfold octV
  rw [List.map_take, List.map_drop]
/-- a text's octets and the place behind them come back -/
def RetT (G H : Hp) (u : List UInt8) (k : Nat) (Q : VK) : Prop := ∀ G' H' t l, Ext G H G' H' → G' t = some (.tup [.ref l, .int (k : Int)]) → G' l = some (.lst (octV u)) → Q (.ref t) H'
def fReadText : V → V → Hp → VK → XK → Prop := fun a c H Q _ => ∃ G l b, ∃ k : Nat, ∃ u r, a = .ref l ∧ c = .int (k : Int) ∧ H l = some (.lst (octV b)) ∧ Same G H ∧ b.length ≤ 1000000 ∧ readText (b.drop k) = some (u, r) ∧ RetT G H u (b.length - r.length) Q
theorem d_read_text (T : TxtX K mg) (D_number_at : DefOk P w K mg base CX0 1 "number_at" ["octets", "at", "many"] (Sp3 (fNumberAt K))) (F : Fs K mg "read_text" s_read_text) : DefOk P w K mg base CX0 2 "read_text" ["octets", "at"] (Sp2 fReadText) :=
  def_C F sc_read_text bd_read_text fun f cdv A outer s H vs Q E hr h => by
    obtain ⟨_, _, rfl, G, l, b, k, u, r, rfl, rfl, hl, hs, hz, hv, q⟩ := h
    obtain ⟨h1, rfl, rfl⟩ := text_some hv
    rw [List.length_drop] at h1
    refine ⟨_, (pss_cons (ps_set (i := 2) sc_read_text.nd rfl (Or.inl rfl) (pe_d D_number_at (hr.mono (by decide)) pass0 (pa_cons (pv 0) (pa_cons (pv 1) (pa_cons pe_int pa_nil))))) (pss_cons (ps_if (pt_cmpR op_gt (pe_op op_add (pe_op op_add (pv 1) pe_int) (pv 2)) (pe_callB call_len_seq (by rfl) T.z_len PySem.boot_len (pa_cons (pv 0) pa_nil)) (nomark _)) (pss_one ps_never) pss_nil) (pss_one (ps_ret (pe_tup (pa_cons (pe_slice sl_list (pv 0) (po_some (pe_op op_add (pv 1) pe_int)) (po_some (pe_op op_add (pe_op op_add (pv 1) pe_int) (pv 2)))) (pa_cons (pe_op op_add (pe_op op_add (pv 1) pe_int) (pv 2)) pa_nil))))))), ?_⟩
    refine ⟨_, rfl, _, rfl, _, _, _, rfl, l, b, k, 4, rfl, rfl, rfl, SqL.of hl, by omega, by decide, ?_⟩
    obtain ⟨n, en⟩ : ∃ n, n = numOf ((b.drop k).take 4) := ⟨_, rfl⟩
    rw [← en] at q h1 ⊢
    dsimp only
    have er : b.length - ((b.drop k).drop (4 + n)).length = k + 4 + n := by
      rw [List.length_drop, List.length_drop]
      omega
    rw [er, List.drop_drop] at q
    refine tSeq_if ⟨_, rfl, _, _, rfl, rfl, _, rfl, _, _, rfl, rfl, _, rfl, l, _, rfl, .inl (SqL.of hl), _, _, rfl, rfl, _, rfl, ?_⟩
    rw [octV_len, decide_eq_false (by omega : ¬ (b.length : Int) < (k : Int) + 4 + (n : Int))]
    refine iteF ?_
    dsimp only [tNext]
    refine ⟨_, rfl, _, rfl, _, _, rfl, rfl, _, rfl, _, rfl, _, _, rfl, rfl, _, rfl, _, _, rfl, rfl, _, rfl, l, _, rfl, SqL.of hl, fun p hp => ⟨_, rfl, _, _, rfl, rfl, _, rfl, _, _, rfl, rfl, sz2, fun p' hp' => ?_⟩⟩
    have ec := cut_oct b (k + 4) n (by omega)
    rw [Int.natCast_add] at ec
    have ec' : cutV (octV b) (some ((k : Int) + 4)) (some ((k : Int) + 4 + (n : Int))) = _ := ec
    rw [ec'] at hp' ⊢
    have e1 := (ExtF.refl (F := NoF) hs).imm (o := .lst (octV ((b.drop (k + 4)).take n))) hp
    have e2 := e1.imm (o := .tup [.ref p, .int ((k : Int) + 4 + (n : Int))]) hp'
    have np : p ≠ p' := fun z => by rw [← z, upd_same] at hp'; cases hp'
    exact q _ _ p' p e2 (by rw [upd_same]; rfl) (by rw [upd_ne np, upd_same])
theorem deN {i j : Int} (h : i ≠ j) : decide (V.int i = V.int j) = false := decide_eq_false fun z => h (by cases z; rfl)
theorem deY {i j : Int} (h : i = j) : decide (V.int i = V.int j) = true := decide_eq_true (by rw [h])
/-- with its room -/
def fRdR (n : Nat) (f : List UInt8 → Option (RWire.Value × List UInt8)) : V → V → V → Hp → VK → XK → Prop := fun a c d H Q E => d = .int (n : Int) ∧ fRd f a c H Q E
abbrev RvOk (P : Program) (w : World) (K : PySem.W.Frag) (mg : Str → Option Value) (base : Heap) (n : Nat) : Prop := DefOk P w K mg base CX0 (2 * n + 2) "read_value" ["octets", "at", "room"] (Sp3 (fRdR n (readF n)))
theorem d_read_list {n : Nat} (T : TxtX K mg) (D_number_at : DefOk P w K mg base CX0 1 "number_at" ["octets", "at", "many"] (Sp3 (fNumberAt K))) (D_read_value : RvOk P w K mg base n) (F : Fs K mg "read_list" s_read_list) : DefOk P w K mg base CX0 (2 * n + 3) "read_list" ["octets", "at", "room"] (Sp3 (fRdR n (readList (readF n)))) :=
  def_C F sc_read_list bd_read_list fun f cdv A outer s H vs Q E hr h => by
    obtain ⟨_, _, _, rfl, rfl, G, l, b, k, v, r, rfl, rfl, hl, hg, hs, hz, hv, hc, q⟩ := h
    obtain ⟨ls, h1, h2, rfl⟩ := list_some hv
    have cl := clean_list hc
    rw [List.length_drop] at h1
    refine ⟨_, (pss_cons (ps_set (i := 3) sc_read_list.nd rfl (Or.inl rfl) (pe_d D_number_at (hr.mono (by omega)) pass0 (pa_cons (pv 0) (pa_cons (pv 1) (pa_cons pe_int pa_nil))))) (pss_cons (ps_set (i := 4) sc_read_list.nd rfl (Or.inl rfl) (pe_lst pa_nil)) (pss_cons (ps_set (i := 5) sc_read_list.nd rfl (Or.inl rfl) (pe_op op_add (pv 1) pe_int)) (pss_cons (ps_for PassesOwn.never rfl (pi_range1 rfl T.z_range (pa_cons (pv 3) pa_nil)) (pg_name (i := 6) sc_read_list.nd rfl (Or.inl rfl)) (pss_cons (ps_asg (pe_d D_read_value (hr.mono (by omega)) pass0 (pa_cons (pv 0) (pa_cons (pv 5) (pa_cons (pv 2) pa_nil)))) (pg_tup rfl (pgs_cons (pg_name (i := 7) sc_read_list.nd rfl (Or.inl rfl)) (pgs_cons (pg_name (i := 5) sc_read_list.nd rfl (Or.inl rfl)) pgs_nil)))) (pss_one (ps_expr (pe_bm PySem.F.plainAttrs_list PySem.F.slot_list_append PySem.F.type_list_append mt_append (pv 4) (pa_cons (pv 7) pa_nil)))))) (pss_one (ps_ret (pe_tup (pa_cons (pe_tup (pa_cons (pe_gi T.i_LIST) (pa_cons (pv 4) pa_nil))) (pa_cons (pv 5) pa_nil))))))))), ?_⟩
    refine ⟨_, rfl, _, rfl, _, _, _, rfl, l, b, k, 4, rfl, rfl, rfl, SqL.of hl, by omega, by decide, ?_⟩
    obtain ⟨m, em⟩ : ∃ m, m = numOf ((b.drop k).take 4) := ⟨_, rfl⟩
    rw [← em] at h2 ⊢
    rw [List.drop_drop] at h2
    obtain ⟨k1, g1, g2, g3, g4⟩ := rd_at ((eats_F n).many m) (k := k + 4) (by omega) h2
    rw [g4] at q
    refine ⟨Nat.zero_le _, fun D hD => ⟨_, rfl, _, _, rfl, rfl, ?_⟩⟩
    refine ⟨_, rfl, m, rfl, by omega, by omega, for_rng (n := m) (fun t σ H' => ∃ G' us k' l1 l2 x6 x7, σ = [some (.ref l), some (.int (k : Int)), some (.int (n : Int)), some (.int (m : Int)), some (.ref D), some (.int ((k' : Nat) : Int)), x6, x7] ∧ Ext G H G' H' ∧ H' D = some (.lst us) ∧ G' D = none ∧ l1 ++ l2 = ls ∧ Paired (fun v u => AtV G' (Rust.taken v) u) l1 us ∧ readMany (readF n) (m - t) (b.drop k') = some (l2, r) ∧ us.length = t ∧ k' ≤ b.length) ?_ ?_ ?_⟩
    · exact ⟨G, [], k + 4, [], ls, none, none, rfl, (ExtF.refl hs).mut hD, upd_same, Same.free hs hD, rfl, .nil, h2, rfl, by omega⟩
    · rintro t σ H' ht ⟨G', us, k', l1, l2, x6, x7, rfl, e1, hD', gD, el, pd, hm, lu, hk'⟩
      rw [show m - t = (m - (t + 1)) + 1 by omega] at hm
      obtain ⟨v1, r1, l3, hv1, hm3, rfl⟩ := many_succ hm
      obtain ⟨k2, j1, j2, j3, j4⟩ := rd_at (eats_F n) hk' hv1
      refine ⟨_, rfl, _, rfl, _, rfl, _, _, _, rfl, rfl, G', l, b, k', v1, r1, rfl, rfl, e1.same _ _ hl, e1.g _ _ hg, e1.sub, hz, hv1, cl v1 (by rw [← el]; exact List.mem_append_right _ (List.mem_cons_self ..)), ?_⟩
      rw [j4]
      intro G2 H2 a v e2 ha hva
      refine ⟨a, _, rfl, SqT.of (e2.sub _ _ ha), rfl, ?_⟩
      have hD2 := e2.same _ _ hD'
      refine ⟨_, _, rfl, _, _, rfl, rfl, _, rfl, .inl ⟨rfl, _, SqL.of hD2⟩, _, rfl, D, _, _, rfl, rfl, hD2, szk (by rw [lu]; omega), ?_⟩
      have gD2 : G2 D = none := e2.gnone (by rw [hD']; exact Option.some_ne_none _) gD
      refine ⟨G2, us ++ [v], k2, l1 ++ [v1], l3, some (.int (t : Int)), some v, rfl, (e1.trans e2).write (.inl hD) (by rw [hD2]; exact Option.some_ne_none _) gD2, upd_same, gD2, by rw [List.append_assoc]; exact el, Pd.snoc (Pd.mono (fun _ _ z => AtV.mono e2.g z) pd) hva, by rw [← j3]; exact hm3, by rw [List.length_append, lu]; rfl, j2⟩
    · rintro σ H' ⟨G', us, k', l1, l2, x6, x7, rfl, e1, hD', gD, el, pd, hm, lu, hk'⟩
      rw [Nat.sub_self] at hm
      obtain ⟨rfl, hr'⟩ := many_zero hm
      rw [List.append_nil] at el
      subst el
      have ek : k1 = k' := by
        have z := congrArg List.length (g3.symm.trans hr')
        rw [List.length_drop, List.length_drop] at z
        omega
      subst ek
      refine ⟨_, rfl, sz2, fun p hp => ⟨_, rfl, sz2, fun p' hp' => ?_⟩⟩
      have e3 := e1.freeze hD hD' gD
      have e4 := e3.imm (o := .tup [.int 7, .ref D]) hp
      have e5 := e4.imm (o := .tup [.ref p, .int (k1 : Int)]) hp'
      refine q _ _ p' (.ref p) e5 upd_same ?_
      have np : p ≠ p' := fun z => by rw [← z, upd_same] at hp'; cases hp'
      have nD : D ≠ p := fun z => by rw [← z, hD'] at hp; cases hp
      have nD' : D ≠ p' := fun z => by rw [← z, upd_ne nD, hD'] at hp'; cases hp'
      have s1 : Same G' (upd (upd (upd G' D (.lst us)) p (.tup [.int 7, .ref D])) p' (.tup [.ref p, .int (k1 : Int)])) := fun c o z => by
        have f1 : H' c = some o := e1.sub _ _ z
        rw [upd_ne (ne_of_none (by rw [upd_ne (ne_of_none f1 hp)]; exact f1) hp'), upd_ne (ne_of_none f1 hp), upd_ne (ne_of_none z gD)]
        exact z
      refine ⟨p, D, us, rfl, by rw [upd_ne np, upd_same], by rw [upd_ne nD', upd_ne nD, upd_same], ?_⟩
      show AtL _ (Rust.takenAll l1) us
      rw [takenAll_map]
      exact AtL.of (Pd.map_left (Pd.mono (fun _ _ z => AtV.mono s1 z) pd))
def keysOf (u : List UInt8) : List L2.Key := u.map fun o => .inl (o.toNat : Int)
theorem keys_oct (u : List UInt8) : octV u = (keysOf u).map kV := by
  unfold octV keysOf
  rw [List.map_map]
  rfl
theorem keys_inj : ∀ {u v : List UInt8}, keysOf u = keysOf v → u = v
  | [], [], _ => rfl
  | [], _ :: _, h => by cases h
  | _ :: _, [], h => by cases h
  | a :: u, b :: v, h => by
    unfold keysOf at h
    rw [List.map_cons, List.map_cons, List.cons.injEq] at h
    have e : a = b := by
      have z := Sum.inl.inj h.1
      exact UInt8.toNat_inj.mp (by omega)
    rw [e, keys_inj (u := u) (v := v) h.2]
theorem entry_some {f : List UInt8 → Option (RWire.Value × List UInt8)} {b r : List UInt8} {e : RWire.Text × RWire.Value} (h : RWire.readEntry f b = some (e, r)) : ∃ s, readText b = some (e.1, s) ∧ f s = some (e.2, r) := by
  unfold RWire.readEntry at h
  cases q : readText b with
  | none => rw [q] at h; cases h
  | some p =>
    rw [q] at h
    obtain ⟨y, s⟩ := p
    simp only at h
    cases q2 : f s with
    | none => rw [q2] at h; cases h
    | some p2 =>
      rw [q2] at h
      cases h
      exact ⟨s, rfl, q2⟩
theorem apart_mid : ∀ {l1 l2 : List (RWire.Text × RWire.Value)} {x : RWire.Text × RWire.Value}, RWire.apart (l1 ++ x :: l2) = true → ∀ y ∈ l1, y.1 ≠ x.1
  | [], _, _, _, _, hy => by cases hy
  | z :: l1, l2, x, h, y, hy => by
    rw [List.cons_append, RWire.apart, Bool.and_eq_true] at h
    rcases List.mem_cons.mp hy with rfl | hy
    · intro e
      have h1 := h.1
      rw [Bool.not_eq_true', List.any_eq_false] at h1
      exact h1 x (List.mem_append_right _ (List.mem_cons_self ..)) (by rw [e]; exact beq_self_eq_true _)
    · exact apart_mid h.2 y hy
def MemR (G : Hp) (e : RWire.Text × RWire.Value) (v : V) : Prop := MemAt G (e.1.map Rust.unitOf, Rust.taken e.2) v
theorem d_read_record {n : Nat} (T : TxtX K mg) (D_number_at : DefOk P w K mg base CX0 1 "number_at" ["octets", "at", "many"] (Sp3 (fNumberAt K))) (D_read_text : DefOk P w K mg base CX0 2 "read_text" ["octets", "at"] (Sp2 fReadText)) (D_read_value : RvOk P w K mg base n) (F : Fs K mg "read_record" s_read_record) : DefOk P w K mg base CX0 (2 * n + 3) "read_record" ["octets", "at", "room"] (Sp3 (fRdR n (readRecord (readF n)))) :=
  def_C F sc_read_record bd_read_record fun f cdv A outer s H vs Q E hr h => by
    obtain ⟨_, _, _, rfl, rfl, G, l, b, k, v, r, rfl, rfl, hl, hg, hs, hz, hv, hc, q⟩ := h
    obtain ⟨ls, h1, h2, ap, rfl⟩ := record_some hv
    have cl := clean_rec hc
    rw [List.length_drop] at h1
    refine ⟨_, (pss_cons (ps_set (i := 3) sc_read_record.nd rfl (Or.inl rfl) (pe_d D_number_at (hr.mono (by omega)) pass0 (pa_cons (pv 0) (pa_cons (pv 1) (pa_cons pe_int pa_nil))))) (pss_cons (ps_set (i := 4) sc_read_record.nd rfl (Or.inl rfl) (pe_lst pa_nil)) (pss_cons (ps_set (i := 5) sc_read_record.nd rfl (Or.inl rfl) pe_dnewT) (pss_cons (ps_set (i := 6) sc_read_record.nd rfl (Or.inl rfl) (pe_op op_add (pv 1) pe_int)) (pss_cons (ps_for PassesOwn.never rfl (pi_range1 rfl T.z_range (pa_cons (pv 3) pa_nil)) (pg_name (i := 7) sc_read_record.nd rfl (Or.inl rfl)) (pss_cons (ps_asg (pe_d D_read_text (hr.mono (by omega)) pass0 (pa_cons (pv 0) (pa_cons (pv 6) pa_nil))) (pg_tup rfl (pgs_cons (pg_name (i := 8) sc_read_record.nd rfl (Or.inl rfl)) (pgs_cons (pg_name (i := 6) sc_read_record.nd rfl (Or.inl rfl)) pgs_nil)))) (pss_cons (ps_if (pt_cmp (pc_din (hu_of hr) (pe_callTy call_tuple_of (by rfl) T.z_tuple (by decide +kernel) (pa_cons (pv 8) pa_nil)) (pv 5))) (pss_one ps_never) pss_nil) (pss_cons (ps_dput (hu_of hr) (pv 5) (pe_callTy call_tuple_of (by rfl) T.z_tuple (by decide +kernel) (pa_cons (pv 8) pa_nil)) pe_bl rfl) (pss_cons (ps_asg (pe_d D_read_value (hr.mono (by omega)) pass0 (pa_cons (pv 0) (pa_cons (pv 6) (pa_cons (pv 2) pa_nil)))) (pg_tup rfl (pgs_cons (pg_name (i := 9) sc_read_record.nd rfl (Or.inl rfl)) (pgs_cons (pg_name (i := 6) sc_read_record.nd rfl (Or.inl rfl)) pgs_nil)))) (pss_one (ps_expr (pe_bm PySem.F.plainAttrs_list PySem.F.slot_list_append PySem.F.type_list_append mt_append (pv 4) (pa_cons (pe_tup (pa_cons (pv 8) (pa_cons (pv 9) pa_nil))) pa_nil))))))))) (pss_one (ps_ret (pe_tup (pa_cons (pe_tup (pa_cons (pe_gi T.i_RECORD) (pa_cons (pv 4) pa_nil))) (pa_cons (pv 6) pa_nil)))))))))), ?_⟩
    refine ⟨_, rfl, _, rfl, _, _, _, rfl, l, b, k, 4, rfl, rfl, rfl, SqL.of hl, by omega, by decide, ?_⟩
    obtain ⟨m, em⟩ : ∃ m, m = numOf ((b.drop k).take 4) := ⟨_, rfl⟩
    rw [← em] at h2 ⊢
    rw [List.drop_drop] at h2
    obtain ⟨k1, g1, g2, g3, g4⟩ := rd_at ((eats_entry (eats_F n)).many m) (k := k + 4) (by omega) h2
    rw [g4] at q
    refine ⟨Nat.zero_le _, fun D hD S hS => ⟨_, rfl, _, _, rfl, rfl, ?_⟩⟩
    have eD := (ExtF.refl (F := NoF) hs).mut (o := .lst []) hD
    have hS0 := eD.free hS
    have nSD : D ≠ S := fun z => by rw [← z, upd_same] at hS; cases hS
    refine ⟨_, rfl, m, rfl, by omega, by omega, for_rng (n := m) (fun t σ H' => ∃ G' us kvs k' l1 l2 x7 x8 x9, σ = [some (.ref l), some (.int (k : Int)), some (.int (n : Int)), some (.int (m : Int)), some (.ref D), some (.ref S), some (.int ((k' : Nat) : Int)), x7, x8, x9] ∧ Ext G H G' H' ∧ H' D = some (.lst us) ∧ G' D = none ∧ H' S = some (.dT kvs) ∧ G' S = none ∧ l1 ++ l2 = ls ∧ Paired (MemR G') l1 us ∧ readMany (RWire.readEntry (readF n)) (m - t) (b.drop k') = some (l2, r) ∧ us.length = t ∧ kvs.length ≤ t ∧ (∀ key, (valV kvs key).isSome = true → ∃ e, e ∈ l1 ∧ key = keysOf e.1) ∧ k' ≤ b.length) ?_ ?_ ?_⟩
    · exact ⟨G, [], [], k + 4, [], ls, none, none, none, rfl, eD.mut hS, by rw [upd_ne nSD, upd_same], Same.free hs hD, upd_same, Same.free hs hS0, rfl, .nil, h2, rfl, Nat.le_refl _, (fun _ z => by cases z), by omega⟩
    · rintro t σ H' ht ⟨G', us, kvs, k', l1, l2, x7, x8, x9, rfl, e1, hD', gD, hS', gS, el, pd, hm, lu, lk, hk, hk'⟩
      rw [show m - t = (m - (t + 1)) + 1 by omega] at hm
      obtain ⟨e, r2, l3, hv1, hm3, rfl⟩ := many_succ hm
      obtain ⟨r1, ht1, hv2⟩ := entry_some hv1
      obtain ⟨kt, i1, i2, rfl, i4⟩ := rd_at eats_text hk' ht1
      obtain ⟨k2, j1, j2, j3, j4⟩ := rd_at (eats_F n) i2 hv2
      refine ⟨_, rfl, _, rfl, _, _, rfl, G', l, b, k', e.1, _, rfl, rfl, e1.same _ _ hl, e1.sub, hz, ht1, ?_⟩
      rw [i4]
      intro G2 H2 a lu2 e2 ha hlu
      have neD : H' D ≠ none := by rw [hD']; exact Option.some_ne_none _
      have neS : H' S ≠ none := by rw [hS']; exact Option.some_ne_none _
      refine ⟨a, _, rfl, SqT.of (e2.sub _ _ ha), rfl, _, _, rfl, _, _, rfl, rfl, ?_⟩
      have no : valV kvs (keysOf e.1) = none := by
        cases z : valV kvs (keysOf e.1) with
        | none => rfl
        | some w =>
          obtain ⟨e', m', k'e⟩ := hk _ (by rw [z]; rfl)
          exact absurd (keys_inj k'e).symm (apart_mid (by rw [el]; exact ap) e' m')
      refine ⟨_, rfl, lu2, _, rfl, .inl ⟨SqL.of (e2.sub _ _ hlu), fun p hp => ?_⟩⟩
      have e3 := e2.imm (o := .tup (octV e.1)) hp
      refine ⟨_, rfl, S, _, rfl, DGet.t (k := keysOf e.1) (e3.same _ _ hS') (by rw [upd_same, keys_oct]), _, rfl, ?_⟩
      rw [no]
      refine iteF ?_
      dsimp only [tNext]
      refine ⟨_, rfl, _, rfl, lu2, _, rfl, .inl ⟨SqL.of (e3.sub _ _ (by rw [upd_ne (ne_of_none hlu (Same.free e2.sub hp))]; exact hlu)), fun p2 hp2 => ?_⟩⟩
      have e4 := e3.imm (o := .tup (octV e.1)) hp2
      refine ⟨S, _, rfl, DPut.t (k := keysOf e.1) (e4.same _ _ hS') (by rw [upd_same, keys_oct]) (szk (by omega)), ?_⟩
      have gD4 := e4.gnone neD gD
      have gS4 := e4.gnone neS gS
      have hD4 := e4.same _ _ hD'
      have hS4 := e4.same _ _ hS'
      have e5 := (e1.trans e4).write (p := S) (o := .dT (putK kvs (keysOf e.1) (.bl true))) (.inl hS0) (by rw [hS4]; exact Option.some_ne_none _) gS4
      generalize hG4 : upd (upd G2 p (HO.tup (octV e.1))) p2 (HO.tup (octV e.1)) = G4 at *
      generalize hH4 : upd (upd H2 p (HO.tup (octV e.1))) p2 (HO.tup (octV e.1)) = H4 at *
      have hD5 : upd H4 S (.dT (putK kvs (keysOf e.1) (.bl true))) D = some (.lst us) := by rw [upd_ne nSD]; exact hD4
      have hS5 : upd H4 S (.dT (putK kvs (keysOf e.1) (.bl true))) S = some (.dT (putK kvs (keysOf e.1) (.bl true))) := upd_same
      have hlu4 : G4 lu2 = some (.lst (octV e.1)) := by
        have f1 := e2.sub _ _ hlu
        rw [← hG4, upd_ne (ne_of_none (by rw [upd_ne (ne_of_none hlu (Same.free e2.sub hp))]; exact hlu) (Same.free e3.sub hp2)), upd_ne (ne_of_none hlu (Same.free e2.sub hp))]
        exact hlu
      generalize upd H4 S (.dT (putK kvs (keysOf e.1) (.bl true))) = H5 at *
      refine ⟨_, rfl, _, rfl, _, rfl, _, _, _, rfl, rfl, G4, l, b, kt, e.2, r2, rfl, rfl, e5.same _ _ hl, e5.g _ _ hg, e5.sub, hz, hv2, cl e (by rw [← el]; exact List.mem_append_right _ (List.mem_cons_self ..)), ?_⟩
      rw [j4]
      intro G6 H6 a6 v e6 ha6 hv6
      refine ⟨a6, _, rfl, SqT.of (e6.sub _ _ ha6), rfl, ?_⟩
      have hD6 := e6.same _ _ hD5
      have hS6 := e6.same _ _ hS5
      have gD6 := e6.gnone (by rw [hD5]; exact Option.some_ne_none _) gD4
      have gS6 := e6.gnone (by rw [hS5]; exact Option.some_ne_none _) gS4
      refine ⟨_, _, rfl, _, _, rfl, rfl, _, rfl, .inl ⟨rfl, _, SqL.of hD6⟩, _, rfl, _, rfl, sz2, fun p7 hp7 => ?_⟩
      have e7 := (e5.trans e6).imm (o := .tup [.ref lu2, v]) hp7
      have nD7 : D ≠ p7 := fun z => by rw [← z, hD6] at hp7; cases hp7
      have nS7 : S ≠ p7 := fun z => by rw [← z, hS6] at hp7; cases hp7
      have hD7 : upd H6 p7 (.tup [.ref lu2, v]) D = some (.lst us) := by rw [upd_ne nD7]; exact hD6
      have gD7 : upd G6 p7 (.tup [.ref lu2, v]) D = none := by rw [upd_ne nD7]; exact gD6
      refine ⟨D, _, _, rfl, rfl, hD7, szk (by rw [lu]; omega), ?_⟩
      have s6 : Same G6 (upd G6 p7 (.tup [.ref lu2, v])) := fun c o z => by
        rw [upd_ne (ne_of_none z (Same.free e6.sub hp7))]
        exact z
      have s1 : Same G' (upd G6 p7 (.tup [.ref lu2, v])) := fun c o z => s6 _ _ (e6.g _ _ (e4.g _ _ z))
      refine ⟨_, us ++ [.ref p7], _, k2, l1 ++ [e], l3, some (.int (t : Int)), some (.ref lu2), some v, rfl, e7.write (.inl hD) (by rw [hD7]; exact Option.some_ne_none _) gD7, upd_same, gD7, by rw [upd_ne (Ne.symm nSD), upd_ne nS7]; exact hS6, by rw [upd_ne nS7]; exact gS6, by rw [List.append_assoc]; exact el, Pd.snoc (Pd.mono (fun _ _ z => z.mono s1) pd) ⟨p7, lu2, v, rfl, upd_same, ?_, AtV.mono s6 hv6⟩, by rw [← j3]; exact hm3, by rw [List.length_append, lu]; rfl, Nat.le_trans (length_putK ..) (by omega), ?_, j2⟩
      · show upd G6 p7 _ lu2 = some (.lst (ulst (e.1.map Rust.unitOf)))
        rw [ulst_unit]
        exact s6 _ _ (e6.g _ _ hlu4)
      · intro key z
        rw [valV_put] at z
        by_cases c : key = keysOf e.1
        · exact ⟨e, List.mem_append_right _ (List.mem_cons_self ..), c⟩
        · rw [if_neg c] at z
          obtain ⟨e', m', ke⟩ := hk key z
          exact ⟨e', List.mem_append_left _ m', ke⟩
    · rintro σ H' ⟨G', us, kvs, k', l1, l2, x7, x8, x9, rfl, e1, hD', gD, hS', gS, el, pd, hm, lu, lk, hk, hk'⟩
      rw [Nat.sub_self] at hm
      obtain ⟨rfl, hr'⟩ := many_zero hm
      rw [List.append_nil] at el
      subst el
      have ek : k1 = k' := by
        have z := congrArg List.length (g3.symm.trans hr')
        rw [List.length_drop, List.length_drop] at z
        omega
      subst ek
      refine ⟨_, rfl, sz2, fun p hp => ⟨_, rfl, sz2, fun p' hp' => ?_⟩⟩
      have e3 := e1.freeze hD hD' gD
      have e4 := e3.imm (o := .tup [.int 8, .ref D]) hp
      have e5 := e4.imm (o := .tup [.ref p, .int (k1 : Int)]) hp'
      refine q _ _ p' (.ref p) e5 upd_same ?_
      have np : p ≠ p' := fun z => by rw [← z, upd_same] at hp'; cases hp'
      have nD : D ≠ p := fun z => by rw [← z, hD'] at hp; cases hp
      have nD' : D ≠ p' := fun z => by rw [← z, upd_ne nD, hD'] at hp'; cases hp'
      have s1 : Same G' (upd (upd (upd G' D (.lst us)) p (.tup [.int 8, .ref D])) p' (.tup [.ref p, .int (k1 : Int)])) := fun c o z => by
        have f1 : H' c = some o := e1.sub _ _ z
        rw [upd_ne (ne_of_none (by rw [upd_ne (ne_of_none f1 hp)]; exact f1) hp'), upd_ne (ne_of_none f1 hp), upd_ne (ne_of_none z gD)]
        exact z
      refine ⟨p, D, us, rfl, by rw [upd_ne np, upd_same], by rw [upd_ne nD', upd_ne nD, upd_same], ?_⟩
      show AtM _ (Rust.takenFields l1) us
      rw [takenFields_map]
      exact AtM.of (Pd.map_left (Pd.mono (fun _ _ z => MemAt.mono s1 z) pd))
theorem d_read_value0 (F : Fs K mg "read_value" s_read_value) : RvOk P w K mg base 0 :=
  def_C F sc_read_value bd_read_value fun f cdv A outer s H vs Q E hr h => by
    obtain ⟨_, _, _, rfl, rfl, G, l, b, k, v, r, rfl, rfl, hl, hg, hs, hz, hv, hc, q⟩ := h
    rw [readF] at hv
    cases hv
theorem d_read_value1 {n : Nat} (T : TxtX K mg) (D_octet_at : DefOk P w K mg base CX0 1 "octet_at" ["octets", "at"] (Sp2 (fOctetAt K))) (D_read_integer : DefOk P w K mg base CX0 2 "read_integer" ["octets", "at"] (Sp2 (fRd readInt))) (D_read_text : DefOk P w K mg base CX0 2 "read_text" ["octets", "at"] (Sp2 fReadText)) (D_read_list : DefOk P w K mg base CX0 (2 * n + 3) "read_list" ["octets", "at", "room"] (Sp3 (fRdR n (readList (readF n))))) (D_read_record : DefOk P w K mg base CX0 (2 * n + 3) "read_record" ["octets", "at", "room"] (Sp3 (fRdR n (readRecord (readF n))))) (F : Fs K mg "read_value" s_read_value) : RvOk P w K mg base (n + 1) :=
  def_C F sc_read_value bd_read_value fun f cdv A outer s H vs Q E hr h => by
    obtain ⟨_, _, _, rfl, rfl, G, l, b, k, v, r, rfl, rfl, hl, hg, hs, hz, hv, hc, q⟩ := h
    have hk : k < b.length := by
      by_cases c : k < b.length
      · exact c
      · rw [List.drop_eq_nil_of_le (by omega), readF] at hv
        cases hv
    rw [List.drop_eq_getElem_cons hk, readF] at hv
    have rd := read1 hv hc
    have ho : (b[k]).toNat < 256 := (b[k]).toNat_lt
    generalize ek : (b[k]).toNat = o at *
    refine ⟨_, (pss_cons (ps_if (pt_cmpR op_eq (pv 2) pe_int (nomark _)) (pss_one ps_never) pss_nil) (pss_cons (ps_set (i := 3) sc_read_value.nd rfl (Or.inl rfl) (pe_d D_octet_at (hr.mono (by omega)) pass0 (pa_cons (pv 0) (pa_cons (pv 1) pa_nil)))) (pss_cons (ps_if (pt_cmpR op_le (pv 3) (pe_gi T.i_TRUE) (nomark _)) (pss_one (ps_ret (pe_tup (pa_cons (pe_tup (pa_cons (pv 3) (pa_cons pe_int pa_nil))) (pa_cons (pe_op op_add (pv 1) pe_int) pa_nil))))) pss_nil) (pss_cons (ps_if (pt_cmpR op_eq (pv 3) (pe_gi T.i_INTEGER) (nomark _)) (pss_one (ps_ret (pe_d D_read_integer (hr.mono (by omega)) pass0 (pa_cons (pv 0) (pa_cons (pe_op op_add (pv 1) pe_int) pa_nil))))) pss_nil) (pss_cons (ps_if (pt_cmpR op_eq (pv 3) (pe_gi T.i_TEXT) (nomark _)) (pss_cons (ps_asg (pe_d D_read_text (hr.mono (by omega)) pass0 (pa_cons (pv 0) (pa_cons (pe_op op_add (pv 1) pe_int) pa_nil))) (pg_tup rfl (pgs_cons (pg_name (i := 4) sc_read_value.nd rfl (Or.inl rfl)) (pgs_cons (pg_name (i := 5) sc_read_value.nd rfl (Or.inl rfl)) pgs_nil)))) (pss_one (ps_ret (pe_tup (pa_cons (pe_tup (pa_cons (pe_gi T.i_TEXT) (pa_cons (pv 4) pa_nil))) (pa_cons (pv 5) pa_nil)))))) pss_nil) (pss_cons (ps_if (pt_cmpR op_eq (pv 3) (pe_gi T.i_LIST) (nomark _)) (pss_one (ps_ret (pe_d D_read_list (hr.mono (by omega)) pass0 (pa_cons (pv 0) (pa_cons (pe_op op_add (pv 1) pe_int) (pa_cons (pe_op op_sub (pv 2) pe_int) pa_nil)))))) pss_nil) (pss_cons (ps_if (pt_cmpR op_eq (pv 3) (pe_gi T.i_RECORD) (nomark _)) (pss_one (ps_ret (pe_d D_read_record (hr.mono (by omega)) pass0 (pa_cons (pv 0) (pa_cons (pe_op op_add (pv 1) pe_int) (pa_cons (pe_op op_sub (pv 2) pe_int) pa_nil)))))) pss_nil) (pss_one ps_never)))))))), ?_⟩
    dsimp only
    refine tSeq_if ⟨_, rfl, rfl, _, rfl, ?_⟩
    rw [deN (by omega : ((n + 1 : Nat) : Int) ≠ 0)]
    refine iteF ?_
    dsimp only [tNext]
    refine ⟨_, rfl, _, rfl, _, _, rfl, l, b, k, hk, rfl, rfl, SqL.of hl, ?_⟩
    rw [ek]
    dsimp only
    refine tSeq_if ⟨_, rfl, _, _, rfl, rfl, _, rfl, ?_⟩
    have en1 : V.int (((n + 1 : Nat) : Int) - 1) = V.int (n : Int) := by
      rw [show ((n + 1 : Nat) : Int) - 1 = (n : Int) by omega]
    have ed : ∀ {r0 : List UInt8} {j : Nat}, r0 = (b.drop (k + 1)).drop j → r0 = b.drop (k + 1 + j) := fun e => by rw [e, List.drop_drop]
    cases rd with
    | low h hv2 hr2 =>
      rw [decide_eq_true (by omega : (o : Int) ≤ 3)]
      subst hr2
      rw [List.length_drop, show b.length - (b.length - (k + 1)) = k + 1 by omega] at q
      refine iteT ⟨_, rfl, sz2, fun p hp => ⟨_, rfl, _, _, rfl, rfl, sz2, fun p' hp' => ?_⟩⟩
      have e1 := (ExtF.refl (F := NoF) hs).imm (o := .tup [.int (o : Int), .int 0]) hp
      have e2 := e1.imm (o := .tup [.ref p, .int ((k : Int) + 1)]) hp'
      have np : p ≠ p' := fun z => by rw [← z, upd_same] at hp'; cases hp'
      refine q _ _ p' (.ref p) e2 upd_same ?_
      have hp2 : upd (upd G p (HO.tup [V.int (o : Int), V.int 0])) p' (HO.tup [V.ref p, V.int ((k : Int) + 1)]) p = some (.tup [.int (o : Int), .int 0]) := by rw [upd_ne np, upd_same]
      subst hv2
      match o, h with
      | 0, _ => exact ⟨p, rfl, hp2⟩
      | 1, _ => exact ⟨p, rfl, hp2⟩
      | 2, _ => exact ⟨p, rfl, hp2⟩
      | 3, _ => exact ⟨p, rfl, hp2⟩
    | int h q1 =>
      subst h
      refine iteF ?_
      dsimp only [tNext]
      refine tSeq_if ⟨_, rfl, rfl, _, rfl, iteT ?_⟩
      exact ⟨_, rfl, _, rfl, _, _, rfl, rfl, _, _, rfl, G, l, b, k + 1, v, r, rfl, rfl, hl, hg, hs, hz, q1, hc, q⟩
    | text h u q1 hv2 =>
      subst h hv2
      refine iteF ?_
      dsimp only [tNext]
      refine tSeq_if ⟨_, rfl, rfl, _, rfl, iteF ?_⟩
      dsimp only [tNext]
      refine tSeq_if ⟨_, rfl, rfl, _, rfl, iteT ?_⟩
      refine ⟨_, rfl, _, rfl, _, _, rfl, rfl, _, _, rfl, G, l, b, k + 1, u, r, rfl, rfl, hl, hs, hz, q1, ?_⟩
      intro G2 H2 a lu e2 ha hlu
      refine ⟨a, _, rfl, SqT.of (e2.sub _ _ ha), rfl, _, _, rfl, _, _, rfl, rfl, _, rfl, sz2, fun p hp => ⟨_, rfl, sz2, fun p' hp' => ?_⟩⟩
      have e3 := e2.imm (o := .tup [.int 6, .ref lu]) hp
      have e4 := e3.imm (o := .tup [.ref p, .int ((b.length - r.length : Nat) : Int)]) hp'
      have np : p ≠ p' := fun z => by rw [← z, upd_same] at hp'; cases hp'
      refine q _ _ p' (.ref p) e4 upd_same ⟨p, lu, rfl, by rw [upd_ne np, upd_same], ?_⟩
      rw [ulst_unit]
      have f1 := e2.sub _ _ hlu
      rw [upd_ne (ne_of_none (by rw [upd_ne (ne_of_none f1 hp)]; exact f1) hp'), upd_ne (ne_of_none f1 hp)]
      exact hlu
    | list h q1 =>
      subst h
      refine iteF ?_
      dsimp only [tNext]
      refine tSeq_if ⟨_, rfl, rfl, _, rfl, iteF ?_⟩
      dsimp only [tNext]
      refine tSeq_if ⟨_, rfl, rfl, _, rfl, iteF ?_⟩
      dsimp only [tNext]
      refine tSeq_if ⟨_, rfl, rfl, _, rfl, iteT ?_⟩
      exact ⟨_, rfl, _, rfl, _, _, rfl, rfl, _, rfl, _, _, rfl, rfl, _, _, _, rfl, en1, G, l, b, k + 1, v, r, rfl, rfl, hl, hg, hs, hz, q1, hc, q⟩
    | record h q1 =>
      subst h
      refine iteF ?_
      dsimp only [tNext]
      refine tSeq_if ⟨_, rfl, rfl, _, rfl, iteF ?_⟩
      dsimp only [tNext]
      refine tSeq_if ⟨_, rfl, rfl, _, rfl, iteF ?_⟩
      dsimp only [tNext]
      refine tSeq_if ⟨_, rfl, rfl, _, rfl, iteF ?_⟩
      dsimp only [tNext]
      refine tSeq_if ⟨_, rfl, rfl, _, rfl, iteT ?_⟩
      exact ⟨_, rfl, _, rfl, _, _, rfl, rfl, _, rfl, _, _, rfl, rfl, _, _, _, rfl, en1, G, l, b, k + 1, v, r, rfl, rfl, hl, hg, hs, hz, q1, hc, q⟩
theorem rv_all (T : TxtX K mg) (F1 : Fs K mg "octet_at" s_octet_at) (F2 : Fs K mg "number_at" s_number_at) (F3 : Fs K mg "read_integer" s_read_integer) (F4 : Fs K mg "read_text" s_read_text) (F5 : Fs K mg "read_list" s_read_list) (F6 : Fs K mg "read_record" s_read_record) (F7 : Fs K mg "read_value" s_read_value) : ∀ n, RvOk P w K mg base n
  | 0 => d_read_value0 F7
  | n + 1 =>
    have ih := rv_all T F1 F2 F3 F4 F5 F6 F7 n
    have D2 := d_number_at T F2
    d_read_value1 T (d_octet_at T F1) (d_read_integer T D2 F3) (d_read_text T D2 F4) (d_read_list T D2 ih F5) (d_read_record T D2 (d_read_text T D2 F4) ih F6) F7
end
end Ov
set_option maxHeartbeats 4000000
/-! V17: limits; requests as a whole. -/
namespace Ov
open PySem PySem.Spec PyProof.Rows L2
open R7237f.Spec (Plain Units isIndexName)
open RWire (numOf readF readMany readText readInt readList readRecord intOf)
theorem tIf_of {c : TT} {t e : TS} {D : Ends} {σ : St} {H : Hp} (h : c σ H fun b H1 => if b = true then t D σ H1 else e D σ H1) : tIfS c t e D σ H := h
section
variable {P : Program} {w : World} {K : PySem.W.Frag} {mg : Str → Option Value} {base : Heap}
def fIsDigits (K : PySem.W.Frag) : V → Hp → VK → XK → Prop := fun a H Q _ => ∃ l u, a = .ref l ∧ SqL K H l (ulst u) ∧ Q (.bl (isIndexName u)) H
theorem dig_eq (x : UInt16) : (48 ≤ x && x ≤ 57 : Bool) = (decide (48 ≤ x.toNat) && decide (x.toNat ≤ 57)) := rfl
theorem d_is_digits (T : TxtX K mg) (F : Fs K mg "is_digits" s_is_digits) : DefOk P w K mg base CX0 1 "is_digits" ["name"] (Sp1 (fIsDigits K)) :=
  def_C F sc_is_digits bd_is_digits fun f cdv A outer s H vs Q E hr h => by
    obtain ⟨_, rfl, l, u, rfl, hl, q⟩ := h
    refine ⟨_, (pss_cons (ps_for PassesOwn.never rfl (pi_list (pv 0)) (pg_name (i := 1) sc_is_digits.nd rfl (Or.inl rfl)) (pss_one (ps_if (PW.pt (pw_or (pt_cmpR op_lt (pv 1) pe_int (nomark _)) (pw_or1 (pt_cmpR op_gt (pv 1) pe_int (nomark _))))) (pss_one (ps_ret pe_bl)) pss_nil))) (pss_one (ps_ret (pe_cmpR op_gt (pe_callB call_len_seq (by rfl) T.z_len PySem.boot_len (pa_cons (pv 0) pa_nil)) pe_int (nomark _))))), ?_⟩
    refine ⟨_, rfl, l, rfl, ⟨_, hl⟩, for_run (K := K) (a := l) (xs := ulst u) (fun r σ H' => H' = H ∧ (∃ x1, σ = [some (.ref l), x1]) ∧ ∃ rest, r = ulst rest ∧ isIndexName u = (!u.isEmpty && rest.all fun x => 48 ≤ x && x ≤ 57)) ⟨rfl, ⟨_, rfl⟩, u, rfl, rfl⟩ ?_ ?_ ?_⟩
    · rintro r σ H' ⟨rfl, _⟩
      exact hl
    · rintro v r σ H' ⟨rfl, ⟨x1, rfl⟩, rest, er, ei⟩
      cases rest with
      | nil => cases er
      | cons c rest =>
      cases er
      rw [List.all_cons, dig_eq] at ei
      refine tIf_of (tOr_pure (decide (c.toNat < 48)) (decide (57 < c.toNat)) (fun Q' z => ?_) (fun Q' z => ?_) ?_)
      · refine ⟨_, rfl, _, _, rfl, rfl, _, rfl, ?_⟩
        rw [show decide ((c.toNat : Int) < 48) = decide (c.toNat < 48) from decide_eq_decide.mpr (by omega)]
        exact z
      · refine ⟨_, rfl, _, _, rfl, rfl, _, rfl, ?_⟩
        rw [show decide ((57 : Int) < (c.toNat : Int)) = decide (57 < c.toNat) from decide_eq_decide.mpr (by omega)]
        exact z
      · by_cases c1 : 48 ≤ c.toNat ∧ c.toNat ≤ 57
        · rw [decide_eq_false (by omega : ¬ c.toNat < 48), decide_eq_false (by omega : ¬ 57 < c.toNat)]
          rw [decide_eq_true c1.1, decide_eq_true c1.2] at ei
          exact iteF ⟨rfl, ⟨_, rfl⟩, rest, rfl, ei⟩
        · have e1 : (decide (c.toNat < 48) || decide (57 < c.toNat)) = true := by
            by_cases c2 : c.toNat < 48
            · rw [decide_eq_true c2]; rfl
            · rw [decide_eq_true (by omega : 57 < c.toNat), Bool.or_true]
          have e2 : (decide (48 ≤ c.toNat) && decide (c.toNat ≤ 57)) = false := by
            rw [Bool.and_eq_false_iff, decide_eq_false_iff_not, decide_eq_false_iff_not]
            omega
          rw [e1]
          rw [e2, Bool.false_and, Bool.and_false] at ei
          rw [ei] at q
          exact iteT q
    · rintro σ H' ⟨rfl, ⟨x1, rfl⟩, rest, er, ei⟩
      cases rest with
      | cons c rest => cases er
      | nil =>
      refine ⟨_, rfl, l, _, rfl, .inl hl, _, _, rfl, rfl, ?_⟩
      rw [ei] at q
      cases u with
      | nil => exact q
      | cons c u =>
        show Q (V.bl (decide ((0 : Int) < ((ulst (c :: u)).length : Int)))) _
        rw [show decide ((0 : Int) < ((ulst (c :: u)).length : Int)) = true from decide_eq_true (by show (0 : Int) < (((ulst u).length + 1 : Nat) : Int); omega)]
        exact q
/-- with its room, one less than n; at 0: never -/
def fSizeOf : Nat → V → V → Hp → VK → XK → Prop
  | 0 => fun _ _ _ _ _ => False
  | n + 1 => fun a c H Q _ => ∃ G p, c = .int (n : Int) ∧ Same G H ∧ AtV G p a ∧ Plain.withinDepth n p = true ∧ Q (.int (Plain.size n p : Int)) H
def fSizeRec (K0 : PySem.W.Frag) : Nat → V → V → Hp → VK → XK → Prop
  | 0 => fun _ _ _ _ _ => False
  | n + 1 => fun a c H Q _ => ∃ G l vs fs, a = .ref l ∧ c = .int (n : Int) ∧ Same G H ∧ SqL K0 H l vs ∧ AtM G fs vs ∧ Plain.withinDepth (n + 1) (.obj fs) = true ∧ Q (.int ((fs.map fun f => f.1.length + Plain.size n f.2).sum : Nat)) H
abbrev SzOk (P : Program) (w : World) (K : PySem.W.Frag) (mg : Str → Option Value) (base : Heap) (n : Nat) : Prop := DefOk P w K mg base CX0 (2 * n + 1) "size_of" ["value", "room"] (Sp2 (fSizeOf n))
abbrev SrOk (P : Program) (w : World) (K : PySem.W.Frag) (mg : Str → Option Value) (base : Heap) (n : Nat) : Prop := DefOk P w K mg base CX0 (2 * n + 2) "size_of_record" ["members", "room"] (Sp2 (fSizeRec K n))
theorem d_size_of0 (F : Fs K mg "size_of" s_size_of) : SzOk P w K mg base 0 :=
  def_C F sc_size_of bd_size_of fun f cdv A outer s H vs Q E hr h => by
    obtain ⟨_, _, rfl, h⟩ := h
    exact h.elim
theorem sum_snoc (l : List Nat) (x : Nat) : (l ++ [x]).sum = l.sum + x := by
  rw [List.sum_append, List.sum_cons, List.sum_nil, Nat.add_zero]
theorem d_size_rec {n : Nat} (T : TxtX K mg) (D_is_digits : DefOk P w K mg base CX0 1 "is_digits" ["name"] (Sp1 (fIsDigits K))) (D_size_of : SzOk P w K mg base n) (F : Fs K mg "size_of_record" s_size_of_record) : SrOk P w K mg base n :=
  def_C F sc_size_of_record bd_size_of_record fun f cdv A outer s H vs Q E hr h => by
    obtain ⟨_, _, rfl, h⟩ := h
    cases n with
    | zero => exact h.elim
    | succ n =>
    obtain ⟨G, l, vs, fs, rfl, rfl, hs, hl, hv, hw, q⟩ := h
    rw [Plain.withinDepth, Bool.and_eq_true, Bool.and_eq_true, Bool.and_eq_true] at hw
    obtain ⟨⟨⟨w1, w2⟩, w3⟩, w4⟩ := hw
    have w1 := of_decide_eq_true w1
    have pd := hv.pd
    have ln := Pd.len pd
    refine ⟨_, (pss_cons (ps_if (pt_cmpR op_gt (pe_callB call_len_seq (by rfl) T.z_len PySem.boot_len (pa_cons (pv 0) pa_nil)) pe_int (nomark _)) (pss_one ps_never) pss_nil) (pss_cons (ps_set (i := 2) sc_size_of_record.nd rfl (Or.inl rfl) pe_int) (pss_cons (ps_for PassesOwn.never rfl (pi_list (pv 0)) (pg_tup rfl (pgs_cons (pg_name (i := 3) sc_size_of_record.nd rfl (Or.inl rfl)) (pgs_cons (pg_name (i := 4) sc_size_of_record.nd rfl (Or.inl rfl)) pgs_nil))) (pss_cons (ps_if (pt_val (pe_d D_is_digits (hr.mono (by omega)) pass0 (pa_cons (pv 3) pa_nil))) (pss_one ps_never) pss_nil) (pss_one (ps_aug (i := 2) sc_size_of_record.nd rfl (Or.inl rfl) (pe_op op_add (pe_callB call_len_seq (by rfl) T.z_len PySem.boot_len (pa_cons (pv 3) pa_nil)) (pe_d D_size_of (hr.mono (by omega)) pass0 (pa_cons (pv 4) (pa_cons (pv 1) pa_nil)))) ip_add)))) (pss_one (ps_ret (pv 2)))))), ?_⟩
    dsimp only
    refine tSeq_if ?_
    refine ⟨_, rfl, l, _, rfl, .inl hl, _, _, rfl, rfl, _, rfl, ?_⟩
    rw [decide_eq_false (by unfold R7237f.Spec.maxProperties at w1; omega : ¬ (100 : Int) < (vs.length : Int))]
    refine iteF ?_
    dsimp only [tNext]
    refine ⟨_, rfl, l, rfl, ⟨_, hl⟩, for_run (K := K) (a := l) (xs := vs) (fun r σ H' => H' = H ∧ ∃ l1 l2 x3 x4, σ = [some (.ref l), some (.int (n : Int)), some (.int ((l1.map fun f => f.1.length + Plain.size n f.2).sum : Nat)), x3, x4] ∧ l1 ++ l2 = fs ∧ Paired (MemAt G) l2 r) ?_ ?_ ?_ ?_⟩
    · exact ⟨rfl, [], fs, _, _, rfl, rfl, pd⟩
    · rintro r σ H' ⟨rfl, _⟩
      exact hl
    · rintro v r σ H' ⟨rfl, l1, l2, x3, x4, rfl, el, pr⟩
      cases pr with
      | cons hm pr =>
      rename_i m l2
      obtain ⟨a, ln, x, rfl, h1, h2, h3⟩ := hm
      refine ⟨a, _, rfl, SqT.of (hs _ _ h1), rfl, _, _, rfl, _, _, rfl, rfl, ?_⟩
      dsimp only
      have mm : m ∈ fs := by rw [← el]; exact List.mem_append_right _ (List.mem_cons_self ..)
      have nd : isIndexName m.1 = false := by
        have z := List.all_eq_true.mp w3 m mm
        rw [Bool.not_eq_true'] at z
        exact z
      have hn : SqL K _ ln (ulst m.1) := SqL.of (hs _ _ h2)
      refine tSeq_if ⟨_, rfl, _, rfl, ln, m.1, rfl, hn, _, rfl, ?_⟩
      rw [nd]
      refine iteF ?_
      dsimp only [tNext]
      refine ⟨_, rfl, _, rfl, ln, _, rfl, .inl hn, _, rfl, _, rfl, _, _, rfl, G, m.2, rfl, hs, h3, List.all_eq_true.mp w4 m mm, _, _, rfl, rfl, ?_⟩
      refine ⟨_, _, rfl, rfl, rfl, l1 ++ [m], l2, some (.ref ln), some x, ?_, by rw [List.append_assoc]; exact el, pr⟩
      have eu : (ulst m.1).length = m.1.length := List.length_map _
      rw [List.map_append, List.map_cons, List.map_nil, sum_snoc, eu]
      show [some (V.ref l), some (V.int (n : Int)), some (V.int _), some (V.ref ln), some x] = _
      rw [show (((List.map (fun f : Units × Plain => f.1.length + Plain.size n f.2) l1).sum + (m.1.length + Plain.size n m.2) : Nat) : Int) = ((List.map (fun f : Units × Plain => f.1.length + Plain.size n f.2) l1).sum : Int) + ((m.1.length : Int) + (Plain.size n m.2 : Int)) by omega]
    · rintro σ H' ⟨rfl, l1, l2, x3, x4, rfl, el, pr⟩
      cases pr
      rw [List.append_nil] at el
      subst el
      exact ⟨_, rfl, q⟩
theorem size_str (n : Nat) (u : Units) : Plain.size n (.str u) = u.length + 1 := by cases n <;> rw [Plain.size]
theorem deNe {i j : Int} (h : i ≠ j) : (!decide (V.int i = V.int j)) = true := by rw [deN h]; rfl
theorem deEq {i j : Int} (h : i = j) : (!decide (V.int i = V.int j)) = false := by rw [deY h]; rfl
theorem d_size_of1 {n : Nat} (T : TxtX K mg) (D_size_of : SzOk P w K mg base n) (D_size_of_record : SrOk P w K mg base n) (F : Fs K mg "size_of" s_size_of) : SzOk P w K mg base (n + 1) :=
  def_C F sc_size_of bd_size_of fun f cdv A outer s H vs Q E hr h => by
    obtain ⟨_, _, rfl, G, p, rfl, hs, hp, hw, q⟩ := h
    refine ⟨_, (pss_cons (ps_asg (pv 0) (pg_tup rfl (pgs_cons (pg_name (i := 2) sc_size_of.nd rfl (Or.inl rfl)) (pgs_cons (pg_name (i := 3) sc_size_of.nd rfl (Or.inl rfl)) pgs_nil)))) (pss_cons (ps_if (pt_cmpR op_eq (pv 2) (pe_gi T.i_TEXT) (nomark _)) (pss_one (ps_ret (pe_op op_add pe_int (pe_callB call_len_seq (by rfl) T.z_len PySem.boot_len (pa_cons (pv 3) pa_nil))))) pss_nil) (pss_cons (ps_if (PW.pt (pw_and (pt_cmpR op_ne (pv 2) (pe_gi T.i_LIST) (nomark _)) (pw_and1 (pt_cmpR op_ne (pv 2) (pe_gi T.i_RECORD) (nomark _))))) (pss_one (ps_ret pe_int)) pss_nil) (pss_cons (ps_if (pt_cmpR op_eq (pv 1) pe_int (nomark _)) (pss_one ps_never) pss_nil) (pss_cons (ps_if (pt_cmpR op_eq (pv 2) (pe_gi T.i_RECORD) (nomark _)) (pss_one (ps_ret (pe_op op_add pe_int (pe_d D_size_of_record (hr.mono (by omega)) pass0 (pa_cons (pv 3) (pa_cons (pe_op op_sub (pv 1) pe_int) pa_nil)))))) pss_nil) (pss_cons (ps_set (i := 4) sc_size_of.nd rfl (Or.inl rfl) pe_int) (pss_cons (ps_for PassesOwn.never rfl (pi_list (pv 3)) (pg_name (i := 5) sc_size_of.nd rfl (Or.inl rfl)) (pss_one (ps_aug (i := 4) sc_size_of.nd rfl (Or.inl rfl) (pe_d D_size_of (hr.mono (by omega)) pass0 (pa_cons (pv 5) (pa_cons (pe_op op_sub (pv 1) pe_int) pa_nil))) ip_add))) (pss_one (ps_ret (pv 4)))))))))), ?_⟩
    cases p with
    | big _ => exact hp.elim
    | undef =>
      obtain ⟨a, rfl, h1⟩ := hp
      rw [show Plain.size n .undef = 1 by cases n <;> simp [Plain.size]] at q
      refine ⟨_, rfl, a, _, rfl, SqT.of (hs _ _ h1), rfl, _, _, rfl, _, _, rfl, rfl, ?_⟩
      dsimp only
      refine tSeq_if ⟨_, rfl, rfl, _, rfl, iteF ?_⟩
      dsimp only [tNext]
      refine tSeq_if (tAnd_pure true true (fun Q' z => ⟨_, rfl, rfl, _, rfl, z⟩) (fun Q' z => ⟨_, rfl, rfl, _, rfl, z⟩) (iteT ?_))
      exact q
    | null =>
      obtain ⟨a, rfl, h1⟩ := hp
      rw [show Plain.size n .null = 1 by cases n <;> simp [Plain.size]] at q
      refine ⟨_, rfl, a, _, rfl, SqT.of (hs _ _ h1), rfl, _, _, rfl, _, _, rfl, rfl, ?_⟩
      dsimp only
      refine tSeq_if ⟨_, rfl, rfl, _, rfl, iteF ?_⟩
      dsimp only [tNext]
      refine tSeq_if (tAnd_pure true true (fun Q' z => ⟨_, rfl, rfl, _, rfl, z⟩) (fun Q' z => ⟨_, rfl, rfl, _, rfl, z⟩) (iteT ?_))
      exact q
    | bool b =>
      obtain ⟨a, rfl, h1⟩ := hp
      rw [show Plain.size n (.bool b) = 1 by cases n <;> simp [Plain.size]] at q
      cases b
      case true =>
        refine ⟨_, rfl, a, _, rfl, SqT.of (hs _ _ h1), rfl, _, _, rfl, _, _, rfl, rfl, ?_⟩
        dsimp only
        refine tSeq_if ⟨_, rfl, rfl, _, rfl, iteF ?_⟩
        dsimp only [tNext]
        refine tSeq_if (tAnd_pure true true (fun Q' z => ⟨_, rfl, rfl, _, rfl, z⟩) (fun Q' z => ⟨_, rfl, rfl, _, rfl, z⟩) (iteT ?_))
        exact q
      case false =>
        refine ⟨_, rfl, a, _, rfl, SqT.of (hs _ _ h1), rfl, _, _, rfl, _, _, rfl, rfl, ?_⟩
        dsimp only
        refine tSeq_if ⟨_, rfl, rfl, _, rfl, iteF ?_⟩
        dsimp only [tNext]
        refine tSeq_if (tAnd_pure true true (fun Q' z => ⟨_, rfl, rfl, _, rfl, z⟩) (fun Q' z => ⟨_, rfl, rfl, _, rfl, z⟩) (iteT ?_))
        exact q
    | num z =>
      obtain ⟨a, i, rfl, ei, h1⟩ := hp
      rw [show Plain.size n (.num z) = 1 by cases n <;> simp [Plain.size]] at q
      refine ⟨_, rfl, a, _, rfl, SqT.of (hs _ _ h1), rfl, _, _, rfl, _, _, rfl, rfl, ?_⟩
      dsimp only
      refine tSeq_if ⟨_, rfl, rfl, _, rfl, iteF ?_⟩
      dsimp only [tNext]
      refine tSeq_if (tAnd_pure true true (fun Q' z => ⟨_, rfl, rfl, _, rfl, z⟩) (fun Q' z => ⟨_, rfl, rfl, _, rfl, z⟩) (iteT ?_))
      exact q
    | str u =>
      obtain ⟨a, l, rfl, h1, h2⟩ := hp
      rw [size_str] at q
      refine ⟨_, rfl, a, _, rfl, SqT.of (hs _ _ h1), rfl, _, _, rfl, _, _, rfl, rfl, ?_⟩
      dsimp only
      refine tSeq_if ⟨_, rfl, rfl, _, rfl, iteT ?_⟩
      refine ⟨_, rfl, l, _, rfl, .inl (SqL.of (hs _ _ h2)), _, _, rfl, rfl, ?_⟩
      have eu : (1 : Int) + ((ulst u).length : Int) = ((u.length + 1 : Nat) : Int) := by
        rw [show (ulst u).length = u.length from List.length_map _]
        omega
      show Q (V.int ((1 : Int) + ((ulst u).length : Int))) H
      rw [eu]
      exact q
    | arr xs =>
      obtain ⟨a, l, vs, rfl, h1, h2, h3⟩ := hp
      cases n with
      | zero => rw [Plain.withinDepth] at hw; cases hw
      | succ n =>
      rw [Plain.withinDepth] at hw
      refine ⟨_, rfl, a, _, rfl, SqT.of (hs _ _ h1), rfl, _, _, rfl, _, _, rfl, rfl, ?_⟩
      dsimp only
      refine tSeq_if ⟨_, rfl, rfl, _, rfl, iteF ?_⟩
      dsimp only [tNext]
      refine tSeq_if (tAnd_pure false true (fun Q' z => ⟨_, rfl, rfl, _, rfl, z⟩) (fun Q' z => ⟨_, rfl, rfl, _, rfl, z⟩) (iteF ?_))
      dsimp only [tNext]
      refine tSeq_if ⟨_, rfl, rfl, _, rfl, ?_⟩
      rw [deN (by omega : ((n + 1 : Nat) : Int) ≠ 0)]
      refine iteF ?_
      dsimp only [tNext]
      refine tSeq_if ⟨_, rfl, rfl, _, rfl, iteF ?_⟩
      dsimp only [tNext]
      have hl : SqL K H l vs := SqL.of (hs _ _ h2)
      refine ⟨_, rfl, l, rfl, ⟨_, hl⟩, for_run (K := K) (a := l) (xs := vs) (fun r σ H' => H' = H ∧ ∃ l1 l2 x5, σ = [some (.ref a), some (.int ((n + 1 : Nat) : Int)), some (.int 7), some (.ref l), some (.int (((l1.map (Plain.size n)).sum + 1 : Nat) : Int)), x5] ∧ l1 ++ l2 = xs ∧ Paired (AtV G) l2 r) ?_ ?_ ?_ ?_⟩
      · exact ⟨rfl, [], xs, _, rfl, rfl, h3.pd⟩
      · rintro r σ H' ⟨rfl, _⟩
        exact hl
      · rintro v r σ H' ⟨rfl, l1, l2, x5, rfl, el, pr⟩
        cases pr with
        | cons hm pr =>
        rename_i m l2
        have mm : m ∈ xs := by rw [← el]; exact List.mem_append_right _ (List.mem_cons_self ..)
        have en1 : V.int (((n + 1 : Nat) : Int) - 1) = V.int (n : Int) := by
          rw [show ((n + 1 : Nat) : Int) - 1 = (n : Int) by omega]
        refine ⟨_, rfl, _, rfl, _, rfl, _, _, rfl, rfl, _, _, rfl, G, m, en1, hs, hm, List.all_eq_true.mp hw m mm, ?_⟩
        refine ⟨_, _, rfl, rfl, rfl, l1 ++ [m], l2, some v, ?_, by rw [List.append_assoc]; exact el, pr⟩
        rw [List.map_append, List.map_cons, List.map_nil, sum_snoc]
        show [some (V.ref a), some (V.int ((n + 1 : Nat) : Int)), some (V.int 7), some (V.ref l), some (V.int _), some v] = _
        rw [show (((List.map (Plain.size n) l1).sum + Plain.size n m + 1 : Nat) : Int) = (((List.map (Plain.size n) l1).sum + 1 : Nat) : Int) + (Plain.size n m : Int) by omega]
      · rintro σ H' ⟨rfl, l1, l2, x5, rfl, el, pr⟩
        cases pr
        rw [List.append_nil] at el
        subst el
        rw [Plain.size] at q
        exact ⟨_, rfl, q⟩
    | obj fs =>
      obtain ⟨a, l, vs, rfl, h1, h2, h3⟩ := hp
      cases n with
      | zero => rw [Plain.withinDepth] at hw; cases hw
      | succ n =>
      refine ⟨_, rfl, a, _, rfl, SqT.of (hs _ _ h1), rfl, _, _, rfl, _, _, rfl, rfl, ?_⟩
      dsimp only
      refine tSeq_if ⟨_, rfl, rfl, _, rfl, iteF ?_⟩
      dsimp only [tNext]
      refine tSeq_if (tAnd_pure true false (fun Q' z => ⟨_, rfl, rfl, _, rfl, z⟩) (fun Q' z => ⟨_, rfl, rfl, _, rfl, z⟩) (iteF ?_))
      dsimp only [tNext]
      refine tSeq_if ⟨_, rfl, rfl, _, rfl, ?_⟩
      rw [deN (by omega : ((n + 1 : Nat) : Int) ≠ 0)]
      refine iteF ?_
      dsimp only [tNext]
      refine tSeq_if ⟨_, rfl, rfl, _, rfl, iteT ?_⟩
      have en1 : V.int (((n + 1 : Nat) : Int) - 1) = V.int (n : Int) := by
        rw [show ((n + 1 : Nat) : Int) - 1 = (n : Int) by omega]
      refine ⟨_, rfl, _, rfl, _, _, rfl, rfl, _, _, rfl, G, l, vs, fs, rfl, en1, hs, SqL.of (hs _ _ h2), h3, hw, _, _, rfl, rfl, ?_⟩
      rw [Plain.size] at q
      have es : (1 : Int) + ((fs.map fun f => f.1.length + Plain.size n f.2).sum : Nat) = (((fs.map fun f => f.1.length + Plain.size n f.2).sum + 1 : Nat) : Int) := by omega
      show Q (V.int ((1 : Int) + ((fs.map fun f => f.1.length + Plain.size n f.2).sum : Nat))) H
      rw [es]
      exact q
theorem sz_all (T : TxtX K mg) (F1 : Fs K mg "is_digits" s_is_digits) (F2 : Fs K mg "size_of_record" s_size_of_record) (F3 : Fs K mg "size_of" s_size_of) : ∀ n, SzOk P w K mg base n
  | 0 => d_size_of0 F3
  | n + 1 => d_size_of1 T (sz_all T F1 F2 F3 n) (d_size_rec T (d_is_digits T F1) (sz_all T F1 F2 F3 n) F2) F3
theorem Pd.drop {α β : Type} {R : α → β → Prop} : ∀ (k : Nat) {xs : List α} {ys : List β}, Paired R xs ys → Paired R (xs.drop k) (ys.drop k)
  | 0, _, _, h => h
  | _ + 1, _, _, .nil => .nil
  | k + 1, _, _, .cons _ t => Pd.drop k t
def argsL : List Nat := [2, 4, 4, 3, 3, 3, 3, 2, 2, 2, 3, 3, 2, 2, 2, 2, 1, 4, 1, 2]
def slotsL : List Nat := [0, 1, 1, 1, 1, 1, 1, 1, 1, 1, 1, 1, 1, 1, 1, 1, 1, 2, 1, 1]
theorem argsL_eq : ([2, 4, 4, 3, 3, 3, 3, 2, 2, 2, 3, 3, 2, 2, 2, 2, 1, 4, 1, 2] : List Int).map V.int = nlst argsL := rfl
theorem slotsL_eq : ([0, 1, 1, 1, 1, 1, 1, 1, 1, 1, 1, 1, 1, 1, 1, 1, 1, 2, 1, 1] : List Int).map V.int = nlst slotsL := rfl
theorem cut_from (xs : List V) (i : Nat) : cutV xs (some (i : Int)) none = xs.drop i := by
  unfold cutV
  rw [HT.sIx_none, HT.sIx_nat]
  by_cases h : i ≤ xs.length
  · rw [Nat.min_eq_left h, List.take_of_length_le (by rw [List.length_drop]; omega)]
  · rw [Nat.min_eq_right (by omega), List.drop_eq_nil_of_le (Nat.le_refl _), List.drop_eq_nil_of_le (by omega), List.take_nil]
def fCheck (K : PySem.W.Frag) : V → V → Hp → VK → XK → Prop := fun a c H Q _ => ∃ G l vs ps, ∃ d : Nat, a = .int (d : Int) ∧ d < 20 ∧ c = .ref l ∧ Same G H ∧ SqL K H l vs ∧ AtL G ps vs ∧ R7237f.Spec.fits (ps.drop (slotsL.getD d 0)) = true ∧ ∀ p o, H p = none → Q .non (upd H p o)
theorem d_check_limits (T : TxtX K mg) (D_size_of : SzOk P w K mg base 9) (F : Fs K mg "check_limits" s_check_limits) : DefOk P w K mg base CX0 20 "check_limits" ["door", "values"] (Sp2 (fCheck K)) :=
  def_C F sc_check_limits bd_check_limits fun f cdv A outer s H vs Q E hr h => by
    obtain ⟨_, _, rfl, G, l, us, ps, d, rfl, hd, rfl, hs, hl, hv, hf, q⟩ := h
    unfold R7237f.Spec.fits at hf
    rw [Bool.and_eq_true] at hf
    obtain ⟨f1, f2⟩ := hf
    have f2 := of_decide_eq_true f2
    refine ⟨_, (pss_cons (ps_set (i := 2) sc_check_limits.nd rfl (Or.inl rfl) pe_int) (pss_cons (ps_for PassesOwn.never rfl (pi_list (pe_slice sl_list (pv 1) (po_some (pe_ix ix_tup (pe_gr T.g_SLOTS) (pv 0) (fun _ _ => rfl))) po_none)) (pg_name (i := 3) sc_check_limits.nd rfl (Or.inl rfl)) (pss_one (ps_aug (i := 2) sc_check_limits.nd rfl (Or.inl rfl) (pe_d D_size_of (hr.mono (by decide)) pass0 (pa_cons (pv 3) (pa_cons pe_int pa_nil))) ip_add))) (pss_one (ps_if (pt_cmpR op_gt (pv 2) pe_int (nomark _)) (pss_one ps_never) pss_nil)))), ?_⟩
    have hT : SqT K H (He.ga K "SLOTS") (nlst slotsL) := by
      have z := T.t_SLOTS H
      rw [slotsL_eq] at z
      exact z
    refine ⟨_, rfl, _, rfl, He.ga K "SLOTS", _, _, _, rfl, rfl, hT, nlst_at (i := d) hd rfl, _, rfl, l, us, rfl, hl, fun p hp => ?_⟩
    rw [cut_from]
    have pd := Pd.drop (slotsL.getD d 0) hv.pd
    generalize hps : ps.drop (slotsL.getD d 0) = qs at *
    generalize hus : us.drop (slotsL.getD d 0) = ws at *
    have old : ∀ b o, G b = some o → upd H p (.lst ws) b = some o := fun b o z => by rw [upd_ne (ne_of_none (hs _ _ z) hp)]; exact hs _ _ z
    have hl2 : SqL K (upd H p (.lst ws)) p ws := SqL.of upd_same
    refine ⟨p, rfl, ⟨_, hl2⟩, for_run (K := K) (a := p) (xs := ws) (fun r σ H' => H' = upd H p (.lst ws) ∧ ∃ l1 l2 x3, σ = [some (.int (d : Int)), some (.ref l), some (.int (((l1.map (Plain.size 8)).sum : Nat) : Int)), x3] ∧ l1 ++ l2 = qs ∧ Paired (AtV G) l2 r) ?_ ?_ ?_ ?_⟩
    · exact ⟨rfl, [], qs, _, rfl, rfl, pd⟩
    · rintro r σ H' ⟨rfl, _⟩
      exact hl2
    · rintro v r σ H' ⟨rfl, l1, l2, x3, rfl, el, pr⟩
      cases pr with
      | cons hm pr =>
      rename_i m l2
      have mm : m ∈ qs := by rw [← el]; exact List.mem_append_right _ (List.mem_cons_self ..)
      refine ⟨_, rfl, _, rfl, _, _, rfl, G, m, rfl, old, hm, List.all_eq_true.mp f1 m mm, ?_⟩
      refine ⟨_, _, rfl, rfl, rfl, l1 ++ [m], l2, some v, ?_, by rw [List.append_assoc]; exact el, pr⟩
      rw [List.map_append, List.map_cons, List.map_nil, sum_snoc]
      show [some (V.int (d : Int)), some (V.ref l), some (V.int _), some v] = _
      rw [Int.natCast_add]
    · rintro σ H' ⟨rfl, l1, l2, x3, rfl, el, pr⟩
      cases pr
      rw [List.append_nil] at el
      subst el
      dsimp only
      refine tIf_of ⟨_, rfl, _, _, rfl, rfl, _, rfl, ?_⟩
      have f3 : (l1.map (Plain.size 8)).sum ≤ 10000 := f2
      rw [decide_eq_false (by omega : ¬ (10000 : Int) < (((l1.map (Plain.size 8)).sum : Nat) : Int))]
      exact iteF (q _ _ hp)
/-- what a request says -/
theorem req_some {b : List UInt8} {d : Nat} {ls : List RWire.Value} (h : RWire.readRequest b = some (d, ls)) : ∃ a c n r, b = a :: c :: n :: r ∧ readMany (readF 32) n.toNat r = some (ls, []) ∧ d = a.toNat + 256 * c.toNat := by
  match b, h with
  | a :: c :: n :: r, h =>
    rw [RWire.readRequest] at h
    cases q : RWire.readArgs n.toNat r with
    | none => rw [q] at h; cases h
    | some l =>
      rw [q] at h
      cases h
      refine ⟨a, c, n, r, rfl, ?_, rfl⟩
      unfold RWire.readArgs at q
      split at q
      · cases q
        assumption
      · cases q
theorem readMany_len {α : Type} {f : List UInt8 → Option (α × List UInt8)} : ∀ {n : Nat} {b r : List UInt8} {l : List α}, readMany f n b = some (l, r) → l.length = n
  | 0, _, _, _, h => by rw [(many_zero h).1]; rfl
  | n + 1, _, _, _, h => by
    obtain ⟨x, s, l', _, h2, rfl⟩ := many_succ h
    rw [List.length_cons, readMany_len h2]
theorem args4 : ∀ d, d < 20 → argsL.getD d 0 ≤ 4 := by decide
/-- the arguments that the door takes, nothing where none is given -/
def padded (d : Nat) (ps : List Plain) : List Plain := ps ++ List.replicate (argsL.getD d 0 - ps.length) .undef
def fReadReq : V → Hp → VK → XK → Prop := fun a H Q _ => ∃ G l b d ls, a = .ref l ∧ H l = some (.lst (octV b)) ∧ G l = some (.lst (octV b)) ∧ Same G H ∧ b.length ≤ 1000000 ∧ RWire.readRequest b = some (d, ls) ∧ (∀ v ∈ ls, clean v = true) ∧ d < 20 ∧ ls.length ≤ argsL.getD d 0 ∧ R7237f.Spec.fits ((padded d (ls.map Rust.taken)).drop (slotsL.getD d 0)) = true ∧
  ∀ G' H' t D vs, Ext G H G' H' → G' t = some (.tup [.int (d : Int), .ref D]) → G' D = some (.lst vs) → AtL G' (padded d (ls.map Rust.taken)) vs → Q (.ref t) H'
theorem d_read_request (T : TxtX K mg) (D_nothing : DefOk P w K mg base CX0 1 "nothing" [] (Sp0 fNothing)) (D_octet_at : DefOk P w K mg base CX0 1 "octet_at" ["octets", "at"] (Sp2 (fOctetAt K))) (D_number_at : DefOk P w K mg base CX0 1 "number_at" ["octets", "at", "many"] (Sp3 (fNumberAt K))) (D_read_value : RvOk P w K mg base 32) (D_check_limits : DefOk P w K mg base CX0 20 "check_limits" ["door", "values"] (Sp2 (fCheck K))) (F : Fs K mg "read_request" s_read_request) : DefOk P w K mg base CX0 67 "read_request" ["octets"] (Sp1 fReadReq) :=
  def_C F sc_read_request bd_read_request fun f cdv A outer s H vs Q E hr h => by
    obtain ⟨_, rfl, G, l, b, d, ls, rfl, hl, hg, hs, hz, hb, cl, hd, ha, hf, q⟩ := h
    obtain ⟨o0, o1, o2, r, eb, hm, ed⟩ := req_some hb
    have lb : b.length = r.length + 3 := by rw [eb]; rfl
    refine ⟨_, (pss_cons (ps_set (i := 1) sc_read_request.nd rfl (Or.inl rfl) (pe_d D_number_at (hr.mono (by decide)) pass0 (pa_cons (pv 0) (pa_cons pe_int (pa_cons pe_int pa_nil))))) (pss_cons (ps_set (i := 2) sc_read_request.nd rfl (Or.inl rfl) (pe_d D_octet_at (hr.mono (by decide)) pass0 (pa_cons (pv 0) (pa_cons pe_int pa_nil)))) (pss_cons (ps_if (pt_cmpR op_ge (pv 1) (pe_callB call_len_seq (by rfl) T.z_len PySem.boot_len (pa_cons (pe_gr T.g_ARGUMENTS) pa_nil)) (nomark _)) (pss_one ps_never) pss_nil) (pss_cons (ps_if (pt_cmpR op_gt (pv 2) (pe_ix ix_tup (pe_gr T.g_ARGUMENTS) (pv 1) (fun _ _ => rfl)) (nomark _)) (pss_one ps_never) pss_nil) (pss_cons (ps_set (i := 3) sc_read_request.nd rfl (Or.inl rfl) (pe_lst pa_nil)) (pss_cons (ps_set (i := 4) sc_read_request.nd rfl (Or.inl rfl) pe_int) (pss_cons (ps_for PassesOwn.never rfl (pi_range1 rfl T.z_range (pa_cons (pv 2) pa_nil)) (pg_name (i := 5) sc_read_request.nd rfl (Or.inl rfl)) (pss_cons (ps_asg (pe_d D_read_value (hr.mono (by decide)) pass0 (pa_cons (pv 0) (pa_cons (pv 4) (pa_cons pe_int pa_nil)))) (pg_tup rfl (pgs_cons (pg_name (i := 6) sc_read_request.nd rfl (Or.inl rfl)) (pgs_cons (pg_name (i := 4) sc_read_request.nd rfl (Or.inl rfl)) pgs_nil)))) (pss_one (ps_expr (pe_bm PySem.F.plainAttrs_list PySem.F.slot_list_append PySem.F.type_list_append mt_append (pv 3) (pa_cons (pv 6) pa_nil)))))) (pss_cons (ps_if (pt_cmpR op_ne (pv 4) (pe_callB call_len_seq (by rfl) T.z_len PySem.boot_len (pa_cons (pv 0) pa_nil)) (nomark _)) (pss_one ps_never) pss_nil) (pss_cons (ps_for PassesOwn.never rfl (pi_range1 rfl T.z_range (pa_cons (pe_op op_sub (pe_ix ix_tup (pe_gr T.g_ARGUMENTS) (pv 1) (fun _ _ => rfl)) (pv 2)) pa_nil)) (pg_name (i := 5) sc_read_request.nd rfl (Or.inl rfl)) (pss_one (ps_expr (pe_bm PySem.F.plainAttrs_list PySem.F.slot_list_append PySem.F.type_list_append mt_append (pv 3) (pa_cons (pe_d0 D_nothing (hr.mono (by decide)) pass0) pa_nil))))) (pss_cons (ps_expr (pe_d D_check_limits (hr.mono (by decide)) pass0 (pa_cons (pv 1) (pa_cons (pv 3) pa_nil)))) (pss_one (ps_ret (pe_tup (pa_cons (pv 1) (pa_cons (pv 3) pa_nil))))))))))))))), ?_⟩
    refine ⟨_, rfl, _, _, _, rfl, l, b, 0, 2, rfl, rfl, rfl, SqL.of hl, by omega, by decide, ?_⟩
    rw [show numOf ((b.drop 0).take 2) = d by rw [eb, ed]; show o0.toNat + 256 * (o1.toNat + 256 * 0) = _; omega]
    refine ⟨_, rfl, _, _, rfl, l, b, 2, by omega, rfl, rfl, SqL.of hl, ?_⟩
    rw [show b[2] = o2 by subst eb; rfl]
    dsimp only
    have hA : ∀ H, SqT K H (He.ga K "ARGUMENTS") (nlst argsL) := fun H => by
      have z := T.t_ARGUMENTS H
      rw [argsL_eq] at z
      exact z
    have lg : ls.length = o2.toNat := readMany_len hm
    have hA4 : argsL.getD d 0 ≤ 4 := args4 d hd
    refine tSeq_if ⟨_, rfl, He.ga K "ARGUMENTS", _, rfl, .inr (hA _), _, _, rfl, rfl, _, rfl, ?_⟩
    rw [decide_eq_false (by show ¬ (20 : Int) ≤ (d : Int); omega)]
    refine iteF ?_
    dsimp only [tNext]
    refine tSeq_if ⟨_, rfl, _, rfl, He.ga K "ARGUMENTS", _, _, _, rfl, rfl, hA _, nlst_at (i := d) hd rfl, _, _, rfl, rfl, _, rfl, ?_⟩
    rw [decide_eq_false (by omega : ¬ ((argsL.getD d 0 : Nat) : Int) < (o2.toNat : Int))]
    refine iteF ?_
    dsimp only [tNext]
    have ml : (ls.length : Int) = (o2.toNat : Int) := by omega
    rw [← ml]
    rw [← lg] at hm
    have e3 : r = b.drop 3 := by rw [eb]; rfl
    rw [e3] at hm
    generalize hm0 : ls.length = m at *
    refine ⟨Nat.zero_le _, fun D hD => ?_⟩
    refine ⟨_, rfl, m, rfl, by omega, by omega, for_rng (n := m) (fun t σ H' => ∃ G' us k' l1 l2 x5 x6, σ = [some (.ref l), some (.int (d : Int)), some (.int (m : Int)), some (.ref D), some (.int ((k' : Nat) : Int)), x5, x6] ∧ Ext G H G' H' ∧ H' D = some (.lst us) ∧ G' D = none ∧ l1 ++ l2 = ls ∧ Paired (fun v u => AtV G' (Rust.taken v) u) l1 us ∧ readMany (readF 32) (m - t) (b.drop k') = some (l2, []) ∧ us.length = t ∧ k' ≤ b.length) ?_ ?_ ?_⟩
    · exact ⟨G, [], 3, [], ls, none, none, rfl, (ExtF.refl hs).mut hD, upd_same, Same.free hs hD, rfl, .nil, hm, rfl, by omega⟩
    · rintro t σ H' ht ⟨G', us, k', l1, l2, x5, x6, rfl, e1, hD', gD, el, pd, hm, lu, hk'⟩
      rw [show m - t = (m - (t + 1)) + 1 by omega] at hm
      obtain ⟨v1, r1, l3, hv1, hm3, rfl⟩ := many_succ hm
      obtain ⟨k2, j1, j2, j3, j4⟩ := rd_at (eats_F 32) hk' hv1
      refine ⟨_, rfl, _, rfl, _, _, _, rfl, rfl, G', l, b, k', v1, r1, rfl, rfl, e1.same _ _ hl, e1.g _ _ hg, e1.sub, hz, hv1, cl v1 (by rw [← el]; exact List.mem_append_right _ (List.mem_cons_self ..)), ?_⟩
      rw [j4]
      intro G2 H2 a v e2 ha hva
      refine ⟨a, _, rfl, SqT.of (e2.sub _ _ ha), rfl, ?_⟩
      have hD2 := e2.same _ _ hD'
      have gD2 : G2 D = none := e2.gnone (by rw [hD']; exact Option.some_ne_none _) gD
      refine ⟨_, _, rfl, _, _, rfl, rfl, _, rfl, .inl ⟨rfl, _, SqL.of hD2⟩, _, rfl, D, _, _, rfl, rfl, hD2, szk (by rw [lu]; omega), ?_⟩
      refine ⟨G2, us ++ [v], k2, l1 ++ [v1], l3, some (.int (t : Int)), some v, rfl, (e1.trans e2).write (.inl hD) (by rw [hD2]; exact Option.some_ne_none _) gD2, upd_same, gD2, by rw [List.append_assoc]; exact el, Pd.snoc (Pd.mono (fun _ _ z => AtV.mono e2.g z) pd) hva, by rw [← j3]; exact hm3, by rw [List.length_append, lu]; rfl, j2⟩
    · rintro σ H' ⟨G', us, k', l1, l2, x5, x6, rfl, e1, hD', gD, el, pd, hm, lu, hk'⟩
      rw [Nat.sub_self] at hm
      obtain ⟨rfl, hr'⟩ := many_zero hm
      rw [List.append_nil] at el
      subst el
      have ek : k' = b.length := by
        have z := congrArg List.length hr'
        rw [List.length_drop, List.length_nil] at z
        omega
      dsimp only
      refine tSeq_if ⟨_, rfl, _, rfl, l, _, rfl, .inl (SqL.of (e1.same _ _ hl)), rfl, _, rfl, ?_⟩
      rw [deEq (by rw [octV_len, ek])]
      refine iteF ?_
      dsimp only [tNext]
      obtain ⟨n2, en2⟩ : ∃ n2, n2 = argsL.getD d 0 - m := ⟨_, rfl⟩
      have pe : padded d (l1.map Rust.taken) = l1.map Rust.taken ++ List.replicate n2 .undef := by
        unfold padded
        rw [List.length_map, hm0, en2]
      rw [pe] at hf q
      have en3 : [V.int (((argsL.getD d 0 : Nat) : Int) - (m : Int))] = [V.int (n2 : Int)] := by
        rw [show ((argsL.getD d 0 : Nat) : Int) - (m : Int) = (n2 : Int) by omega]
      refine ⟨_, rfl, He.ga K "ARGUMENTS", _, _, _, rfl, rfl, hA _, nlst_at (i := d) hd rfl, _, rfl, _, _, rfl, rfl, n2, en3, by omega, by omega, for_rng (n := n2) (fun t σ H' => ∃ G' us x5, σ = [some (.ref l), some (.int (d : Int)), some (.int (m : Int)), some (.ref D), some (.int ((k' : Nat) : Int)), x5, x6] ∧ Ext G H G' H' ∧ H' D = some (.lst us) ∧ G' D = none ∧ Paired (AtV G') (l1.map Rust.taken ++ List.replicate t .undef) us ∧ us.length = m + t) ?_ ?_ ?_⟩
      · exact ⟨G', us, x5, rfl, e1, hD', gD, by rw [List.replicate_zero, List.append_nil]; exact Pd.map_left pd, by omega⟩
      · clear pd hD' gD e1
        rintro t σ H' ht ⟨G', us, x5, rfl, e1, hD', gD, pd, lu⟩
        refine ⟨_, rfl, .inl ⟨rfl, _, SqL.of hD'⟩, rfl, G', e1.sub, ?_⟩
        intro G2 H2 v e2 hv
        have hD2 := e2.same _ _ hD'
        have gD2 : G2 D = none := e2.gnone (by rw [hD']; exact Option.some_ne_none _) gD
        refine ⟨D, _, _, rfl, rfl, hD2, szk (by rw [lu]; omega), ?_⟩
        refine ⟨G2, us ++ [v], some (.int (t : Int)), rfl, (e1.trans e2).write (.inl hD) (by rw [hD2]; exact Option.some_ne_none _) gD2, upd_same, gD2, ?_, by rw [List.length_append, lu]; rfl⟩
        rw [List.replicate_succ', ← List.append_assoc]
        exact Pd.snoc (Pd.mono (fun _ _ z => AtV.mono e2.g z) pd) hv
      · clear pd hD' gD e1
        rintro σ H' ⟨G', us, x5, rfl, e1, hD', gD, pd, lu⟩
        refine ⟨_, rfl, _, rfl, _, _, rfl, G', D, us, _, d, rfl, hd, rfl, e1.sub, SqL.of hD', AtL.of pd, hf, fun p o hp => ⟨_, rfl, _, rfl, sz2, fun p' hp' => ?_⟩⟩
        have e2 := e1.mut (o := o) hp
        have nD : D ≠ p := fun z => by rw [← z, hD'] at hp; cases hp
        have hD2 : upd H' p o D = some (.lst us) := by rw [upd_ne nD]; exact hD'
        have e3 := e2.freeze hD hD2 gD
        have e4 := e3.imm (o := .tup [.int (d : Int), .ref D]) hp'
        have nD' : D ≠ p' := fun z => by rw [← z, hD2] at hp'; cases hp'
        have s1 : Same G' (upd (upd G' D (.lst us)) p' (.tup [.int (d : Int), .ref D])) := fun c u z => by
          have f1 : upd H' p o c = some u := by rw [upd_ne (ne_of_none (e1.sub _ _ z) hp)]; exact e1.sub _ _ z
          rw [upd_ne (ne_of_none f1 hp'), upd_ne (ne_of_none z gD)]
          exact z
        exact q _ _ p' D us e4 upd_same (by rw [upd_ne nD', upd_same]) (AtL.of (Pd.mono (fun _ _ z => AtV.mono s1 z) pd))
end
end Ov
set_option maxHeartbeats 4000000
/-! B5: the whole state as it lies in the heap: the shelf, the volumes, the recoveries. -/
namespace Ov
open PySem PySem.Spec PyProof.Rows L2
open R7237f.Spec (Plain Units Volume RecoverState)
/-- where all lies; own: whose an address is that may change (0: nobody's) -/
structure WA where
  S : Addr
  dS : Addr
  VL : Addr
  RL : Addr
  L : Nat → VA
  R : Nat → Addr × Addr
  own : Addr → Nat
def WA.volV (A : WA) : Option Nat → V
  | none => .non
  | some i => .ref (A.L i).self
def WA.recV (A : WA) (s : Nat) : Option RecoverState → V
  | none => .non
  | some _ => .ref (A.R s).1
structure WAt (K : PySem.W.Frag) (G H : Hp) (A : WA) (w : R7237f.Spec.World) : Prop where
  sub : Same G H
  shelf : H A.S = some (.ins (cShelf K) A.dS [("volumes", .ref A.VL), ("recoveries", .ref A.RL)])
  lv : w.volumes.length = 2
  lr : w.recovers.length = 2
  vols : H A.VL = some (.lst [A.volV (w.volumes.getD 0 none), A.volV (w.volumes.getD 1 none)])
  recs : H A.RL = some (.lst [A.recV 0 (w.recovers.getD 0 none), A.recV 1 (w.recovers.getD 1 none)])
  vol : ∀ i v, w.heap[i]? = some v → VolAt K G H (A.L i) v ∧ ∀ b, (A.L i).tg b ≠ 0 → A.own b = i + 10
  reco : ∀ s x, s < 2 → w.recovers.getD s none = some x → H (A.R s).1 = some (.ins (cRec K) (A.R s).2 (recF (A.L x.volume).self x.node x.lost x.ended)) ∧ A.own (A.R s).1 = s + 5
  oS : A.own A.S = 1
  oV : A.own A.VL = 2
  oR : A.own A.RL = 3
  g : ∀ b, A.own b ≠ 0 → G b = none
  live : ∀ b, A.own b ≠ 0 → H b ≠ none
/-- what a call leaves -/
structure StepW (A : WA) (G H : Hp) (A' : WA) (G' H' : Hp) : Prop where
  e : ExtF (fun b => A.own b ≠ 0) G H G' H'
  own : ∀ b, A'.own b ≠ 0 → A.own b ≠ 0 ∨ H b = none
  S : A'.S = A.S
section
variable {K : PySem.W.Frag} {G H G' H' : Hp} {A : WA} {w : R7237f.Spec.World}
theorem StepW.ext (e : Ext G H G' H') : StepW A G H A G' H' := ⟨e.mono fun _ h => h.elim, fun _ h => .inl h, rfl⟩
theorem StepW.trans {A1 A2 : WA} {G1 H1 G2 H2 : Hp} (a : StepW A G H A1 G1 H1) (b : StepW A1 G1 H1 A2 G2 H2) : StepW A G H A2 G2 H2 where
  e := a.e.trans' b.e a.own
  own := fun x h => (b.own x h).elim (a.own x) fun z => .inr (a.e.free z)
  S := b.S.trans a.S
theorem WAt.ext (h : WAt K G H A w) (e : Ext G H G' H') : WAt K G' H' A w where
  sub := e.sub
  shelf := e.same _ _ h.shelf
  lv := h.lv
  lr := h.lr
  vols := e.same _ _ h.vols
  recs := e.same _ _ h.recs
  vol := fun i v z => ⟨(h.vol i v z).1.ext e, (h.vol i v z).2⟩
  reco := fun s x hs z => ⟨e.same _ _ (h.reco s x hs z).1, (h.reco s x hs z).2⟩
  oS := h.oS
  oV := h.oV
  oR := h.oR
  g := fun b hb => (e.old b (h.live b hb)).trans (h.g b hb)
  live := fun b hb => e.live b (h.live b hb)
theorem getD_set {α : Type} {l : List α} {d x : α} {s t : Nat} (hs : s < l.length) : (l.set s x).getD t d = if t = s then x else l.getD t d := by
  rw [List.getD_eq_getElem?_getD, List.getD_eq_getElem?_getD, List.getElem?_set]
  by_cases c : s = t
  · rw [if_pos c, if_pos hs, if_pos c.symm]; rfl
  · rw [if_neg c, if_neg (fun z => c z.symm)]
/-- A with another layout of the volume i -/
def WA.withL (A : WA) (i : Nat) (L' : VA) : WA := { A with L := fun j => if j = i then L' else A.L j, own := fun b => if L'.tg b ≠ 0 then i + 10 else if A.own b = i + 10 then 0 else A.own b }
theorem WA.withL_self {i : Nat} {L' : VA} (hs : L'.self = (A.L i).self) (j : Nat) : ((A.withL i L').L j).self = (A.L j).self := by
  show (if j = i then L' else A.L j).self = _
  by_cases c : j = i
  · rw [if_pos c, hs, c]
  · rw [if_neg c]
theorem WA.withL_vol {i : Nat} {L' : VA} (hs : L'.self = (A.L i).self) (o : Option Nat) : (A.withL i L').volV o = A.volV o := by
  cases o with
  | none => rfl
  | some j => exact congrArg V.ref (WA.withL_self hs j)
/-- the volume i changes; F: what else does, f: how the recoveries change -/
theorem WAt.setVol (h : WAt K G H A w) {i : Nat} {v u : Volume} {L' : VA} (hi : w.heap[i]? = some v) {F : Addr → Prop} (e : ExtF F G H G' H') (hF : ∀ b, F b → (A.L i).tg b ≠ 0 ∨ A.own b = 5 ∨ A.own b = 6)
    (ow : ∀ b, L'.tg b ≠ 0 → (A.L i).tg b ≠ 0 ∨ H b = none) (hs : L'.self = (A.L i).self) (hu : VolAt K G' H' L' u)
    {rs : List (Option RecoverState)} (hl : rs.length = 2)
    (hr : ∀ s x, s < 2 → rs.getD s none = some x → ∃ y, w.recovers.getD s none = some y ∧ H' (A.R s).1 = some (.ins (cRec K) (A.R s).2 (recF (A.L x.volume).self x.node x.lost x.ended)))
    (hn : ∀ s, s < 2 → rs.getD s none = none → w.recovers.getD s none = none) :
    WAt K G' H' (A.withL i L') { w with heap := w.heap.set i u, recovers := rs } ∧ ∀ b, (A.withL i L').own b ≠ 0 → A.own b ≠ 0 ∨ H b = none := by
  have oi := (h.vol i v hi).2
  have nF : ∀ b, A.own b ≠ i + 10 → A.own b ≠ 5 → A.own b ≠ 6 → ¬ F b := fun b h1 h2 h3 z => by
    rcases hF b z with q | q | q
    · exact h1 (oi b q)
    · exact h2 q
    · exact h3 q
  have own' : ∀ b, A.own b ≠ 0 → A.own b ≠ i + 10 → (A.withL i L').own b = A.own b := fun b h0 h1 => by
    show (if L'.tg b ≠ 0 then _ else _) = _
    have z : ¬ L'.tg b ≠ 0 := fun z => by
      rcases ow b z with q | q
      · exact h1 (oi b q)
      · exact h.live b h0 q
    rw [if_neg z, if_neg h1]
  have up : ∀ b, (A.withL i L').own b ≠ 0 → A.own b ≠ 0 ∨ H b = none := fun b z => by
    by_cases c : L'.tg b ≠ 0
    · rcases ow b c with q | q
      · exact .inl (by rw [oi b q]; omega)
      · exact .inr q
    · refine .inl ?_
      have z : (if L'.tg b ≠ 0 then i + 10 else if A.own b = i + 10 then 0 else A.own b) ≠ 0 := z
      rw [if_neg c] at z
      by_cases c2 : A.own b = i + 10
      · omega
      · rw [if_neg c2] at z; exact z
  have rv : ∀ s, s < 2 → (A.withL i L').recV s (rs.getD s none) = A.recV s (w.recovers.getD s none) := fun s hs2 => by
    cases c : rs.getD s none with
    | none => rw [hn s hs2 c]; rfl
    | some x =>
      obtain ⟨y, hy, _⟩ := hr s x hs2 c
      rw [hy]
      rfl
  have fS := nF A.S (by rw [h.oS]; omega) (by rw [h.oS]; decide) (by rw [h.oS]; decide)
  have fV := nF A.VL (by rw [h.oV]; omega) (by rw [h.oV]; decide) (by rw [h.oV]; decide)
  have fR := nF A.RL (by rw [h.oR]; omega) (by rw [h.oR]; decide) (by rw [h.oR]; decide)
  refine ⟨⟨e.sub, e.h _ _ h.shelf fS, h.lv, hl, ?_, ?_, ?_, ?_, ?_, ?_, ?_, ?_, ?_⟩, up⟩
  · rw [WA.withL_vol hs, WA.withL_vol hs]
    exact e.h _ _ h.vols fV
  · rw [rv 0 (by decide), rv 1 (by decide)]
    exact e.h _ _ h.recs fR
  · intro j x hx
    show VolAt K G' H' (if j = i then L' else A.L j) x ∧ ∀ b, (if j = i then L' else A.L j).tg b ≠ 0 → _
    by_cases c : j = i
    · subst c
      rw [if_pos rfl]
      have ex : x = u := by
        have z : (w.heap.set j u)[j]? = some x := hx
        rw [List.getElem?_set_self (getI_lt hi)] at z
        exact (Option.some.inj z).symm
      subst ex
      exact ⟨hu, fun b hb => if_pos hb⟩
    · rw [if_neg c]
      have hx : (w.heap.set i u)[j]? = some x := hx
      rw [List.getElem?_set_ne (Ne.symm c)] at hx
      obtain ⟨va, oa⟩ := h.vol j x hx
      refine ⟨va.away e fun b hb => nF b (by rw [oa b hb]; omega) (by rw [oa b hb]; omega) (by rw [oa b hb]; omega), fun b hb => ?_⟩
      rw [own' b (by rw [oa b hb]; omega) (by rw [oa b hb]; omega)]
      exact oa b hb
  · intro s x hs2 hx
    obtain ⟨y, hy, hx2⟩ := hr s x hs2 hx
    have o2 := (h.reco s y hs2 hy).2
    refine ⟨?_, ?_⟩
    · rw [WA.withL_self hs]
      exact hx2
    · show (A.withL i L').own (A.R s).1 = _
      rw [own' (A.R s).1 (by rw [o2]; omega) (by rw [o2]; omega)]
      exact o2
  · show (A.withL i L').own A.S = _
    rw [own' A.S (by rw [h.oS]; omega) (by rw [h.oS]; omega)]
    exact h.oS
  · show (A.withL i L').own A.VL = _
    rw [own' A.VL (by rw [h.oV]; omega) (by rw [h.oV]; omega)]
    exact h.oV
  · show (A.withL i L').own A.RL = _
    rw [own' A.RL (by rw [h.oR]; omega) (by rw [h.oR]; omega)]
    exact h.oR
  · intro b hb
    by_cases c : L'.tg b ≠ 0
    · exact hu.gn b c
    · have z : A.own b ≠ 0 := by
        have z : (if L'.tg b ≠ 0 then i + 10 else if A.own b = i + 10 then 0 else A.own b) ≠ 0 := hb
        rw [if_neg c] at z
        by_cases c2 : A.own b = i + 10
        · omega
        · rw [if_neg c2] at z; exact z
      exact (e.old b (h.live b z)).trans (h.g b z)
  · intro b hb
    by_cases c : L'.tg b ≠ 0
    · exact hu.live b c
    · have z : A.own b ≠ 0 := by
        have z : (if L'.tg b ≠ 0 then i + 10 else if A.own b = i + 10 then 0 else A.own b) ≠ 0 := hb
        rw [if_neg c] at z
        by_cases c2 : A.own b = i + 10
        · omega
        · rw [if_neg c2] at z; exact z
      exact e.live b (h.live b z)
/-- A with one volume more -/
def WA.addL (A : WA) (n : Nat) (L : VA) : WA := { A with L := fun j => if j = n then L else A.L j, own := fun b => if L.tg b ≠ 0 then n + 10 else A.own b }
/-- what the slots name is there -/
structure WIn (w : R7237f.Spec.World) : Prop where
  v : ∀ s i, w.volumes.getD s none = some i → i < w.heap.length
  r : ∀ s x, w.recovers.getD s none = some x → x.volume < w.heap.length
theorem WA.addL_old {n j : Nat} {L : VA} (h : j < n) : (A.addL n L).L j = A.L j := if_neg (by omega)
theorem WA.addL_new {n : Nat} {L : VA} : (A.addL n L).L n = L := if_pos rfl
theorem WA.addL_vol {n : Nat} {L : VA} {o : Option Nat} (h : ∀ i, o = some i → i < n) : (A.addL n L).volV o = A.volV o := by
  cases o with
  | none => rfl
  | some j =>
    show V.ref ((A.addL n L).L j).self = _
    rw [WA.addL_old (h j rfl)]
    rfl
theorem two_set {a b x : V} {s : Nat} {f : Nat → V} (hs : s ≤ 1) (h : ∀ t, t ≤ 1 → f t = if t = s then x else if t = 0 then a else b) : [a, b].set s x = [f 0, f 1] := by
  match s, hs with
  | 0, _ => rw [h 0 (by decide), h 1 (by decide)]; rfl
  | 1, _ => rw [h 0 (by decide), h 1 (by decide)]; rfl
theorem WAt.newVol (h : WAt K G H A w) (hin : WIn w) (e : Ext G H G' H') {L : VA} {v : Volume} (hv : VolAt K G' H' L v) (hn : ∀ b, L.tg b ≠ 0 → H b = none) {s : Nat} (hs : s ≤ 1) :
    StepW A G H (A.addL w.heap.length L) G' (upd H' A.VL (.lst ([A.volV (w.volumes.getD 0 none), A.volV (w.volumes.getD 1 none)].set s (.ref L.self)))) ∧
    WAt K G' (upd H' A.VL (.lst ([A.volV (w.volumes.getD 0 none), A.volV (w.volumes.getD 1 none)].set s (.ref L.self)))) (A.addL w.heap.length L) { w with heap := w.heap ++ [v], volumes := w.volumes.set s (some w.heap.length) } := by
  have h' := h.ext e
  have lV : H' A.VL ≠ none := by rw [h'.vols]; exact Option.some_ne_none _
  have gV : G' A.VL = none := h'.g _ (by rw [h.oV]; decide)
  have eW := (ExtF.refl (F := fun b => b = A.VL) h'.sub).write (o := .lst ([A.volV (w.volumes.getD 0 none), A.volV (w.volumes.getD 1 none)].set s (.ref L.self))) (.inr rfl) lV gV
  have nw : ∀ b, A.own b ≠ 0 → (A.addL w.heap.length L).own b = A.own b := fun b hb => if_neg fun z => h.live b hb (hn b z)
  have up : ∀ b, (A.addL w.heap.length L).own b ≠ 0 → A.own b ≠ 0 ∨ H b = none := fun b hb => by
    by_cases c : L.tg b ≠ 0
    · exact .inr (hn b c)
    · have z : (if L.tg b ≠ 0 then w.heap.length + 10 else A.own b) ≠ 0 := hb
      rw [if_neg c] at z
      exact .inl z
  have eA : ExtF (fun b => A.own b ≠ 0) G H G' (upd H' A.VL (.lst ([A.volV (w.volumes.getD 0 none), A.volV (w.volumes.getD 1 none)].set s (.ref L.self)))) :=
    (e.mono fun _ z => z.elim).write (.inr (by show A.own A.VL ≠ 0; rw [h.oV]; decide)) lV gV
  have nSV : A.S ≠ A.VL := fun z => by
    have a := h.oS
    rw [z, h.oV] at a
    cases a
  have nRV : A.RL ≠ A.VL := fun z => by
    have a := h.oR
    rw [z, h.oV] at a
    cases a
  refine ⟨⟨eA, up, rfl⟩, ⟨eA.sub, ?_, ?_, h.lr, ?_, ?_, ?_, ?_, ?_, ?_, ?_, ?_, ?_⟩⟩
  · show upd H' A.VL _ A.S = _
    rw [upd_ne nSV]
    exact h'.shelf
  · show (w.volumes.set s _).length = 2
    rw [List.length_set]
    exact h.lv
  · show upd H' A.VL _ A.VL = _
    rw [upd_same]
    congr 2
    refine two_set (f := fun t => (A.addL w.heap.length L).volV ((w.volumes.set s (some w.heap.length)).getD t none)) hs fun t ht => ?_
    rw [getD_set (by rw [h.lv]; omega)]
    by_cases c : t = s
    · rw [if_pos c, if_pos c]
      show V.ref ((A.addL w.heap.length L).L w.heap.length).self = _
      rw [WA.addL_new]
    · rw [if_neg c, if_neg c, WA.addL_vol (hin.v t)]
      match t, ht with
      | 0, _ => rfl
      | 1, _ => rfl
  · show upd H' A.VL _ A.RL = _
    rw [upd_ne nRV]
    exact h'.recs
  · intro j x hx
    have hx : (w.heap ++ [v])[j]? = some x := hx
    by_cases c : j < w.heap.length
    · rw [List.getElem?_append_left c] at hx
      obtain ⟨va, oa⟩ := h'.vol j x hx
      rw [WA.addL_old c]
      refine ⟨va.away eW fun b hb z => ?_, fun b hb => ?_⟩
      · have q := oa b hb
        rw [z, h.oV] at q
        omega
      · rw [nw b (by rw [oa b hb]; omega)]
        exact oa b hb
    · have lj : j = w.heap.length := by
        have := getI_lt hx
        rw [List.length_append] at this
        simp only [List.length_cons, List.length_nil] at this
        omega
      subst lj
      rw [List.getElem?_append_right (Nat.le_refl _), Nat.sub_self] at hx
      have ex : v = x := Option.some.inj hx
      subst ex
      rw [WA.addL_new]
      refine ⟨hv.away eW fun b hb z => ?_, fun b hb => if_pos hb⟩
      have q := hn b hb
      rw [z] at q
      exact h.live A.VL (by rw [h.oV]; decide) q
  · intro t x ht hx
    obtain ⟨r1, r2⟩ := h'.reco t x ht hx
    rw [WA.addL_old (hin.r t x hx)]
    refine ⟨?_, ?_⟩
    · show upd H' A.VL _ (A.R t).1 = _
      rw [upd_ne (fun z => by rw [z, h.oV] at r2; omega)]
      exact r1
    · show (A.addL w.heap.length L).own (A.R t).1 = _
      rw [nw _ (by rw [r2]; omega)]
      exact r2
  · show (A.addL w.heap.length L).own A.S = _
    rw [nw _ (by rw [h.oS]; decide)]
    exact h.oS
  · show (A.addL w.heap.length L).own A.VL = _
    rw [nw _ (by rw [h.oV]; decide)]
    exact h.oV
  · show (A.addL w.heap.length L).own A.RL = _
    rw [nw _ (by rw [h.oR]; decide)]
    exact h.oR
  · intro b hb
    by_cases c : L.tg b ≠ 0
    · exact hv.gn b c
    · have z : (if L.tg b ≠ 0 then w.heap.length + 10 else A.own b) ≠ 0 := hb
      rw [if_neg c] at z
      exact h'.g b z
  · intro b hb
    by_cases c : L.tg b ≠ 0
    · exact eW.live b (hv.live b c)
    · have z : (if L.tg b ≠ 0 then w.heap.length + 10 else A.own b) ≠ 0 := hb
      rw [if_neg c] at z
      exact eW.live b (h'.live b z)
/-- A with another recovery in a slot -/
def WA.withR (A : WA) (s : Nat) (r dr : Addr) : WA := { A with R := fun t => if t = s then (r, dr) else A.R t, own := fun b => if b = r then s + 5 else A.own b }
theorem WAt.newRec (h : WAt K G H A w) (e : Ext G H G' H') {r dr : Addr} {i m n : Nat} (hr : H r = none) (gr : G' r = none) (hx : H' r = some (.ins (cRec K) dr (recF (A.L i).self m n false))) {s : Nat} (hs : s ≤ 1) :
    StepW A G H (A.withR s r dr) G' (upd H' A.RL (.lst ([A.recV 0 (w.recovers.getD 0 none), A.recV 1 (w.recovers.getD 1 none)].set s (.ref r)))) ∧
    WAt K G' (upd H' A.RL (.lst ([A.recV 0 (w.recovers.getD 0 none), A.recV 1 (w.recovers.getD 1 none)].set s (.ref r)))) (A.withR s r dr) { w with recovers := w.recovers.set s (some ⟨i, m, n, false⟩) } := by
  have h' := h.ext e
  have lV : H' A.RL ≠ none := by rw [h'.recs]; exact Option.some_ne_none _
  have gV : G' A.RL = none := h'.g _ (by rw [h.oR]; decide)
  have eW := (ExtF.refl (F := fun b => b = A.RL) h'.sub).write (o := .lst ([A.recV 0 (w.recovers.getD 0 none), A.recV 1 (w.recovers.getD 1 none)].set s (.ref r))) (.inr rfl) lV gV
  have nr : ∀ b, A.own b ≠ 0 → b ≠ r := fun b hb z => h.live b hb (z ▸ hr)
  have nw : ∀ b, A.own b ≠ 0 → (A.withR s r dr).own b = A.own b := fun b hb => if_neg (nr b hb)
  have up : ∀ b, (A.withR s r dr).own b ≠ 0 → A.own b ≠ 0 ∨ H b = none := fun b hb => by
    by_cases c : b = r
    · exact .inr (c ▸ hr)
    · have z : (if b = r then s + 5 else A.own b) ≠ 0 := hb
      rw [if_neg c] at z
      exact .inl z
  have eA : ExtF (fun b => A.own b ≠ 0) G H G' (upd H' A.RL (.lst ([A.recV 0 (w.recovers.getD 0 none), A.recV 1 (w.recovers.getD 1 none)].set s (.ref r)))) :=
    (e.mono fun _ z => z.elim).write (.inr (by show A.own A.RL ≠ 0; rw [h.oR]; decide)) lV gV
  have nSV : A.S ≠ A.RL := fun z => by
    have a := h.oS
    rw [z, h.oR] at a
    cases a
  have nVR : A.VL ≠ A.RL := fun z => by
    have a := h.oV
    rw [z, h.oR] at a
    cases a
  have nrR : r ≠ A.RL := fun z => nr A.RL (by rw [h.oR]; decide) z.symm
  refine ⟨⟨eA, up, rfl⟩, ⟨eA.sub, ?_, h.lv, ?_, ?_, ?_, ?_, ?_, ?_, ?_, ?_, ?_, ?_⟩⟩
  · show upd H' A.RL _ A.S = _
    rw [upd_ne nSV]
    exact h'.shelf
  · show (w.recovers.set s _).length = 2
    rw [List.length_set]
    exact h.lr
  · show upd H' A.RL _ A.VL = _
    rw [upd_ne nVR]
    exact h'.vols
  · show upd H' A.RL _ A.RL = _
    rw [upd_same]
    congr 2
    refine two_set (f := fun t => (A.withR s r dr).recV t ((w.recovers.set s (some ⟨i, m, n, false⟩)).getD t none)) hs fun t ht => ?_
    rw [getD_set (by rw [h.lr]; omega)]
    by_cases c : t = s
    · rw [if_pos c, if_pos c]
      show V.ref (if t = s then (r, dr) else A.R t).1 = _
      rw [if_pos c]
    · rw [if_neg c, if_neg c]
      have ev : ∀ o, (A.withR s r dr).recV t o = A.recV t o := fun o => by
        cases o with
        | none => rfl
        | some x =>
          show V.ref (if t = s then (r, dr) else A.R t).1 = _
          rw [if_neg c]
          rfl
      rw [ev]
      match t, ht with
      | 0, _ => rfl
      | 1, _ => rfl
  · intro j x hx
    obtain ⟨va, oa⟩ := h'.vol j x hx
    refine ⟨va.away eW fun b hb z => ?_, fun b hb => ?_⟩
    · have q := oa b hb
      rw [z, h.oR] at q
      omega
    · rw [nw b (by rw [oa b hb]; omega)]
      exact oa b hb
  · intro t x ht hx2
    have hx2 : (w.recovers.set s (some ⟨i, m, n, false⟩)).getD t none = some x := hx2
    rw [getD_set (by rw [h.lr]; omega)] at hx2
    show upd H' A.RL _ (if t = s then (r, dr) else A.R t).1 = some (.ins (cRec K) (if t = s then (r, dr) else A.R t).2 _) ∧ (A.withR s r dr).own (if t = s then (r, dr) else A.R t).1 = _
    by_cases c : t = s
    · rw [if_pos c] at hx2 ⊢
      cases hx2
      refine ⟨?_, ?_⟩
      · rw [upd_ne nrR]
        exact hx
      · show (if r = r then s + 5 else A.own r) = t + 5
        rw [if_pos rfl, c]
    · rw [if_neg c] at hx2 ⊢
      obtain ⟨r1, r2⟩ := h'.reco t x ht hx2
      refine ⟨?_, ?_⟩
      · rw [upd_ne (fun z => by rw [z, h.oR] at r2; omega)]
        exact r1
      · rw [nw _ (by rw [r2]; omega)]
        exact r2
  · show (A.withR s r dr).own A.S = _
    rw [nw _ (by rw [h.oS]; decide)]
    exact h.oS
  · show (A.withR s r dr).own A.VL = _
    rw [nw _ (by rw [h.oV]; decide)]
    exact h.oV
  · show (A.withR s r dr).own A.RL = _
    rw [nw _ (by rw [h.oR]; decide)]
    exact h.oR
  · intro b hb
    by_cases c : b = r
    · exact c ▸ gr
    · have z : (if b = r then s + 5 else A.own b) ≠ 0 := hb
      rw [if_neg c] at z
      exact h'.g b z
  · intro b hb
    by_cases c : b = r
    · subst c
      exact eW.live b (by rw [hx]; exact Option.some_ne_none _)
    · have z : (if b = r then s + 5 else A.own b) ≠ 0 := hb
      rw [if_neg c] at z
      exact eW.live b (h'.live b z)
end
end Ov
set_option maxHeartbeats 4000000
/-! V18: the doors. -/
namespace Ov
open PySem PySem.Spec PyProof.Rows L2
open R7237f.Spec (Plain Units Volume RecoverState Res andThen Told toldPlain nodeArg blockArg boolArg changesArg opArg tornArg readOf journalFn lastFn stateFn Err)
/-- what a door does to a volume -/
def tell (x : Res (Volume × Told)) : Res (Volume × Plain) := andThen x fun ut => .ok (ut.1, toldPlain ut.2)
def volDo (v : Volume) (ps : List Plain) : Nat → Res (Volume × Plain)
  | 2 => tell (andThen (boolArg (ps.getD 3 .undef)) fun a => R7237f.Spec.doLock v (nodeArg (ps.getD 1 .undef)) (blockArg (ps.getD 2 .undef)) a)
  | 3 => tell (R7237f.Spec.doUnlock v (nodeArg (ps.getD 1 .undef)) (blockArg (ps.getD 2 .undef)))
  | 4 => andThen (readOf v (nodeArg (ps.getD 1 .undef)) (blockArg (ps.getD 2 .undef))) fun n => .ok (v, R7237f.Spec.nat n)
  | 5 => tell (R7237f.Spec.doCommit v (nodeArg (ps.getD 1 .undef)) (changesArg (ps.getD 2 .undef)))
  | 6 => tell (R7237f.Spec.doFlush v (nodeArg (ps.getD 1 .undef)) (blockArg (ps.getD 2 .undef)))
  | 7 => tell (R7237f.Spec.doTrim v (nodeArg (ps.getD 1 .undef)))
  | 8 => tell (R7237f.Spec.doLand v (opArg (ps.getD 1 .undef)))
  | 9 => tell (R7237f.Spec.doCrash v (nodeArg (ps.getD 1 .undef)))
  | 10 => tell (andThen (tornArg (ps.getD 2 .undef)) fun k => R7237f.Spec.doShut v (nodeArg (ps.getD 1 .undef)) k)
  | 11 => tell (R7237f.Spec.doReplay v (nodeArg (ps.getD 1 .undef)) (nodeArg (ps.getD 2 .undef)))
  | 12 => tell (R7237f.Spec.doFree v (nodeArg (ps.getD 1 .undef)))
  | 13 => tell (R7237f.Spec.doBoot v (nodeArg (ps.getD 1 .undef)))
  | 14 => andThen (journalFn v (ps.getD 1 .undef)) fun p => .ok (v, p)
  | 15 => andThen (lastFn v (ps.getD 1 .undef)) fun p => .ok (v, p)
  | _ => .ok (v, stateFn v)
theorem arg_at {G : Hp} {ps : List Plain} {vs : List V} {i : Nat} (h : AtL G ps vs) (hi : i < ps.length) : ∃ x, atI vs (i : Int) = some x ∧ AtV G (ps.getD i .undef) x := by
  obtain ⟨y, hy, r⟩ := Pd.get' (i := i) h.pd (List.getElem?_eq_getElem hi)
  refine ⟨y, atI_nat hy, ?_⟩
  rw [List.getD_eq_getElem?_getD, List.getElem?_eq_getElem hi]
  exact r
def OutV (K : PySem.W.Frag) (G H : Hp) (L : VA) (r : Res (Volume × Plain)) (Q : VK) (E : XK) : Prop := RC K G H r (fun up => ∀ G' H' L' x, Step L G H L' G' H' → VolAt K G' H' L' up.1 → AtV G' up.2 x → Q x H') E
section
variable {P : Program} {w : World} {K : PySem.W.Frag} {mg : Str → Option Value} {base : Heap}
theorem OutV.door {G H : Hp} {L : VA} {x : Res (Volume × Told)} {Q : VK} {E : XK} (q : OutV K G H L (tell x) Q E) : Door K G H L x Q E := q.then
theorem OutV.ret {G H : Hp} {L : VA} {v : Volume} {x : Res Plain} {Q : VK} {E : XK} (h : VolAt K G H L v) (q : OutV K G H L (andThen x fun p => .ok (v, p)) Q E) : RC K G H x (fun p => Ret G H p Q) E :=
  q.then.mono fun p _ q G' H' y e hy => q G' H' L y (Step.ext e) (h.ext e) hy
abbrev s_call_volume : Stmt := top 114
theorem sc_call_volume : FnScope ["volume", "door", "values"] ["volume", "door", "values"] (defScope s_call_volume) := ⟨rfl, rfl, rfl, by decide +kernel, rfl, by decide +kernel, by decide +kernel⟩
theorem bd_call_volume : Bd "call_volume" "call_volume" s_call_volume ["volume", "door", "values"] := fun _ _ _ _ _ _ us hl => match us, hl with | [_, _, _], _ => rfl
abbrev s_call_create : Stmt := top 112
theorem sc_call_create : FnScope ["shelf", "values", "slot"] ["shelf", "values"] (defScope s_call_create) := ⟨rfl, rfl, rfl, by decide +kernel, rfl, by decide +kernel, by decide +kernel⟩
theorem bd_call_create : Bd "call_create" "call_create" s_call_create ["shelf", "values"] := fun _ _ _ _ _ _ us hl => match us, hl with | [_, _], _ => rfl
abbrev s_call_recover : Stmt := top 113
theorem sc_call_recover : FnScope ["shelf", "values", "slot", "volume"] ["shelf", "values"] (defScope s_call_recover) := ⟨rfl, rfl, rfl, by decide +kernel, rfl, by decide +kernel, by decide +kernel⟩
theorem bd_call_recover : Bd "call_recover" "call_recover" s_call_recover ["shelf", "values"] := fun _ _ _ _ _ _ us hl => match us, hl with | [_, _], _ => rfl
abbrev s_call_door : Stmt := top 115
theorem sc_call_door : FnScope ["shelf", "door", "values"] ["shelf", "door", "values"] (defScope s_call_door) := ⟨rfl, rfl, rfl, by decide +kernel, rfl, by decide +kernel, by decide +kernel⟩
theorem bd_call_door : Bd "call_door" "call_door" s_call_door ["shelf", "door", "values"] := fun _ _ _ _ _ _ us hl => match us, hl with | [_, _, _], _ => rfl
abbrev s_slot_number : Stmt := top 109
theorem sc_slot_number : FnScope ["value"] ["value"] (defScope s_slot_number) := ⟨rfl, rfl, rfl, by decide +kernel, rfl, by decide +kernel, by decide +kernel⟩
theorem bd_slot_number : Bd "slot_number" "slot_number" s_slot_number ["value"] := fun _ _ _ _ _ _ us hl => match us, hl with | [_], _ => rfl
abbrev s_volume_in : Stmt := top 110
theorem sc_volume_in : FnScope ["shelf", "value", "volume"] ["shelf", "value"] (defScope s_volume_in) := ⟨rfl, rfl, rfl, by decide +kernel, rfl, by decide +kernel, by decide +kernel⟩
theorem bd_volume_in : Bd "volume_in" "volume_in" s_volume_in ["shelf", "value"] := fun _ _ _ _ _ _ us hl => match us, hl with | [_, _], _ => rfl
abbrev s_recovery_in : Stmt := top 111
theorem sc_recovery_in : FnScope ["shelf", "value", "recovery"] ["shelf", "value"] (defScope s_recovery_in) := ⟨rfl, rfl, rfl, by decide +kernel, rfl, by decide +kernel, by decide +kernel⟩
theorem bd_recovery_in : Bd "recovery_in" "recovery_in" s_recovery_in ["shelf", "value"] := fun _ _ _ _ _ _ us hl => match us, hl with | [_, _], _ => rfl
abbrev s_Shelf___init__ : Stmt := inClass (top 108) 0
theorem sc_Shelf___init__ : FnScope ["self"] ["self"] (defScope s_Shelf___init__) := ⟨rfl, rfl, rfl, by decide +kernel, rfl, by decide +kernel, by decide +kernel⟩
theorem bd_Shelf___init__ : Bd "__init__" "Shelf.__init__" s_Shelf___init__ ["self"] := fun _ _ _ _ _ _ us hl => match us, hl with | [_], _ => rfl
abbrev s_Shelf_fill_volume : Stmt := inClass (top 108) 1
theorem sc_Shelf_fill_volume : FnScope ["self", "slot", "volume"] ["self", "slot", "volume"] (defScope s_Shelf_fill_volume) := ⟨rfl, rfl, rfl, by decide +kernel, rfl, by decide +kernel, by decide +kernel⟩
theorem bd_Shelf_fill_volume : Bd "fill_volume" "Shelf.fill_volume" s_Shelf_fill_volume ["self", "slot", "volume"] := fun _ _ _ _ _ _ us hl => match us, hl with | [_, _, _], _ => rfl
abbrev s_Shelf_fill_recovery : Stmt := inClass (top 108) 2
theorem sc_Shelf_fill_recovery : FnScope ["self", "slot", "recovery"] ["self", "slot", "recovery"] (defScope s_Shelf_fill_recovery) := ⟨rfl, rfl, rfl, by decide +kernel, rfl, by decide +kernel, by decide +kernel⟩
theorem bd_Shelf_fill_recovery : Bd "fill_recovery" "Shelf.fill_recovery" s_Shelf_fill_recovery ["self", "slot", "recovery"] := fun _ _ _ _ _ _ us hl => match us, hl with | [_, _, _], _ => rfl
def fCallVol (K : PySem.W.Frag) : V → V → V → Hp → VK → XK → Prop := fun a b c H Q E => ∃ G L v ps vs l, ∃ d : Nat, a = .ref L.self ∧ b = .int (d : Int) ∧ c = .ref l ∧ 2 ≤ d ∧ d ≤ 16 ∧ G l = some (.lst vs) ∧ AtL G ps vs ∧ ps.length = argsL.getD d 0 ∧ VGood v ∧ VolAt K G H L v ∧ OutV K G H L (volDo v ps d) Q E
theorem d_call_volume (T : TxtX K mg) (F : Fs K mg "call_volume" s_call_volume)
    (D_lock_block : DefOk P w K mg base (L2N.CX P w) 4 "lock_block" ["volume", "node_value", "block_value", "alone_value"] (Sp4 (fLockBlock K)))
    (D_unlock_block : DefOk P w K mg base (L2N.CX P w) 4 "unlock_block" ["volume", "node_value", "block_value"] (Sp3 (fUnlockBlock K)))
    (D_read_block : DefOk P w K mg base (L2N.CX P w) 4 "read_block" ["volume", "node_value", "block_value"] (Sp3 (fReadBlock K)))
    (D_commit_pairs : DefOk P w K mg base (L2N.CX P w) 5 "commit_pairs" ["volume", "node_value", "pairs_value"] (Sp3 (fCommitPairs K)))
    (D_flush_block : DefOk P w K mg base (L2N.CX P w) 4 "flush_block" ["volume", "node_value", "block_value"] (Sp3 (fFlushBlock K)))
    (D_trim_journal : DefOk P w K mg base (L2N.CX P w) 6 "trim_journal" ["volume", "node_value"] (Sp2 (fTrim K)))
    (D_land_write : DefOk P w K mg base (L2N.CX P w) 3 "land_write" ["volume", "write_value"] (Sp2 (fLand K)))
    (D_crash_node : DefOk P w K mg base (L2N.CX P w) 4 "crash_node" ["volume", "node_value"] (Sp2 (fCrash K)))
    (D_shut_node : DefOk P w K mg base (L2N.CX P w) 3 "shut_node" ["volume", "node_value", "torn_value"] (Sp3 (fShut K)))
    (D_replay_journal : DefOk P w K mg base (L2N.CX P w) 6 "replay_journal" ["volume", "by_value", "node_value"] (Sp3 (fReplay K)))
    (D_free_locks : DefOk P w K mg base (L2N.CX P w) 4 "free_locks" ["volume", "node_value"] (Sp2 (fFree K)))
    (D_boot_node : DefOk P w K mg base (L2N.CX P w) 3 "boot_node" ["volume", "node_value"] (Sp2 (fBoot K)))
    (D_journal_of : DefOk P w K mg base (L2N.CX P w) 3 "journal_of" ["volume", "node_value"] (Sp2 (fJournalOf K)))
    (D_last_of : DefOk P w K mg base (L2N.CX P w) 4 "last_of" ["volume", "block_value"] (Sp2 (fLastOf K)))
    (D_state_of : DefOk P w K mg base CX0 6 "state_of" ["volume"] (Sp1 (fStateOf K)))
    : DefOk P w K mg base (L2N.CX P w) 7 "call_volume" ["volume", "door", "values"] (Sp3 (fCallVol K)) :=
  def_R F sc_call_volume bd_call_volume fun f cdv A outer s H vs Q E hr h => by
    obtain ⟨_, _, _, rfl, G, L, v, ps, us, l, d, rfl, rfl, rfl, hd1, hd2, hl, hp, hn, hg, h, q⟩ := h
    have hL : SqL K H l us := SqL.of (h.sub _ _ hl)
    refine ⟨_, (pss_cons (ps_if (pt_cmpR op_eq (pv 1) pe_int (nomark _)) (pss_one (ps_ret (pe_d D_lock_block (hr.mono (by decide)) passR (pa_cons (pv 0) (pa_cons (pe_ix ix_list (pv 2) pe_int (fun _ _ => rfl)) (pa_cons (pe_ix ix_list (pv 2) pe_int (fun _ _ => rfl)) (pa_cons (pe_ix ix_list (pv 2) pe_int (fun _ _ => rfl)) pa_nil))))))) pss_nil) (pss_cons (ps_if (pt_cmpR op_eq (pv 1) pe_int (nomark _)) (pss_one (ps_ret (pe_d D_unlock_block (hr.mono (by decide)) passR (pa_cons (pv 0) (pa_cons (pe_ix ix_list (pv 2) pe_int (fun _ _ => rfl)) (pa_cons (pe_ix ix_list (pv 2) pe_int (fun _ _ => rfl)) pa_nil)))))) pss_nil) (pss_cons (ps_if (pt_cmpR op_eq (pv 1) pe_int (nomark _)) (pss_one (ps_ret (pe_d D_read_block (hr.mono (by decide)) passR (pa_cons (pv 0) (pa_cons (pe_ix ix_list (pv 2) pe_int (fun _ _ => rfl)) (pa_cons (pe_ix ix_list (pv 2) pe_int (fun _ _ => rfl)) pa_nil)))))) pss_nil) (pss_cons (ps_if (pt_cmpR op_eq (pv 1) pe_int (nomark _)) (pss_one (ps_ret (pe_d D_commit_pairs (hr.mono (by decide)) passR (pa_cons (pv 0) (pa_cons (pe_ix ix_list (pv 2) pe_int (fun _ _ => rfl)) (pa_cons (pe_ix ix_list (pv 2) pe_int (fun _ _ => rfl)) pa_nil)))))) pss_nil) (pss_cons (ps_if (pt_cmpR op_eq (pv 1) pe_int (nomark _)) (pss_one (ps_ret (pe_d D_flush_block (hr.mono (by decide)) passR (pa_cons (pv 0) (pa_cons (pe_ix ix_list (pv 2) pe_int (fun _ _ => rfl)) (pa_cons (pe_ix ix_list (pv 2) pe_int (fun _ _ => rfl)) pa_nil)))))) pss_nil) (pss_cons (ps_if (pt_cmpR op_eq (pv 1) pe_int (nomark _)) (pss_one (ps_ret (pe_d D_trim_journal (hr.mono (by decide)) passR (pa_cons (pv 0) (pa_cons (pe_ix ix_list (pv 2) pe_int (fun _ _ => rfl)) pa_nil))))) pss_nil) (pss_cons (ps_if (pt_cmpR op_eq (pv 1) pe_int (nomark _)) (pss_one (ps_ret (pe_d D_land_write (hr.mono (by decide)) passR (pa_cons (pv 0) (pa_cons (pe_ix ix_list (pv 2) pe_int (fun _ _ => rfl)) pa_nil))))) pss_nil) (pss_cons (ps_if (pt_cmpR op_eq (pv 1) pe_int (nomark _)) (pss_one (ps_ret (pe_d D_crash_node (hr.mono (by decide)) passR (pa_cons (pv 0) (pa_cons (pe_ix ix_list (pv 2) pe_int (fun _ _ => rfl)) pa_nil))))) pss_nil) (pss_cons (ps_if (pt_cmpR op_eq (pv 1) pe_int (nomark _)) (pss_one (ps_ret (pe_d D_shut_node (hr.mono (by decide)) passR (pa_cons (pv 0) (pa_cons (pe_ix ix_list (pv 2) pe_int (fun _ _ => rfl)) (pa_cons (pe_ix ix_list (pv 2) pe_int (fun _ _ => rfl)) pa_nil)))))) pss_nil) (pss_cons (ps_if (pt_cmpR op_eq (pv 1) pe_int (nomark _)) (pss_one (ps_ret (pe_d D_replay_journal (hr.mono (by decide)) passR (pa_cons (pv 0) (pa_cons (pe_ix ix_list (pv 2) pe_int (fun _ _ => rfl)) (pa_cons (pe_ix ix_list (pv 2) pe_int (fun _ _ => rfl)) pa_nil)))))) pss_nil) (pss_cons (ps_if (pt_cmpR op_eq (pv 1) pe_int (nomark _)) (pss_one (ps_ret (pe_d D_free_locks (hr.mono (by decide)) passR (pa_cons (pv 0) (pa_cons (pe_ix ix_list (pv 2) pe_int (fun _ _ => rfl)) pa_nil))))) pss_nil) (pss_cons (ps_if (pt_cmpR op_eq (pv 1) pe_int (nomark _)) (pss_one (ps_ret (pe_d D_boot_node (hr.mono (by decide)) passR (pa_cons (pv 0) (pa_cons (pe_ix ix_list (pv 2) pe_int (fun _ _ => rfl)) pa_nil))))) pss_nil) (pss_cons (ps_if (pt_cmpR op_eq (pv 1) pe_int (nomark _)) (pss_one (ps_ret (pe_d D_journal_of (hr.mono (by decide)) passR (pa_cons (pv 0) (pa_cons (pe_ix ix_list (pv 2) pe_int (fun _ _ => rfl)) pa_nil))))) pss_nil) (pss_cons (ps_if (pt_cmpR op_eq (pv 1) pe_int (nomark _)) (pss_one (ps_ret (pe_d D_last_of (hr.mono (by decide)) passR (pa_cons (pv 0) (pa_cons (pe_ix ix_list (pv 2) pe_int (fun _ _ => rfl)) pa_nil))))) pss_nil) (pss_one (ps_ret (pe_d D_state_of (hr.mono (by decide)) pass0 (pa_cons (pv 0) pa_nil)))))))))))))))))), ?_⟩
    match d, hd1, hd2 with
    | 2, _, _ =>
      obtain ⟨x1, e1, a1⟩ := arg_at (i := 1) hp (by rw [hn]; decide)
      obtain ⟨x2, e2, a2⟩ := arg_at (i := 2) hp (by rw [hn]; decide)
      obtain ⟨x3, e3, a3⟩ := arg_at (i := 3) hp (by rw [hn]; decide)
      refine tSeq_if ⟨_, rfl, rfl, _, rfl, iteT ?_⟩
      exact ⟨_, rfl, _, rfl, l, _, _, _, rfl, rfl, hL, e1, _, rfl, l, _, _, _, rfl, rfl, hL, e2, _, rfl, l, _, _, _, rfl, rfl, hL, e3, _, _, _, _, rfl, G, L, v, ps.getD 1 .undef, ps.getD 2 .undef, ps.getD 3 .undef, rfl, a1, a2, a3, hg, h, OutV.door q⟩
    | 3, _, _ =>
      obtain ⟨x1, e1, a1⟩ := arg_at (i := 1) hp (by rw [hn]; decide)
      obtain ⟨x2, e2, a2⟩ := arg_at (i := 2) hp (by rw [hn]; decide)
      refine tSeq_if ⟨_, rfl, rfl, _, rfl, iteF ?_⟩
      dsimp only [tNext]
      refine tSeq_if ⟨_, rfl, rfl, _, rfl, iteT ?_⟩
      exact ⟨_, rfl, _, rfl, l, _, _, _, rfl, rfl, hL, e1, _, rfl, l, _, _, _, rfl, rfl, hL, e2, _, _, _, rfl, G, L, v, ps.getD 1 .undef, ps.getD 2 .undef, rfl, a1, a2, hg, h, OutV.door q⟩
    | 4, _, _ =>
      obtain ⟨x1, e1, a1⟩ := arg_at (i := 1) hp (by rw [hn]; decide)
      obtain ⟨x2, e2, a2⟩ := arg_at (i := 2) hp (by rw [hn]; decide)
      refine tSeq_if ⟨_, rfl, rfl, _, rfl, iteF ?_⟩
      dsimp only [tNext]
      refine tSeq_if ⟨_, rfl, rfl, _, rfl, iteF ?_⟩
      dsimp only [tNext]
      refine tSeq_if ⟨_, rfl, rfl, _, rfl, iteT ?_⟩
      exact ⟨_, rfl, _, rfl, l, _, _, _, rfl, rfl, hL, e1, _, rfl, l, _, _, _, rfl, rfl, hL, e2, _, _, _, rfl, G, L, v, ps.getD 1 .undef, ps.getD 2 .undef, rfl, a1, a2, hg, h, q.then.mono fun p _ q G' H' y e hy => q G' H' L y (Step.ext e) (h.ext e) hy⟩
    | 5, _, _ =>
      obtain ⟨x1, e1, a1⟩ := arg_at (i := 1) hp (by rw [hn]; decide)
      obtain ⟨x2, e2, a2⟩ := arg_at (i := 2) hp (by rw [hn]; decide)
      refine tSeq_if ⟨_, rfl, rfl, _, rfl, iteF ?_⟩
      dsimp only [tNext]
      refine tSeq_if ⟨_, rfl, rfl, _, rfl, iteF ?_⟩
      dsimp only [tNext]
      refine tSeq_if ⟨_, rfl, rfl, _, rfl, iteF ?_⟩
      dsimp only [tNext]
      refine tSeq_if ⟨_, rfl, rfl, _, rfl, iteT ?_⟩
      exact ⟨_, rfl, _, rfl, l, _, _, _, rfl, rfl, hL, e1, _, rfl, l, _, _, _, rfl, rfl, hL, e2, _, _, _, rfl, G, L, v, ps.getD 1 .undef, ps.getD 2 .undef, rfl, a1, a2, hg, h, OutV.door q⟩
    | 6, _, _ =>
      obtain ⟨x1, e1, a1⟩ := arg_at (i := 1) hp (by rw [hn]; decide)
      obtain ⟨x2, e2, a2⟩ := arg_at (i := 2) hp (by rw [hn]; decide)
      refine tSeq_if ⟨_, rfl, rfl, _, rfl, iteF ?_⟩
      dsimp only [tNext]
      refine tSeq_if ⟨_, rfl, rfl, _, rfl, iteF ?_⟩
      dsimp only [tNext]
      refine tSeq_if ⟨_, rfl, rfl, _, rfl, iteF ?_⟩
      dsimp only [tNext]
      refine tSeq_if ⟨_, rfl, rfl, _, rfl, iteF ?_⟩
      dsimp only [tNext]
      refine tSeq_if ⟨_, rfl, rfl, _, rfl, iteT ?_⟩
      exact ⟨_, rfl, _, rfl, l, _, _, _, rfl, rfl, hL, e1, _, rfl, l, _, _, _, rfl, rfl, hL, e2, _, _, _, rfl, G, L, v, ps.getD 1 .undef, ps.getD 2 .undef, rfl, a1, a2, hg, h, OutV.door q⟩
    | 7, _, _ =>
      obtain ⟨x1, e1, a1⟩ := arg_at (i := 1) hp (by rw [hn]; decide)
      refine tSeq_if ⟨_, rfl, rfl, _, rfl, iteF ?_⟩
      dsimp only [tNext]
      refine tSeq_if ⟨_, rfl, rfl, _, rfl, iteF ?_⟩
      dsimp only [tNext]
      refine tSeq_if ⟨_, rfl, rfl, _, rfl, iteF ?_⟩
      dsimp only [tNext]
      refine tSeq_if ⟨_, rfl, rfl, _, rfl, iteF ?_⟩
      dsimp only [tNext]
      refine tSeq_if ⟨_, rfl, rfl, _, rfl, iteF ?_⟩
      dsimp only [tNext]
      refine tSeq_if ⟨_, rfl, rfl, _, rfl, iteT ?_⟩
      exact ⟨_, rfl, _, rfl, l, _, _, _, rfl, rfl, hL, e1, _, _, rfl, G, L, v, ps.getD 1 .undef, rfl, a1, hg, h, OutV.door q⟩
    | 8, _, _ =>
      obtain ⟨x1, e1, a1⟩ := arg_at (i := 1) hp (by rw [hn]; decide)
      refine tSeq_if ⟨_, rfl, rfl, _, rfl, iteF ?_⟩
      dsimp only [tNext]
      refine tSeq_if ⟨_, rfl, rfl, _, rfl, iteF ?_⟩
      dsimp only [tNext]
      refine tSeq_if ⟨_, rfl, rfl, _, rfl, iteF ?_⟩
      dsimp only [tNext]
      refine tSeq_if ⟨_, rfl, rfl, _, rfl, iteF ?_⟩
      dsimp only [tNext]
      refine tSeq_if ⟨_, rfl, rfl, _, rfl, iteF ?_⟩
      dsimp only [tNext]
      refine tSeq_if ⟨_, rfl, rfl, _, rfl, iteF ?_⟩
      dsimp only [tNext]
      refine tSeq_if ⟨_, rfl, rfl, _, rfl, iteT ?_⟩
      exact ⟨_, rfl, _, rfl, l, _, _, _, rfl, rfl, hL, e1, _, _, rfl, G, L, v, ps.getD 1 .undef, rfl, a1, hg, h, OutV.door q⟩
    | 9, _, _ =>
      obtain ⟨x1, e1, a1⟩ := arg_at (i := 1) hp (by rw [hn]; decide)
      refine tSeq_if ⟨_, rfl, rfl, _, rfl, iteF ?_⟩
      dsimp only [tNext]
      refine tSeq_if ⟨_, rfl, rfl, _, rfl, iteF ?_⟩
      dsimp only [tNext]
      refine tSeq_if ⟨_, rfl, rfl, _, rfl, iteF ?_⟩
      dsimp only [tNext]
      refine tSeq_if ⟨_, rfl, rfl, _, rfl, iteF ?_⟩
      dsimp only [tNext]
      refine tSeq_if ⟨_, rfl, rfl, _, rfl, iteF ?_⟩
      dsimp only [tNext]
      refine tSeq_if ⟨_, rfl, rfl, _, rfl, iteF ?_⟩
      dsimp only [tNext]
      refine tSeq_if ⟨_, rfl, rfl, _, rfl, iteF ?_⟩
      dsimp only [tNext]
      refine tSeq_if ⟨_, rfl, rfl, _, rfl, iteT ?_⟩
      exact ⟨_, rfl, _, rfl, l, _, _, _, rfl, rfl, hL, e1, _, _, rfl, G, L, v, ps.getD 1 .undef, rfl, a1, hg, h, OutV.door q⟩
    | 10, _, _ =>
      obtain ⟨x1, e1, a1⟩ := arg_at (i := 1) hp (by rw [hn]; decide)
      obtain ⟨x2, e2, a2⟩ := arg_at (i := 2) hp (by rw [hn]; decide)
      refine tSeq_if ⟨_, rfl, rfl, _, rfl, iteF ?_⟩
      dsimp only [tNext]
      refine tSeq_if ⟨_, rfl, rfl, _, rfl, iteF ?_⟩
      dsimp only [tNext]
      refine tSeq_if ⟨_, rfl, rfl, _, rfl, iteF ?_⟩
      dsimp only [tNext]
      refine tSeq_if ⟨_, rfl, rfl, _, rfl, iteF ?_⟩
      dsimp only [tNext]
      refine tSeq_if ⟨_, rfl, rfl, _, rfl, iteF ?_⟩
      dsimp only [tNext]
      refine tSeq_if ⟨_, rfl, rfl, _, rfl, iteF ?_⟩
      dsimp only [tNext]
      refine tSeq_if ⟨_, rfl, rfl, _, rfl, iteF ?_⟩
      dsimp only [tNext]
      refine tSeq_if ⟨_, rfl, rfl, _, rfl, iteF ?_⟩
      dsimp only [tNext]
      refine tSeq_if ⟨_, rfl, rfl, _, rfl, iteT ?_⟩
      exact ⟨_, rfl, _, rfl, l, _, _, _, rfl, rfl, hL, e1, _, rfl, l, _, _, _, rfl, rfl, hL, e2, _, _, _, rfl, G, L, v, ps.getD 1 .undef, ps.getD 2 .undef, rfl, a1, a2, hg, h, OutV.door q⟩
    | 11, _, _ =>
      obtain ⟨x1, e1, a1⟩ := arg_at (i := 1) hp (by rw [hn]; decide)
      obtain ⟨x2, e2, a2⟩ := arg_at (i := 2) hp (by rw [hn]; decide)
      refine tSeq_if ⟨_, rfl, rfl, _, rfl, iteF ?_⟩
      dsimp only [tNext]
      refine tSeq_if ⟨_, rfl, rfl, _, rfl, iteF ?_⟩
      dsimp only [tNext]
      refine tSeq_if ⟨_, rfl, rfl, _, rfl, iteF ?_⟩
      dsimp only [tNext]
      refine tSeq_if ⟨_, rfl, rfl, _, rfl, iteF ?_⟩
      dsimp only [tNext]
      refine tSeq_if ⟨_, rfl, rfl, _, rfl, iteF ?_⟩
      dsimp only [tNext]
      refine tSeq_if ⟨_, rfl, rfl, _, rfl, iteF ?_⟩
      dsimp only [tNext]
      refine tSeq_if ⟨_, rfl, rfl, _, rfl, iteF ?_⟩
      dsimp only [tNext]
      refine tSeq_if ⟨_, rfl, rfl, _, rfl, iteF ?_⟩
      dsimp only [tNext]
      refine tSeq_if ⟨_, rfl, rfl, _, rfl, iteF ?_⟩
      dsimp only [tNext]
      refine tSeq_if ⟨_, rfl, rfl, _, rfl, iteT ?_⟩
      exact ⟨_, rfl, _, rfl, l, _, _, _, rfl, rfl, hL, e1, _, rfl, l, _, _, _, rfl, rfl, hL, e2, _, _, _, rfl, G, L, v, ps.getD 1 .undef, ps.getD 2 .undef, rfl, a1, a2, hg, h, OutV.door q⟩
    | 12, _, _ =>
      obtain ⟨x1, e1, a1⟩ := arg_at (i := 1) hp (by rw [hn]; decide)
      refine tSeq_if ⟨_, rfl, rfl, _, rfl, iteF ?_⟩
      dsimp only [tNext]
      refine tSeq_if ⟨_, rfl, rfl, _, rfl, iteF ?_⟩
      dsimp only [tNext]
      refine tSeq_if ⟨_, rfl, rfl, _, rfl, iteF ?_⟩
      dsimp only [tNext]
      refine tSeq_if ⟨_, rfl, rfl, _, rfl, iteF ?_⟩
      dsimp only [tNext]
      refine tSeq_if ⟨_, rfl, rfl, _, rfl, iteF ?_⟩
      dsimp only [tNext]
      refine tSeq_if ⟨_, rfl, rfl, _, rfl, iteF ?_⟩
      dsimp only [tNext]
      refine tSeq_if ⟨_, rfl, rfl, _, rfl, iteF ?_⟩
      dsimp only [tNext]
      refine tSeq_if ⟨_, rfl, rfl, _, rfl, iteF ?_⟩
      dsimp only [tNext]
      refine tSeq_if ⟨_, rfl, rfl, _, rfl, iteF ?_⟩
      dsimp only [tNext]
      refine tSeq_if ⟨_, rfl, rfl, _, rfl, iteF ?_⟩
      dsimp only [tNext]
      refine tSeq_if ⟨_, rfl, rfl, _, rfl, iteT ?_⟩
      exact ⟨_, rfl, _, rfl, l, _, _, _, rfl, rfl, hL, e1, _, _, rfl, G, L, v, ps.getD 1 .undef, rfl, a1, hg, h, OutV.door q⟩
    | 13, _, _ =>
      obtain ⟨x1, e1, a1⟩ := arg_at (i := 1) hp (by rw [hn]; decide)
      refine tSeq_if ⟨_, rfl, rfl, _, rfl, iteF ?_⟩
      dsimp only [tNext]
      refine tSeq_if ⟨_, rfl, rfl, _, rfl, iteF ?_⟩
      dsimp only [tNext]
      refine tSeq_if ⟨_, rfl, rfl, _, rfl, iteF ?_⟩
      dsimp only [tNext]
      refine tSeq_if ⟨_, rfl, rfl, _, rfl, iteF ?_⟩
      dsimp only [tNext]
      refine tSeq_if ⟨_, rfl, rfl, _, rfl, iteF ?_⟩
      dsimp only [tNext]
      refine tSeq_if ⟨_, rfl, rfl, _, rfl, iteF ?_⟩
      dsimp only [tNext]
      refine tSeq_if ⟨_, rfl, rfl, _, rfl, iteF ?_⟩
      dsimp only [tNext]
      refine tSeq_if ⟨_, rfl, rfl, _, rfl, iteF ?_⟩
      dsimp only [tNext]
      refine tSeq_if ⟨_, rfl, rfl, _, rfl, iteF ?_⟩
      dsimp only [tNext]
      refine tSeq_if ⟨_, rfl, rfl, _, rfl, iteF ?_⟩
      dsimp only [tNext]
      refine tSeq_if ⟨_, rfl, rfl, _, rfl, iteF ?_⟩
      dsimp only [tNext]
      refine tSeq_if ⟨_, rfl, rfl, _, rfl, iteT ?_⟩
      exact ⟨_, rfl, _, rfl, l, _, _, _, rfl, rfl, hL, e1, _, _, rfl, G, L, v, ps.getD 1 .undef, rfl, a1, hg, h, OutV.door q⟩
    | 14, _, _ =>
      obtain ⟨x1, e1, a1⟩ := arg_at (i := 1) hp (by rw [hn]; decide)
      refine tSeq_if ⟨_, rfl, rfl, _, rfl, iteF ?_⟩
      dsimp only [tNext]
      refine tSeq_if ⟨_, rfl, rfl, _, rfl, iteF ?_⟩
      dsimp only [tNext]
      refine tSeq_if ⟨_, rfl, rfl, _, rfl, iteF ?_⟩
      dsimp only [tNext]
      refine tSeq_if ⟨_, rfl, rfl, _, rfl, iteF ?_⟩
      dsimp only [tNext]
      refine tSeq_if ⟨_, rfl, rfl, _, rfl, iteF ?_⟩
      dsimp only [tNext]
      refine tSeq_if ⟨_, rfl, rfl, _, rfl, iteF ?_⟩
      dsimp only [tNext]
      refine tSeq_if ⟨_, rfl, rfl, _, rfl, iteF ?_⟩
      dsimp only [tNext]
      refine tSeq_if ⟨_, rfl, rfl, _, rfl, iteF ?_⟩
      dsimp only [tNext]
      refine tSeq_if ⟨_, rfl, rfl, _, rfl, iteF ?_⟩
      dsimp only [tNext]
      refine tSeq_if ⟨_, rfl, rfl, _, rfl, iteF ?_⟩
      dsimp only [tNext]
      refine tSeq_if ⟨_, rfl, rfl, _, rfl, iteF ?_⟩
      dsimp only [tNext]
      refine tSeq_if ⟨_, rfl, rfl, _, rfl, iteF ?_⟩
      dsimp only [tNext]
      refine tSeq_if ⟨_, rfl, rfl, _, rfl, iteT ?_⟩
      exact ⟨_, rfl, _, rfl, l, _, _, _, rfl, rfl, hL, e1, _, _, rfl, G, L, v, ps.getD 1 .undef, rfl, a1, hg, h, OutV.ret h q⟩
    | 15, _, _ =>
      obtain ⟨x1, e1, a1⟩ := arg_at (i := 1) hp (by rw [hn]; decide)
      refine tSeq_if ⟨_, rfl, rfl, _, rfl, iteF ?_⟩
      dsimp only [tNext]
      refine tSeq_if ⟨_, rfl, rfl, _, rfl, iteF ?_⟩
      dsimp only [tNext]
      refine tSeq_if ⟨_, rfl, rfl, _, rfl, iteF ?_⟩
      dsimp only [tNext]
      refine tSeq_if ⟨_, rfl, rfl, _, rfl, iteF ?_⟩
      dsimp only [tNext]
      refine tSeq_if ⟨_, rfl, rfl, _, rfl, iteF ?_⟩
      dsimp only [tNext]
      refine tSeq_if ⟨_, rfl, rfl, _, rfl, iteF ?_⟩
      dsimp only [tNext]
      refine tSeq_if ⟨_, rfl, rfl, _, rfl, iteF ?_⟩
      dsimp only [tNext]
      refine tSeq_if ⟨_, rfl, rfl, _, rfl, iteF ?_⟩
      dsimp only [tNext]
      refine tSeq_if ⟨_, rfl, rfl, _, rfl, iteF ?_⟩
      dsimp only [tNext]
      refine tSeq_if ⟨_, rfl, rfl, _, rfl, iteF ?_⟩
      dsimp only [tNext]
      refine tSeq_if ⟨_, rfl, rfl, _, rfl, iteF ?_⟩
      dsimp only [tNext]
      refine tSeq_if ⟨_, rfl, rfl, _, rfl, iteF ?_⟩
      dsimp only [tNext]
      refine tSeq_if ⟨_, rfl, rfl, _, rfl, iteF ?_⟩
      dsimp only [tNext]
      refine tSeq_if ⟨_, rfl, rfl, _, rfl, iteT ?_⟩
      exact ⟨_, rfl, _, rfl, l, _, _, _, rfl, rfl, hL, e1, _, _, rfl, G, L, v, ps.getD 1 .undef, rfl, a1, hg, h, OutV.ret h q⟩
    | 16, _, _ =>
      refine tSeq_if ⟨_, rfl, rfl, _, rfl, iteF ?_⟩
      dsimp only [tNext]
      refine tSeq_if ⟨_, rfl, rfl, _, rfl, iteF ?_⟩
      dsimp only [tNext]
      refine tSeq_if ⟨_, rfl, rfl, _, rfl, iteF ?_⟩
      dsimp only [tNext]
      refine tSeq_if ⟨_, rfl, rfl, _, rfl, iteF ?_⟩
      dsimp only [tNext]
      refine tSeq_if ⟨_, rfl, rfl, _, rfl, iteF ?_⟩
      dsimp only [tNext]
      refine tSeq_if ⟨_, rfl, rfl, _, rfl, iteF ?_⟩
      dsimp only [tNext]
      refine tSeq_if ⟨_, rfl, rfl, _, rfl, iteF ?_⟩
      dsimp only [tNext]
      refine tSeq_if ⟨_, rfl, rfl, _, rfl, iteF ?_⟩
      dsimp only [tNext]
      refine tSeq_if ⟨_, rfl, rfl, _, rfl, iteF ?_⟩
      dsimp only [tNext]
      refine tSeq_if ⟨_, rfl, rfl, _, rfl, iteF ?_⟩
      dsimp only [tNext]
      refine tSeq_if ⟨_, rfl, rfl, _, rfl, iteF ?_⟩
      dsimp only [tNext]
      refine tSeq_if ⟨_, rfl, rfl, _, rfl, iteF ?_⟩
      dsimp only [tNext]
      refine tSeq_if ⟨_, rfl, rfl, _, rfl, iteF ?_⟩
      dsimp only [tNext]
      refine tSeq_if ⟨_, rfl, rfl, _, rfl, iteF ?_⟩
      dsimp only [tNext]
      exact ⟨_, rfl, _, rfl, G, L, v, rfl, hg, h, fun G' H' y e hy => q G' H' L y (Step.ext e) (h.ext e) hy⟩
    | d + 17, _, hd2 => exact absurd hd2 (by omega)
end
end Ov
set_option maxHeartbeats 4000000
/-! V19: the shelf and the doors that name it. -/
namespace Ov
open PySem PySem.Spec PyProof.Rows L2
open R7237f.Spec (Plain Units Volume RecoverState Res andThen Told toldPlain nodeArg blockArg)
theorem slot_some {p : Plain} {s : Nat} (h : Rust.slotOf 1 p = some s) : p = .num (some (s : Int)) ∧ s ≤ 1 := by
  cases p with
  | num x =>
    unfold Rust.slotOf at h
    cases x with
    | none => cases h
    | some i =>
      have h : (if decide (0 ≤ i) && Nat.ble i.toNat 1 then some i.toNat else none) = some s := h
      by_cases c : (decide (0 ≤ i) && Nat.ble i.toNat 1) = true
      · rw [if_pos c] at h
        rw [Bool.and_eq_true] at c
        have c1 := of_decide_eq_true c.1
        have c2 := Nat.le_of_ble_eq_true c.2
        cases h
        exact ⟨by rw [Int.toNat_of_nonneg c1], c2⟩
      · rw [if_neg c] at h
        cases h
  | _ => cases h
theorem two_at {α : Type} {x y : α} {d : α} {s : Nat} (h : s ≤ 1) : [x, y][s]? = some ([x, y].getD s d) := by
  match s, h with
  | 0, _ => rfl
  | 1, _ => rfl
section
variable {P : Program} {w : World} {K : PySem.W.Frag} {mg : Str → Option Value} {base : Heap}
def fSlot : V → Hp → VK → XK → Prop := fun a H Q _ => ∃ G p s, Same G H ∧ AtV G p a ∧ Rust.slotOf 1 p = some s ∧ Q (.int (s : Int)) H
theorem d_slot_number (T : TxtX K mg) (D_is_integer : DefOk P w K mg base CX0 1 "is_integer" ["value", "low", "high"] (Sp3 fIsInteger)) (F : Fs K mg "slot_number" s_slot_number) : DefOk P w K mg base CX0 2 "slot_number" ["value"] (Sp1 fSlot) :=
  def_C F sc_slot_number bd_slot_number fun f cdv A outer s H vs Q E hr h => by
    obtain ⟨_, rfl, G, p, sl, hs, hp, hsl, q⟩ := h
    obtain ⟨rfl, h1⟩ := slot_some hsl
    obtain ⟨a, i, rfl, ei, ha⟩ := id hp
    cases ei
    refine ⟨_, (pss_cons (ps_if (pt_not (pt_val (pe_d D_is_integer (hr.mono (by decide)) pass0 (pa_cons (pv 0) (pa_cons pe_int (pa_cons pe_int pa_nil)))))) (pss_one ps_never) pss_nil) (pss_one (ps_ret (pe_ix ix_tup (pv 0) pe_int (fun _ _ => rfl))))), ?_⟩
    dsimp only
    refine tSeq_if ⟨_, rfl, _, _, _, rfl, G, _, 0, 1, rfl, rfl, hs, hp, ?_⟩
    rw [inR_num, decide_eq_true (by omega : (0 : Int) ≤ (sl : Int)), decide_eq_true (by omega : (sl : Int) ≤ 1)]
    exact ⟨_, rfl, iteF ⟨_, rfl, a, _, _, _, rfl, rfl, SqT.of (hs _ _ ha), rfl, q⟩⟩
def fVolIn (K : PySem.W.Frag) : V → V → Hp → VK → XK → Prop := fun a b H Q _ => ∃ G A wd p s i, a = .ref A.S ∧ WAt K G H A wd ∧ AtV G p b ∧ Rust.slotOf 1 p = some s ∧ wd.volumes.getD s none = some i ∧ Q (.ref (A.L i).self) H
theorem d_volume_in (T : TxtX K mg) (D_slot_number : DefOk P w K mg base CX0 2 "slot_number" ["value"] (Sp1 fSlot)) (F : Fs K mg "volume_in" s_volume_in) : DefOk P w K mg base CX0 3 "volume_in" ["shelf", "value"] (Sp2 (fVolIn K)) :=
  def_C F sc_volume_in bd_volume_in fun f cdv A outer s H vs Q E hr h => by
    obtain ⟨_, _, rfl, G, B, wd, p, sl, i, rfl, hw, hp, hsl, hv, q⟩ := h
    obtain ⟨_, h1⟩ := slot_some hsl
    refine ⟨_, (pss_cons (ps_set (i := 2) sc_volume_in.nd rfl (Or.inl rfl) (pe_ix ix_list (pe_fld (pv 0) rfl) (pe_d D_slot_number (hr.mono (by decide)) pass0 (pa_cons (pv 1) pa_nil)) (fun _ _ => rfl))) (pss_cons (ps_if (pt_cmp (pc_isN (pv 2)) rfl) (pss_one ps_never) pss_nil) (pss_one (ps_ret (pv 2))))), ?_⟩
    have at1 : atI [B.volV (wd.volumes.getD 0 none), B.volV (wd.volumes.getD 1 none)] (sl : Int) = some (V.ref (B.L i).self) := by
      refine atI_nat ?_
      match sl, h1 with
      | 0, _ => rw [hv]; rfl
      | 1, _ => rw [hv]; rfl
    refine ⟨_, rfl, _, _, _, _, _, rfl, hw.shelf, T.c_Shelf, T.n_Shelf _ mm0, rfl, _, rfl, _, rfl, G, p, sl, hw.sub, hp, hsl, B.VL, _, _, _, rfl, rfl, SqL.of hw.vols, at1, ?_⟩
    exact ⟨_, rfl, _, rfl, iteF ⟨_, rfl, q⟩⟩
def fRecIn (K : PySem.W.Frag) : V → V → Hp → VK → XK → Prop := fun a b H Q _ => ∃ G A wd p s x, a = .ref A.S ∧ WAt K G H A wd ∧ AtV G p b ∧ Rust.slotOf 1 p = some s ∧ wd.recovers.getD s none = some x ∧ Q (.ref (A.R s).1) H
theorem d_recovery_in (T : TxtX K mg) (D_slot_number : DefOk P w K mg base CX0 2 "slot_number" ["value"] (Sp1 fSlot)) (F : Fs K mg "recovery_in" s_recovery_in) : DefOk P w K mg base CX0 3 "recovery_in" ["shelf", "value"] (Sp2 (fRecIn K)) :=
  def_C F sc_recovery_in bd_recovery_in fun f cdv A outer s H vs Q E hr h => by
    obtain ⟨_, _, rfl, G, B, wd, p, sl, x, rfl, hw, hp, hsl, hv, q⟩ := h
    obtain ⟨_, h1⟩ := slot_some hsl
    refine ⟨_, (pss_cons (ps_set (i := 2) sc_recovery_in.nd rfl (Or.inl rfl) (pe_ix ix_list (pe_fld (pv 0) rfl) (pe_d D_slot_number (hr.mono (by decide)) pass0 (pa_cons (pv 1) pa_nil)) (fun _ _ => rfl))) (pss_cons (ps_if (pt_cmp (pc_isN (pv 2)) rfl) (pss_one ps_never) pss_nil) (pss_one (ps_ret (pv 2))))), ?_⟩
    have at1 : atI [B.recV 0 (wd.recovers.getD 0 none), B.recV 1 (wd.recovers.getD 1 none)] (sl : Int) = some (V.ref (B.R sl).1) := by
      refine atI_nat ?_
      match sl, h1 with
      | 0, _ => rw [hv]; rfl
      | 1, _ => rw [hv]; rfl
    refine ⟨_, rfl, _, _, _, _, _, rfl, hw.shelf, T.c_Shelf, T.n_Shelf _ mm1, rfl, _, rfl, _, rfl, G, p, sl, hw.sub, hp, hsl, B.RL, _, _, _, rfl, rfl, SqL.of hw.recs, at1, ?_⟩
    exact ⟨_, rfl, _, rfl, iteF ⟨_, rfl, q⟩⟩
def shF (a b : Addr) : List (Str × V) := [("volumes", .ref a), ("recoveries", .ref b)]
def fShelfInit (K : PySem.W.Frag) : V → Hp → VK → XK → Prop := fun a H Q _ => ∃ x dx, a = .ref x ∧ H x = some (.ins (cShelf K) dx []) ∧
  ∀ p1 p2 H', p1 ≠ p2 → H p1 = none → H p2 = none → H' x = some (.ins (cShelf K) dx (shF p1 p2)) → H' p1 = some (.lst [.non, .non]) → H' p2 = some (.lst [.non, .non]) → (∀ b, b ≠ x → b ≠ p1 → b ≠ p2 → H' b = H b) → Q .non H'
theorem d_Shelf_init (T : TxtX K mg) (F : Mks K mg "Shelf" "Shelf.__init__" s_Shelf___init__) : MkOk P w K mg base 1 "Shelf" ["self"] (Sp1 (fShelfInit K)) :=
  mk_C F sc_Shelf___init__ bd_Shelf___init__ fun f cdv A outer s H vs Q E hr h => by
    obtain ⟨_, rfl, x, dx, rfl, hx, q⟩ := h
    refine ⟨_, (pss_cons (ps_fld (pv 0) (pe_lst (pa_cons pe_non (pa_cons pe_non pa_nil))) rfl) (pss_one (ps_fld (pv 0) (pe_lst (pa_cons pe_non (pa_cons pe_non pa_nil))) rfl))), ?_⟩
    refine ⟨sz2, fun p1 h1 => ?_⟩
    have n1 : x ≠ p1 := fun z => by rw [← z, hx] at h1; cases h1
    refine ⟨_, rfl, _, _, _, _, rfl, by rw [upd_ne n1]; exact hx, T.c_Shelf, T.n_Shelf _ mm0, Nat.le_of_ble_eq_true rfl, ?_⟩
    refine ⟨sz2, fun p2 h2 => ?_⟩
    have n2 : x ≠ p2 := fun z => by rw [← z, upd_same] at h2; cases h2
    have n3 : p1 ≠ p2 := fun z => by rw [← z, upd_ne n1.symm, upd_same] at h2; cases h2
    refine ⟨_, rfl, _, _, _, _, rfl, by rw [upd_ne n2]; exact upd_same, T.c_Shelf, T.n_Shelf _ mm1, Nat.le_of_ble_eq_true rfl, ?_⟩
    rw [upd_ne n2.symm, upd_ne n3.symm] at h2
    refine q p1 p2 _ n3 h1 h2 upd_same ?_ ?_ fun b b1 b2 b3 => ?_
    · rw [upd_ne n1.symm, upd_ne n3, upd_ne n1.symm, upd_same]
    · rw [upd_ne n2.symm, upd_same]
    · rw [upd_ne b1, upd_ne b3, upd_ne b1, upd_ne b2]
def fFillVol (K : PySem.W.Frag) : V → V → V → Hp → VK → XK → Prop := fun a b c H Q _ => ∃ x dx p1 p2 us, ∃ s : Nat, a = .ref x ∧ b = .int (s : Int) ∧ s < us.length ∧ H x = some (.ins (cShelf K) dx (shF p1 p2)) ∧ H p1 = some (.lst us) ∧ Q .non (upd H p1 (.lst (us.set s c)))
theorem d_Shelf_fill_volume (T : TxtX K mg) (F : Ms K (cShelf K) "fill_volume" "Shelf.fill_volume" s_Shelf_fill_volume) : MetOk P w K mg base CX0 1 (cShelf K) "fill_volume" ["self", "slot", "volume"] (Sp3 (fFillVol K)) :=
  met_C F sc_Shelf_fill_volume bd_Shelf_fill_volume fun f cdv A outer s H vs Q E hr h => by
    obtain ⟨_, _, c, rfl, x, dx, p1, p2, us, sl, rfl, rfl, h1, hx, hp, q⟩ := h
    refine ⟨_, (pss_one (ps_asg (pv 2) (pg_sub (pe_fld (pv 0) rfl) (pv 1) set_list))), ?_⟩
    exact ⟨_, rfl, _, rfl, _, _, _, _, _, rfl, hx, T.c_Shelf, T.n_Shelf _ mm0, rfl, _, rfl, p1, us, _, sl, rfl, rfl, hp, ixN_of h1, q⟩
def fFillRec (K : PySem.W.Frag) : V → V → V → Hp → VK → XK → Prop := fun a b c H Q _ => ∃ x dx p1 p2 us, ∃ s : Nat, a = .ref x ∧ b = .int (s : Int) ∧ s < us.length ∧ H x = some (.ins (cShelf K) dx (shF p1 p2)) ∧ H p2 = some (.lst us) ∧ Q .non (upd H p2 (.lst (us.set s c)))
theorem d_Shelf_fill_recovery (T : TxtX K mg) (F : Ms K (cShelf K) "fill_recovery" "Shelf.fill_recovery" s_Shelf_fill_recovery) : MetOk P w K mg base CX0 1 (cShelf K) "fill_recovery" ["self", "slot", "recovery"] (Sp3 (fFillRec K)) :=
  met_C F sc_Shelf_fill_recovery bd_Shelf_fill_recovery fun f cdv A outer s H vs Q E hr h => by
    obtain ⟨_, _, c, rfl, x, dx, p1, p2, us, sl, rfl, rfl, h1, hx, hp, q⟩ := h
    refine ⟨_, (pss_one (ps_asg (pv 2) (pg_sub (pe_fld (pv 0) rfl) (pv 1) set_list))), ?_⟩
    exact ⟨_, rfl, _, rfl, _, _, _, _, _, rfl, hx, T.c_Shelf, T.n_Shelf _ mm1, rfl, _, rfl, p2, us, _, sl, rfl, rfl, hp, ixN_of h1, q⟩
/-- what a call of the whole leaves, and what it answers -/
def OutW (K : PySem.W.Frag) (G H : Hp) (A : WA) (r : R7237f.Spec.World × R7237f.Spec.Ans) (Q : VK) (E : XK) : Prop := match r.2 with
  | .ret p => ∀ G' H' A' x, StepW A G H A' G' H' → WAt K G' H' A' r.1 → AtV G' p x → Q x H'
  | .fail e => Rai K G H e E
def fCallCreate (K : PySem.W.Frag) : V → V → Hp → VK → XK → Prop := fun a b H Q E => ∃ G A wd ps vs l s, a = .ref A.S ∧ b = .ref l ∧ WAt K G H A wd ∧ WIn wd ∧ G l = some (.lst vs) ∧ AtL G ps vs ∧ ps.length = 4 ∧ Rust.slotOf 1 (ps.getD 0 .undef) = some s ∧
  OutW K G H A (R7237f.Spec.step wd (.volumeNew s (ps.getD 1 .undef) (ps.getD 2 .undef) (ps.getD 3 .undef))) Q E
theorem d_call_create (T : TxtX K mg) (D_slot_number : DefOk P w K mg base CX0 2 "slot_number" ["value"] (Sp1 fSlot)) (D_nothing : DefOk P w K mg base CX0 1 "nothing" [] (Sp0 fNothing)) (D_create_volume : DefOk P w K mg base (L2N.CX P w) 5 "create_volume" ["blocks", "nodes", "rules"] (Sp3 (fCreate K)))
    (D_Shelf_fill_volume : MetOk P w K mg base CX0 1 (cShelf K) "fill_volume" ["self", "slot", "volume"] (Sp3 (fFillVol K))) (F : Fs K mg "call_create" s_call_create) : DefOk P w K mg base (L2N.CX P w) 6 "call_create" ["shelf", "values"] (Sp2 (fCallCreate K)) :=
  def_R F sc_call_create bd_call_create fun f cdv A outer s H vs Q E hr h => by
    obtain ⟨_, _, rfl, G, B, wd, ps, us, l, sl, rfl, rfl, hw, hin, hl, hp, hn, hsl, q⟩ := h
    have hL : SqL K H l us := SqL.of (hw.sub _ _ hl)
    obtain ⟨x0, e0, a0⟩ := arg_at (i := 0) hp (by omega)
    obtain ⟨x1, e1, a1⟩ := arg_at (i := 1) hp (by omega)
    obtain ⟨x2, e2, a2⟩ := arg_at (i := 2) hp (by omega)
    obtain ⟨x3, e3, a3⟩ := arg_at (i := 3) hp (by omega)
    obtain ⟨_, hs1⟩ := slot_some hsl
    refine ⟨_, (pss_cons (ps_set (i := 2) sc_call_create.nd rfl (Or.inl rfl) (pe_d D_slot_number (hr.mono (by decide)) pass0 (pa_cons (pe_ix ix_list (pv 1) pe_int (fun _ _ => rfl)) pa_nil))) (pss_cons (ps_expr (pe_m T.c_Shelf D_Shelf_fill_volume (hr.mono (by decide)) pass0 (pv 0) (pa_cons (pv 2) (pa_cons (pe_d D_create_volume (hr.mono (by decide)) passR (pa_cons (pe_ix ix_list (pv 1) pe_int (fun _ _ => rfl)) (pa_cons (pe_ix ix_list (pv 1) pe_int (fun _ _ => rfl)) (pa_cons (pe_ix ix_list (pv 1) pe_int (fun _ _ => rfl)) pa_nil)))) pa_nil)))) (pss_one (ps_ret (pe_d0 D_nothing (hr.mono (by decide)) pass0))))), ?_⟩
    refine ⟨_, rfl, l, _, _, _, rfl, rfl, hL, e0, _, rfl, G, _, sl, hw.sub, a0, hsl, ?_⟩
    refine ⟨_, rfl, B.S, _, _, rfl, hw.shelf, rfl, _, rfl, _, rfl, l, _, _, _, rfl, rfl, hL, e1, _, rfl, l, _, _, _, rfl, rfl, hL, e2, _, rfl, l, _, _, _, rfl, rfl, hL, e3, _, _, _, rfl, G, _, _, _, hw.sub, a1, a2, a3, ?_⟩
    have q : OutW K G H B (match R7237f.Spec.newFn (ps.getD 1 .undef) (ps.getD 2 .undef) (ps.getD 3 .undef) with
      | .ok v => ({ wd with heap := wd.heap ++ [v], volumes := wd.volumes.set sl (some wd.heap.length) }, .ret .undef)
      | .error e => (wd, .fail e)) Q E := q
    cases c : R7237f.Spec.newFn (ps.getD 1 .undef) (ps.getD 2 .undef) (ps.getD 3 .undef) with
    | error e =>
      rw [c] at q
      exact q
    | ok v =>
      rw [c] at q
      intro G' H' L e hv hn
      have h' := hw.ext e
      obtain ⟨st, hw2⟩ := hw.newVol hin e hv hn hs1
      refine ⟨_, _, _, rfl, B.S, B.dS, B.VL, B.RL, _, sl, rfl, rfl, by show sl < 2; omega, h'.shelf, h'.vols, ?_⟩
      exact ⟨rfl, G', hw2.sub, fun G3 H3 x e3 hx => q G3 H3 _ x (st.trans (StepW.ext e3)) (hw2.ext e3) hx⟩
def fCallRecover (K : PySem.W.Frag) : V → V → Hp → VK → XK → Prop := fun a b H Q E => ∃ G A wd ps vs l s s1 i v, a = .ref A.S ∧ b = .ref l ∧ WAt K G H A wd ∧ G l = some (.lst vs) ∧ AtL G ps vs ∧ ps.length = 4 ∧ Rust.slotOf 1 (ps.getD 0 .undef) = some s ∧ Rust.slotOf 1 (ps.getD 1 .undef) = some s1 ∧ wd.volumes.getD s1 none = some i ∧ wd.heap[i]? = some v ∧ v.nodes.length ≤ 8 ∧
  OutW K G H A (R7237f.Spec.step wd (.recoverNew s s1 (ps.getD 2 .undef) (ps.getD 3 .undef))) Q E
theorem d_call_recover (T : TxtX K mg) (D_slot_number : DefOk P w K mg base CX0 2 "slot_number" ["value"] (Sp1 fSlot)) (D_volume_in : DefOk P w K mg base CX0 3 "volume_in" ["shelf", "value"] (Sp2 (fVolIn K))) (D_nothing : DefOk P w K mg base CX0 1 "nothing" [] (Sp0 fNothing)) (D_new_recovery : DefOk P w K mg base (L2N.CX P w) 3 "new_recovery" ["volume", "by_value", "node_value"] (Sp3 (fNewRec K)))
    (D_Shelf_fill_recovery : MetOk P w K mg base CX0 1 (cShelf K) "fill_recovery" ["self", "slot", "recovery"] (Sp3 (fFillRec K))) (F : Fs K mg "call_recover" s_call_recover) : DefOk P w K mg base (L2N.CX P w) 4 "call_recover" ["shelf", "values"] (Sp2 (fCallRecover K)) :=
  def_R F sc_call_recover bd_call_recover fun f cdv A outer s H vs Q E hr h => by
    obtain ⟨_, _, rfl, G, B, wd, ps, us, l, sl, s1, i, v, rfl, rfl, hw, hl, hp, hn, hsl, hsv, hvi, hh, hnn, q⟩ := h
    have hL : SqL K H l us := SqL.of (hw.sub _ _ hl)
    obtain ⟨x0, e0, a0⟩ := arg_at (i := 0) hp (by omega)
    obtain ⟨x1, e1, a1⟩ := arg_at (i := 1) hp (by omega)
    obtain ⟨x2, e2, a2⟩ := arg_at (i := 2) hp (by omega)
    obtain ⟨x3, e3, a3⟩ := arg_at (i := 3) hp (by omega)
    obtain ⟨_, hs1⟩ := slot_some hsl
    have q : OutW K G H B (match R7237f.Spec.volumeIndex wd s1, R7237f.Spec.volumeAt wd s1 with
      | some i, some v => (match andThen (R7237f.Spec.aNode v (nodeArg (ps.getD 2 .undef))) fun _ => R7237f.Spec.aNode v (nodeArg (ps.getD 3 .undef)) with
        | .ok _ => ({ wd with recovers := wd.recovers.set sl (some ⟨i, nodeArg (ps.getD 2 .undef), nodeArg (ps.getD 3 .undef), false⟩) }, .ret .undef)
        | .error e => (wd, .fail e))
      | _, _ => (wd, .ret .undef)) Q E := q
    have ei : R7237f.Spec.volumeIndex wd s1 = some i := hvi
    have ev : R7237f.Spec.volumeAt wd s1 = some v := by
      unfold R7237f.Spec.volumeAt
      rw [ei]
      exact hh
    rw [ei, ev] at q
    refine ⟨_, (pss_cons (ps_set (i := 2) sc_call_recover.nd rfl (Or.inl rfl) (pe_d D_slot_number (hr.mono (by decide)) pass0 (pa_cons (pe_ix ix_list (pv 1) pe_int (fun _ _ => rfl)) pa_nil))) (pss_cons (ps_set (i := 3) sc_call_recover.nd rfl (Or.inl rfl) (pe_d D_volume_in (hr.mono (by decide)) pass0 (pa_cons (pv 0) (pa_cons (pe_ix ix_list (pv 1) pe_int (fun _ _ => rfl)) pa_nil)))) (pss_cons (ps_expr (pe_m T.c_Shelf D_Shelf_fill_recovery (hr.mono (by decide)) pass0 (pv 0) (pa_cons (pv 2) (pa_cons (pe_d D_new_recovery (hr.mono (by decide)) passR (pa_cons (pv 3) (pa_cons (pe_ix ix_list (pv 1) pe_int (fun _ _ => rfl)) (pa_cons (pe_ix ix_list (pv 1) pe_int (fun _ _ => rfl)) pa_nil)))) pa_nil)))) (pss_one (ps_ret (pe_d0 D_nothing (hr.mono (by decide)) pass0)))))), ?_⟩
    refine ⟨_, rfl, l, _, _, _, rfl, rfl, hL, e0, _, rfl, G, _, sl, hw.sub, a0, hsl, ?_⟩
    refine ⟨_, rfl, _, rfl, l, _, _, _, rfl, rfl, hL, e1, _, _, rfl, G, B, wd, _, s1, i, rfl, hw, a1, hsv, hvi, ?_⟩
    refine ⟨_, rfl, B.S, _, _, rfl, hw.shelf, rfl, _, rfl, _, rfl, _, rfl, l, _, _, _, rfl, rfl, hL, e2, _, rfl, l, _, _, _, rfl, rfl, hL, e3, _, _, _, rfl, G, B.L i, v, _, _, rfl, a2, a3, hnn, (hw.vol i v hh).1, ?_⟩
    cases c : andThen (R7237f.Spec.aNode v (nodeArg (ps.getD 2 .undef))) fun _ => R7237f.Spec.aNode v (nodeArg (ps.getD 3 .undef)) with
    | error e =>
      simp only [c] at q
      exact q
    | ok u =>
      simp only [c] at q
      intro G' H' r dr e hr1 gr hx
      have h' := hw.ext e
      obtain ⟨st, hw2⟩ := hw.newRec e hr1 gr hx hs1
      refine ⟨_, _, _, rfl, B.S, B.dS, B.VL, B.RL, _, sl, rfl, rfl, by show sl < 2; omega, h'.shelf, h'.recs, ?_⟩
      exact ⟨rfl, G', hw2.sub, fun G3 H3 x e3 hx => q G3 H3 _ x (st.trans (StepW.ext e3)) (hw2.ext e3) hx⟩
end
end Ov
set_option maxHeartbeats 4000000
/-! S5: a call of a volume, by the door's number. -/
namespace Ov
open PySem PySem.Spec PyProof.Rows L2
open R7237f.Spec (Plain Units Volume RecoverState Res andThen Told toldPlain nodeArg blockArg Ans Call step change onVolume volumeIndex volumeAt apply Deed)
def stepV (wd : R7237f.Spec.World) (i : Nat) (x : Res (Volume × Plain)) : R7237f.Spec.World × Ans := match x with
  | .ok up => ({ wd with heap := wd.heap.set i up.1 }, .ret up.2)
  | .error e => (wd, .fail e)
theorem change_eq {wd : R7237f.Spec.World} {s i : Nat} {v : Volume} {f : Res Deed} (h1 : wd.volumes.getD s none = some i) (h2 : wd.heap[i]? = some v) : change wd s f = stepV wd i (tell (andThen f (apply v))) := by
  unfold change
  have e : volumeIndex wd s = some i := h1
  rw [e]
  simp only [h2]
  cases andThen f (apply v) with
  | error e => rfl
  | ok ut => rfl
theorem set_same {wd : R7237f.Spec.World} {i : Nat} {v : Volume} (h2 : wd.heap[i]? = some v) : { wd with heap := wd.heap.set i v } = wd := by
  have e : wd.heap.set i v = wd.heap := by
    obtain ⟨hl, hx⟩ := List.getElem?_eq_some_iff.mp h2
    rw [← hx, List.set_getElem_self]
  rw [e]
theorem onVol_eq {wd : R7237f.Spec.World} {s i : Nat} {v : Volume} {f : Volume → Res Plain} (h1 : wd.volumes.getD s none = some i) (h2 : wd.heap[i]? = some v) : onVolume wd s f = stepV wd i (andThen (f v) fun p => .ok (v, p)) := by
  unfold onVolume volumeAt
  have e : volumeIndex wd s = some i := h1
  rw [e]
  show (match wd.heap[i]? with
    | some v => (wd, R7237f.Spec.outcome id (f v))
    | none => (wd, .ret .undef)) = _
  rw [h2]
  show (wd, R7237f.Spec.outcome id (f v)) = _
  cases f v with
  | error e => rfl
  | ok p =>
    show (wd, Ans.ret p) = ({ wd with heap := wd.heap.set i v }, .ret p)
    rw [set_same h2]
theorem take_some {n : Nat} {l : List Plain} {x : Option Call} {c : Call} (h : Rust.taking n l x = some c) : x = some c := by
  unfold Rust.taking at h
  by_cases z : Nat.ble l.length n = true
  · rw [if_pos z] at h; exact h
  · rw [if_neg z] at h; cases h
theorem slot_bind {l : List Plain} {f : Nat → Option Call} {c : Call} {k : Nat} (h : (Rust.slotAt l k 1).bind f = some c) : ∃ s, Rust.slotOf 1 (l.getD k .undef) = some s ∧ f s = some c := by
  cases q : Rust.slotAt l k 1 with
  | none => rw [q] at h; cases h
  | some s =>
    rw [q] at h
    exact ⟨s, q, h⟩
/-- a door of a volume -/
theorem call_vol {d : Nat} {ps : List Plain} {c : Call} (h1 : 2 ≤ d) (h2 : d ≤ 16) (h : Rust.callOf d ps = some c) : ∃ s, Rust.slotOf 1 (ps.getD 0 .undef) = some s ∧ (∀ wd, R7237f.Spec.within wd c = true → R7237f.Spec.hasVolume wd s = true) ∧
    ∀ wd i v, wd.volumes.getD s none = some i → wd.heap[i]? = some v → step wd c = stepV wd i (volDo v ps d) := by
  have wi : ∀ {a b : Bool}, (a && b) = true → a = true := fun h => (Bool.and_eq_true .. ▸ h).1
  match d, h1, h2 with
  | 2, _, _ => obtain ⟨s, hs, e⟩ := slot_bind (take_some h); cases e; exact ⟨s, hs, fun _ z => wi z, fun wd i v a b => by
      refine (change_eq a b).trans ?_
      show stepV wd i (tell (andThen (andThen (R7237f.Spec.boolArg (ps.getD 3 .undef)) _) _)) = stepV wd i (tell (andThen (R7237f.Spec.boolArg (ps.getD 3 .undef)) _))
      cases R7237f.Spec.boolArg (ps.getD 3 .undef) <;> rfl⟩
  | 3, _, _ => obtain ⟨s, hs, e⟩ := slot_bind (take_some h); cases e; exact ⟨s, hs, fun _ z => wi z, fun wd i v a b => change_eq a b⟩
  | 4, _, _ => obtain ⟨s, hs, e⟩ := slot_bind (take_some h); cases e; exact ⟨s, hs, fun _ z => wi z, fun wd i v a b => by
      refine (onVol_eq a b).trans ?_
      show stepV wd i (andThen (andThen (R7237f.Spec.readOf v (nodeArg (ps.getD 1 .undef)) (blockArg (ps.getD 2 .undef))) _) _) = stepV wd i (andThen (R7237f.Spec.readOf v (nodeArg (ps.getD 1 .undef)) (blockArg (ps.getD 2 .undef))) _)
      cases R7237f.Spec.readOf v (nodeArg (ps.getD 1 .undef)) (blockArg (ps.getD 2 .undef)) <;> rfl⟩
  | 5, _, _ => obtain ⟨s, hs, e⟩ := slot_bind (take_some h); cases e; exact ⟨s, hs, fun _ z => wi z, fun wd i v a b => change_eq a b⟩
  | 6, _, _ => obtain ⟨s, hs, e⟩ := slot_bind (take_some h); cases e; exact ⟨s, hs, fun _ z => wi z, fun wd i v a b => change_eq a b⟩
  | 7, _, _ => obtain ⟨s, hs, e⟩ := slot_bind (take_some h); cases e; exact ⟨s, hs, fun _ z => wi z, fun wd i v a b => change_eq a b⟩
  | 8, _, _ => obtain ⟨s, hs, e⟩ := slot_bind (take_some h); cases e; exact ⟨s, hs, fun _ z => wi z, fun wd i v a b => change_eq a b⟩
  | 9, _, _ => obtain ⟨s, hs, e⟩ := slot_bind (take_some h); cases e; exact ⟨s, hs, fun _ z => wi z, fun wd i v a b => change_eq a b⟩
  | 10, _, _ => obtain ⟨s, hs, e⟩ := slot_bind (take_some h); cases e; exact ⟨s, hs, fun _ z => wi z, fun wd i v a b => by
      refine (change_eq a b).trans ?_
      show stepV wd i (tell (andThen (andThen (R7237f.Spec.tornArg (ps.getD 2 .undef)) _) _)) = stepV wd i (tell (andThen (R7237f.Spec.tornArg (ps.getD 2 .undef)) _))
      cases R7237f.Spec.tornArg (ps.getD 2 .undef) <;> rfl⟩
  | 11, _, _ => obtain ⟨s, hs, e⟩ := slot_bind (take_some h); cases e; exact ⟨s, hs, fun _ z => wi z, fun wd i v a b => change_eq a b⟩
  | 12, _, _ => obtain ⟨s, hs, e⟩ := slot_bind (take_some h); cases e; exact ⟨s, hs, fun _ z => wi z, fun wd i v a b => change_eq a b⟩
  | 13, _, _ => obtain ⟨s, hs, e⟩ := slot_bind (take_some h); cases e; exact ⟨s, hs, fun _ z => wi z, fun wd i v a b => change_eq a b⟩
  | 14, _, _ => obtain ⟨s, hs, e⟩ := slot_bind (take_some h); cases e; exact ⟨s, hs, fun _ z => wi z, fun wd i v a b => onVol_eq a b⟩
  | 15, _, _ => obtain ⟨s, hs, e⟩ := slot_bind (take_some h); cases e; exact ⟨s, hs, fun _ z => wi z, fun wd i v a b => onVol_eq a b⟩
  | 16, _, _ => obtain ⟨s, hs, e⟩ := slot_bind (take_some h); cases e; exact ⟨s, hs, fun _ z => z, fun wd i v a b => onVol_eq a b⟩
  | d + 17, _, h2 => exact absurd h2 (by omega)
end Ov
set_option maxHeartbeats 4000000
/-! V20: call_door. -/
namespace Ov
open PySem PySem.Spec PyProof.Rows L2
open R7237f.Spec (Plain Units Volume RecoverState Res andThen Told toldPlain nodeArg blockArg Ans Call step doReplay)
/-- a state in which every call is as the document says -/
structure WGood (wd : R7237f.Spec.World) : Prop extends WIn wd where
  good : ∀ (i : Nat) v, wd.heap[i]? = some v → VGood v
  go : ∀ (i : Nat) v, wd.heap[i]? = some v → ∀ m n u t, doReplay v m n = .ok (u, t) → VGood u ∧ u.nodes.length = v.nodes.length
  reco : ∀ s x v, wd.recovers.getD s none = some x → wd.heap[x.volume]? = some v → (1 ≤ x.node ∧ x.node ≤ v.nodes.length) ∧ (1 ≤ x.lost ∧ x.lost ≤ v.nodes.length)
theorem has_vol {wd : R7237f.Spec.World} {s : Nat} (h : R7237f.Spec.hasVolume wd s = true) : ∃ i v, wd.volumes.getD s none = some i ∧ wd.heap[i]? = some v := by
  unfold R7237f.Spec.hasVolume R7237f.Spec.volumeAt R7237f.Spec.volumeIndex at h
  rw [Bool.and_eq_true] at h
  cases ci : wd.volumes.getD s none with
  | none => rw [ci] at h; cases h.2
  | some i =>
    rw [ci] at h
    have h2 : (wd.heap[i]?).isSome = true := h.2
    cases hv : wd.heap[i]? with
    | none => rw [hv] at h2; cases h2
    | some v => exact ⟨i, v, rfl, hv⟩
theorem has_rec {wd : R7237f.Spec.World} {s : Nat} (h : R7237f.Spec.hasRecover wd s = true) : ∃ x, wd.recovers.getD s none = some x := by
  unfold R7237f.Spec.hasRecover R7237f.Spec.recoverAt at h
  rw [Bool.and_eq_true] at h
  cases ci : wd.recovers.getD s none with
  | none => rw [ci] at h; cases h.2
  | some x => exact ⟨x, rfl⟩
theorem rset_same {l : List (Option RecoverState)} {s : Nat} {x : RecoverState} (h : l.getD s none = some x) : l.set s (some x) = l := by
  rw [List.getD_eq_getElem?_getD] at h
  cases q : l[s]? with
  | none => rw [q] at h; cases h
  | some y =>
    rw [q] at h
    have h : y = some x := h
    subst h
    obtain ⟨hl, hx⟩ := List.getElem?_eq_some_iff.mp q
    rw [← hx, List.set_getElem_self]
theorem next_eq {wd : R7237f.Spec.World} {r : Nat} {x : RecoverState} {v : Volume} (h1 : wd.recovers.getD r none = some x) (h2 : wd.heap[x.volume]? = some v) :
    step wd (.recoverNext r) = ({ wd with heap := wd.heap.set x.volume (nextRes v x.node x.lost x.ended).1, recovers := wd.recovers.set r (some { x with ended := (nextRes v x.node x.lost x.ended).2.1 }) }, .ret (nextRes v x.node x.lost x.ended).2.2) := by
  have hs : wd.heap.set x.volume v = wd.heap := by
    obtain ⟨hl, hx⟩ := List.getElem?_eq_some_iff.mp h2
    rw [← hx, List.set_getElem_self]
  show R7237f.Spec.nextOfRecover wd r = _
  unfold R7237f.Spec.nextOfRecover
  have e1 : R7237f.Spec.recoverAt wd r = some x := h1
  rw [e1]
  obtain ⟨xv, xn, xl, xe⟩ := x
  unfold nextRes
  cases xe with
  | true =>
    show (wd, Ans.ret _) = ({ wd with heap := wd.heap.set xv v, recovers := wd.recovers.set r (some ⟨xv, xn, xl, true⟩) }, Ans.ret _)
    rw [rset_same h1, hs]
    rfl
  | false =>
    show (match wd.heap[xv]? with
      | none => (wd, Ans.ret .undef)
      | some v => match R7237f.Spec.apply v (.replay xn xl) with
        | .error _ => (R7237f.Spec.endRecover wd r ⟨xv, xn, xl, false⟩, .ret (R7237f.Spec.iteration .undef true))
        | .ok (u, .done) => ({ R7237f.Spec.endRecover wd r ⟨xv, xn, xl, false⟩ with heap := wd.heap.set xv (R7237f.Spec.behind u (.free xl)) }, .ret (R7237f.Spec.iteration .undef true))
        | .ok (u, t) => ({ wd with heap := wd.heap.set xv u }, .ret (R7237f.Spec.iteration (toldPlain t) false))) = _
    have h2 : wd.heap[xv]? = some v := h2
    have hs : wd.heap.set xv v = wd.heap := hs
    rw [h2]
    have ea : R7237f.Spec.apply v (.replay xn xl) = doReplay v xn xl := rfl
    simp only [ea]
    cases c : doReplay v xn xl with
    | error e =>
      show _ = ({ wd with heap := wd.heap.set xv v, recovers := wd.recovers.set r (some ⟨xv, xn, xl, true⟩) }, Ans.ret _)
      rw [hs]
      rfl
    | ok ut =>
      obtain ⟨u, t⟩ := ut
      cases t with
      | done => rfl
      | _ =>
        show _ = ({ wd with heap := wd.heap.set xv u, recovers := wd.recovers.set r (some ⟨xv, xn, xl, false⟩) }, Ans.ret _)
        rw [rset_same h1]
        rfl
section
variable {P : Program} {w : World} {K : PySem.W.Frag} {mg : Str → Option Value} {base : Heap}
theorem OutW.vol {G H : Hp} {A : WA} {wd : R7237f.Spec.World} {i : Nat} {v : Volume} {x : Res (Volume × Plain)} {Q : VK} {E : XK} (hw : WAt K G H A wd) (hi : wd.heap[i]? = some v) (q : OutW K G H A (stepV wd i x) Q E) : OutV K G H (A.L i) x Q E := by
  cases x with
  | error e => exact q
  | ok up =>
    intro G' H' L' y st va hy
    obtain ⟨hw2, ow⟩ := hw.setVol (F := fun b => (A.L i).tg b ≠ 0) hi st.e (fun b z => .inl z) st.own st.self va (rs := wd.recovers) hw.lr
      (fun s x hs hx => ⟨x, hx, by
        obtain ⟨r1, r2⟩ := hw.reco s x hs hx
        refine st.e.h _ _ r1 fun z => ?_
        have := (hw.vol i v hi).2 _ z
        omega⟩) (fun s _ z => z)
    refine q G' H' (A.withL i L') y ⟨st.e.mono fun b z => ?_, ow, rfl⟩ hw2 hy
    rw [(hw.vol i v hi).2 b z]
    omega
def fCallDoor (K : PySem.W.Frag) : V → V → V → Hp → VK → XK → Prop := fun a b c H Q E => ∃ G A wd ps vs l, ∃ (d : Nat) (cl : Call), a = .ref A.S ∧ b = .int (d : Int) ∧ c = .ref l ∧ d < 20 ∧ WAt K G H A wd ∧ WGood wd ∧ G l = some (.lst vs) ∧ AtL G ps vs ∧ ps.length = argsL.getD d 0 ∧ (∀ p ∈ ps, ∀ xs, p = .arr xs → xs.length ≤ 1000000) ∧ Rust.callOf d ps = some cl ∧ R7237f.Spec.within wd cl = true ∧ OutW K G H A (step wd cl) Q E
theorem d_call_door (T : TxtX K mg)
    (D_read_journal : DefOk P w K mg base (L2N.CX P w) 5 "read_journal" ["blocks", "row"] (Sp2 (fReadJournal K)))
    (D_call_create : DefOk P w K mg base (L2N.CX P w) 6 "call_create" ["shelf", "values"] (Sp2 (fCallCreate K)))
    (D_volume_in : DefOk P w K mg base CX0 3 "volume_in" ["shelf", "value"] (Sp2 (fVolIn K)))
    (D_recovery_in : DefOk P w K mg base CX0 3 "recovery_in" ["shelf", "value"] (Sp2 (fRecIn K)))
    (D_call_volume : DefOk P w K mg base (L2N.CX P w) 7 "call_volume" ["volume", "door", "values"] (Sp3 (fCallVol K)))
    (D_call_recover : DefOk P w K mg base (L2N.CX P w) 4 "call_recover" ["shelf", "values"] (Sp2 (fCallRecover K)))
    (D_next_of_recovery : DefOk P w K mg base CX0 6 "next_of_recovery" ["recovery"] (Sp1 (fNext K)))
    (D_close_of_recovery : DefOk P w K mg base CX0 4 "close_of_recovery" ["recovery", "value"] (Sp2 (fClose K)))
    (F : Fs K mg "call_door" s_call_door) : DefOk P w K mg base (L2N.CX P w) 8 "call_door" ["shelf", "door", "values"] (Sp3 (fCallDoor K)) :=
  def_R F sc_call_door bd_call_door fun f cdv A outer s H vs Q E hr h => by
    obtain ⟨_, _, _, rfl, G, B, wd, ps, us, l, d, cl, rfl, rfl, rfl, hd, hw, hg, hl, hp, hn, hbig, hc, hin, q⟩ := h
    have hL : SqL K H l us := SqL.of (hw.sub _ _ hl)
    refine ⟨_, (pss_cons (ps_if (pt_cmpR op_eq (pv 1) pe_int (nomark _)) (pss_one (ps_ret (pe_d D_read_journal (hr.mono (by decide)) passR (pa_cons (pe_ix ix_list (pv 2) pe_int (fun _ _ => rfl)) (pa_cons (pe_ix ix_list (pv 2) pe_int (fun _ _ => rfl)) pa_nil))))) pss_nil) (pss_cons (ps_if (pt_cmpR op_eq (pv 1) pe_int (nomark _)) (pss_one (ps_ret (pe_d D_call_create (hr.mono (by decide)) passR (pa_cons (pv 0) (pa_cons (pv 2) pa_nil))))) pss_nil) (pss_cons (ps_if (pt_cmpR op_le (pv 1) pe_int (nomark _)) (pss_one (ps_ret (pe_d D_call_volume (hr.mono (by decide)) passR (pa_cons (pe_d D_volume_in (hr.mono (by decide)) pass0 (pa_cons (pv 0) (pa_cons (pe_ix ix_list (pv 2) pe_int (fun _ _ => rfl)) pa_nil))) (pa_cons (pv 1) (pa_cons (pv 2) pa_nil)))))) pss_nil) (pss_cons (ps_if (pt_cmpR op_eq (pv 1) pe_int (nomark _)) (pss_one (ps_ret (pe_d D_call_recover (hr.mono (by decide)) passR (pa_cons (pv 0) (pa_cons (pv 2) pa_nil))))) pss_nil) (pss_cons (ps_if (pt_cmpR op_eq (pv 1) pe_int (nomark _)) (pss_one (ps_ret (pe_d D_next_of_recovery (hr.mono (by decide)) pass0 (pa_cons (pe_d D_recovery_in (hr.mono (by decide)) pass0 (pa_cons (pv 0) (pa_cons (pe_ix ix_list (pv 2) pe_int (fun _ _ => rfl)) pa_nil))) pa_nil)))) pss_nil) (pss_one (ps_ret (pe_d D_close_of_recovery (hr.mono (by decide)) pass0 (pa_cons (pe_d D_recovery_in (hr.mono (by decide)) pass0 (pa_cons (pv 0) (pa_cons (pe_ix ix_list (pv 2) pe_int (fun _ _ => rfl)) pa_nil))) (pa_cons (pe_ix ix_list (pv 2) pe_int (fun _ _ => rfl)) pa_nil)))))))))), ?_⟩
    have few : ∀ i, (∀ xs, ps.getD i .undef = .arr xs → xs.length ≤ 1000000) := fun i xs e => by
      rw [List.getD_eq_getElem?_getD] at e
      cases z : ps[i]? with
      | none => rw [z] at e; cases e
      | some p =>
        rw [z] at e
        exact hbig p (List.mem_of_getElem? z) xs e
    by_cases c0 : d = 0
    · subst c0
      obtain ⟨x0, e0, a0⟩ := arg_at (i := 0) hp (by rw [hn]; decide)
      obtain ⟨x1, e1, a1⟩ := arg_at (i := 1) hp (by rw [hn]; decide)
      have ec := take_some (n := 2) (x := some (Call.readJournal (Rust.argAt ps 0) (Rust.argAt ps 1))) hc
      cases ec
      refine tSeq_if ⟨_, rfl, rfl, _, rfl, iteT ?_⟩
      refine ⟨_, rfl, l, _, _, _, rfl, rfl, hL, e0, _, rfl, l, _, _, _, rfl, rfl, hL, e1, _, _, rfl, G, _, _, hw.sub, a0, a1, few 1, ?_⟩
      have q : OutW K G H B (wd, R7237f.Spec.outcome id (R7237f.Spec.readFn (ps.getD 0 .undef) (ps.getD 1 .undef))) Q E := q
      cases c : R7237f.Spec.readFn (ps.getD 0 .undef) (ps.getD 1 .undef) with
      | error e => rw [c] at q; exact q
      | ok p => rw [c] at q; exact fun G' H' x e hx => q G' H' B x (StepW.ext e) (hw.ext e) hx
    refine tSeq_if ⟨_, rfl, rfl, _, rfl, ?_⟩
    rw [deN (by omega : (d : Int) ≠ 0)]
    refine iteF ?_
    dsimp only [tNext]
    by_cases c1 : d = 1
    · subst c1
      obtain ⟨sl, hs, ec⟩ := slot_bind (take_some (n := 4) hc)
      cases ec
      refine tSeq_if ⟨_, rfl, rfl, _, rfl, iteT ?_⟩
      exact ⟨_, rfl, _, rfl, _, _, rfl, G, B, wd, ps, us, l, sl, rfl, rfl, hw, hg.toWIn, hl, hp, hn, hs, q⟩
    refine tSeq_if ⟨_, rfl, rfl, _, rfl, ?_⟩
    rw [deN (by omega : (d : Int) ≠ 1)]
    refine iteF ?_
    dsimp only [tNext]
    refine tSeq_if ⟨_, rfl, _, _, rfl, rfl, _, rfl, ?_⟩
    by_cases c2 : d ≤ 16
    · rw [decide_eq_true (by omega : (d : Int) ≤ 16)]
      obtain ⟨sl, hs, hv, hst⟩ := call_vol (by omega) c2 hc
      have hv := hv wd hin
      unfold R7237f.Spec.hasVolume at hv
      rw [Bool.and_eq_true] at hv
      cases ci : wd.volumes.getD sl none with
      | none =>
        have : R7237f.Spec.volumeAt wd sl = none := by
          unfold R7237f.Spec.volumeAt R7237f.Spec.volumeIndex
          rw [ci]
          rfl
        rw [this] at hv
        cases hv.2
      | some i =>
      have hi := hg.v sl i ci
      have hv2 := List.getElem?_eq_getElem hi
      rw [hst wd i _ ci hv2] at q
      have lp : 0 < ps.length := by
        rw [hn]
        have : ∀ d, d < 20 → 0 < argsL.getD d 0 := by decide
        exact this d hd
      obtain ⟨x0, e0, a0⟩ := arg_at (i := 0) hp lp
      refine iteT ⟨_, rfl, _, rfl, l, _, _, _, rfl, rfl, hL, e0, _, _, rfl, G, B, wd, _, sl, i, rfl, hw, a0, hs, ci, ?_⟩
      exact ⟨_, rfl, _, rfl, _, _, _, rfl, G, B.L i, _, ps, us, l, d, rfl, rfl, rfl, by omega, c2, hl, hp, hn, hg.good i _ hv2, (hw.vol i _ hv2).1, OutW.vol hw hv2 q⟩
    rw [decide_eq_false (by omega : ¬ (d : Int) ≤ 16)]
    refine iteF ?_
    dsimp only [tNext]
    have lp : 0 < ps.length := by
      rw [hn]
      have : ∀ d, d < 20 → 0 < argsL.getD d 0 := by decide
      exact this d hd
    obtain ⟨x0, e0, a0⟩ := arg_at (i := 0) hp lp
    by_cases c3 : d = 17
    · subst c3
      obtain ⟨sl, hs, ec⟩ := slot_bind (take_some (n := 4) hc)
      obtain ⟨s1, hs1, ec⟩ := slot_bind ec
      cases ec
      have hin : ((R7237f.Spec.isSlot sl && R7237f.Spec.hasVolume wd s1) && R7237f.Spec.fits [Rust.argAt ps 2, Rust.argAt ps 3]) = true := hin
      rw [Bool.and_eq_true, Bool.and_eq_true] at hin
      obtain ⟨i, v, ci, hv⟩ := has_vol hin.1.2
      refine tSeq_if ⟨_, rfl, rfl, _, rfl, iteT ?_⟩
      exact ⟨_, rfl, _, rfl, _, _, rfl, G, B, wd, ps, us, l, sl, s1, i, v, rfl, rfl, hw, hl, hp, hn, hs, hs1, ci, hv, (hg.good i v hv).nn, q⟩
    refine tSeq_if ⟨_, rfl, rfl, _, rfl, ?_⟩
    rw [deN (by omega : (d : Int) ≠ 17)]
    refine iteF ?_
    dsimp only [tNext]
    by_cases c4 : d = 18
    · subst c4
      obtain ⟨sl, hs, ec⟩ := slot_bind (take_some (n := 1) hc)
      cases ec
      obtain ⟨x, cx⟩ := has_rec hin
      obtain ⟨_, sl1⟩ := slot_some hs
      have hv := List.getElem?_eq_getElem (hg.r sl x cx)
      obtain ⟨r1, r2⟩ := hw.reco sl x (by omega) cx
      have g1 := hg.reco sl x _ cx hv
      rw [next_eq cx hv] at q
      have va := (hw.vol _ _ hv).1
      have tg0 : (B.L x.volume).tg (B.R sl).1 = 0 := Classical.byContradiction fun z => by
        have := (hw.vol _ _ hv).2 _ z
        omega
      have gr : G (B.R sl).1 = none := hw.g _ (by rw [r2]; omega)
      refine tSeq_if ⟨_, rfl, rfl, _, rfl, iteT ?_⟩
      refine ⟨_, rfl, _, rfl, l, _, _, _, rfl, rfl, hL, e0, _, _, rfl, G, B, wd, _, sl, x, rfl, hw, a0, hs, cx, ?_⟩
      refine ⟨_, rfl, G, B.L x.volume, _, (B.R sl).1, (B.R sl).2, x.node, x.lost, x.ended, rfl, r1, tg0, gr, g1.1, g1.2, hg.good _ _ hv, fun u t => hg.go _ _ hv _ _ u t, va, ?_⟩
      intro G' H' L' y st va' hr' hy
      obtain ⟨hw2, ow⟩ := hw.setVol (F := fun b => (B.L x.volume).tg b ≠ 0 ∨ b = (B.R sl).1) hv st.e (fun b z => z.elim .inl fun e => .inr (by rw [e, r2]; omega)) st.own st.self va' (rs := wd.recovers.set sl (some { x with ended := (nextRes _ x.node x.lost x.ended).2.1 })) (by rw [List.length_set]; exact hw.lr)
        (fun t z ht hz => by
          rw [getD_set (by rw [hw.lr]; omega)] at hz
          by_cases c : t = sl
          · rw [if_pos c] at hz
            cases hz
            exact ⟨x, c ▸ cx, by rw [c]; exact hr'⟩
          · rw [if_neg c] at hz
            obtain ⟨q1, q2⟩ := hw.reco t z ht hz
            refine ⟨z, hz, st.e.h _ _ q1 fun w => ?_⟩
            rcases w with w | w
            · have := (hw.vol _ _ hv).2 _ w
              omega
            · rw [w, r2] at q2
              omega)
        (fun t ht hz => by
          rw [getD_set (by rw [hw.lr]; omega)] at hz
          by_cases c : t = sl
          · rw [if_pos c] at hz; cases hz
          · rw [if_neg c] at hz; exact hz)
      refine q G' H' (B.withL x.volume L') y ⟨st.e.mono fun b z => ?_, ow, rfl⟩ hw2 hy
      rcases z with z | z
      · rw [(hw.vol _ _ hv).2 b z]; omega
      · rw [z, r2]; omega
    refine tSeq_if ⟨_, rfl, rfl, _, rfl, ?_⟩
    rw [deN (by omega : (d : Int) ≠ 18)]
    refine iteF ?_
    dsimp only [tNext]
    have c5 : d = 19 := by omega
    subst c5
    obtain ⟨sl, hs, ec⟩ := slot_bind (take_some (n := 2) hc)
    cases ec
    have hin : (R7237f.Spec.hasRecover wd sl && R7237f.Spec.fits [Rust.argAt ps 1]) = true := hin
    rw [Bool.and_eq_true] at hin
    obtain ⟨x, cx⟩ := has_rec hin.1
    obtain ⟨_, sl1⟩ := slot_some hs
    obtain ⟨x1, e1, a1⟩ := arg_at (i := 1) hp (by rw [hn]; decide)
    have hv := List.getElem?_eq_getElem (hg.r sl x cx)
    obtain ⟨r1, r2⟩ := hw.reco sl x (by omega) cx
    have gr : G (B.R sl).1 = none := hw.g _ (by rw [r2]; omega)
    have tgN : ∀ b, (B.L x.volume).tg b ≠ 0 → ¬ b = (B.R sl).1 := fun b z e => by
      have := (hw.vol _ _ hv).2 b z
      rw [e, r2] at this
      omega
    refine ⟨_, rfl, _, rfl, l, _, _, _, rfl, rfl, hL, e0, _, _, rfl, G, B, wd, _, sl, x, rfl, hw, a0, hs, cx, ?_⟩
    refine ⟨_, rfl, l, _, _, _, rfl, rfl, hL, e1, _, _, rfl, G, (B.R sl).1, (B.R sl).2, (B.L x.volume).self, x.node, x.lost, x.ended, _, rfl, r1, gr, hw.sub, a1, ?_⟩
    intro G' H' y e hr' hy
    have q : OutW K G H B (match R7237f.Spec.recoverAt wd sl with
      | some y => (R7237f.Spec.endRecover wd sl y, .ret (R7237f.Spec.iteration (ps.getD 1 .undef) true))
      | none => (wd, .ret .undef)) Q E := q
    have er : R7237f.Spec.recoverAt wd sl = some x := cx
    rw [er] at q
    have va' := (hw.vol _ _ hv).1.away e tgN
    obtain ⟨hw2, ow⟩ := hw.setVol (F := fun b => b = (B.R sl).1) hv e (fun b z => .inr (by rw [z, r2]; omega)) (fun b z => .inl z) rfl va' (rs := wd.recovers.set sl (some { x with ended := true })) (by rw [List.length_set]; exact hw.lr)
      (fun t z ht hz => by
        rw [getD_set (by rw [hw.lr]; omega)] at hz
        by_cases c : t = sl
        · rw [if_pos c] at hz
          cases hz
          exact ⟨x, c ▸ cx, by rw [c]; exact hr'⟩
        · rw [if_neg c] at hz
          obtain ⟨q1, q2⟩ := hw.reco t z ht hz
          refine ⟨z, hz, e.h _ _ q1 fun w => ?_⟩
          rw [w, r2] at q2
          omega)
      (fun t ht hz => by
        rw [getD_set (by rw [hw.lr]; omega)] at hz
        by_cases c : t = sl
        · rw [if_pos c] at hz; cases hz
        · rw [if_neg c] at hz; exact hz)
    have eh : wd.heap.set x.volume (wd.heap[x.volume]'(hg.r sl x cx)) = wd.heap := List.set_getElem_self _
    rw [eh] at hw2
    exact q G' H' _ y ⟨e.mono fun b z => by show B.own b ≠ 0; rw [z, r2]; omega, ow, rfl⟩ hw2 hy
end
end Ov
set_option maxHeartbeats 4000000
/-! V21: answer_of. -/
namespace Ov
open PySem PySem.Spec PyProof.Rows L2 L2H
open R7237f.Spec (Plain Units Volume RecoverState Res andThen Told toldPlain nodeArg blockArg Ans Call step)
theorem change_fail {wd : R7237f.Spec.World} {s : Nat} {f : Res R7237f.Spec.Deed} {e : R7237f.Spec.Err} (h : (R7237f.Spec.change wd s f).2 = .fail e) : (R7237f.Spec.change wd s f).1 = wd := by
  unfold R7237f.Spec.change at *
  split at h
  · rfl
  · split at h
    · rfl
    · split at h
      · cases h
      · rfl
theorem onVol_same {wd : R7237f.Spec.World} {s : Nat} {f : Volume → Res Plain} : (R7237f.Spec.onVolume wd s f).1 = wd := by
  unfold R7237f.Spec.onVolume
  split <;> rfl
/-- a refused call changes nothing -/
theorem step_fail {wd : R7237f.Spec.World} {c : Call} {e : R7237f.Spec.Err} (h : (step wd c).2 = .fail e) : (step wd c).1 = wd := by
  cases c with
  | readJournal x y => rfl
  | volumeNew s x y z =>
    have h : (match R7237f.Spec.newFn x y z with
      | .ok v => (({ wd with heap := wd.heap ++ [v], volumes := wd.volumes.set s (some wd.heap.length) }, .ret .undef) : R7237f.Spec.World × Ans)
      | .error e => (wd, .fail e)).2 = .fail e := h
    show (match R7237f.Spec.newFn x y z with
      | .ok v => (({ wd with heap := wd.heap ++ [v], volumes := wd.volumes.set s (some wd.heap.length) }, .ret .undef) : R7237f.Spec.World × Ans)
      | .error e => (wd, .fail e)).1 = wd
    cases c : R7237f.Spec.newFn x y z with
    | error e => rfl
    | ok v => rw [c] at h; cases h
  | read s x y => exact onVol_same
  | journal s x => exact onVol_same
  | last s x => exact onVol_same
  | state s => exact onVol_same
  | recoverNew r s x y =>
    have h : (match R7237f.Spec.volumeIndex wd s, R7237f.Spec.volumeAt wd s with
      | some i, some v => (match andThen (R7237f.Spec.aNode v (nodeArg x)) fun _ => R7237f.Spec.aNode v (nodeArg y) with
        | .ok _ => (({ wd with recovers := wd.recovers.set r (some ⟨i, nodeArg x, nodeArg y, false⟩) }, .ret .undef) : R7237f.Spec.World × Ans)
        | .error e => (wd, .fail e))
      | _, _ => (wd, .ret .undef)).2 = .fail e := h
    show (match R7237f.Spec.volumeIndex wd s, R7237f.Spec.volumeAt wd s with
      | some i, some v => (match andThen (R7237f.Spec.aNode v (nodeArg x)) fun _ => R7237f.Spec.aNode v (nodeArg y) with
        | .ok _ => (({ wd with recovers := wd.recovers.set r (some ⟨i, nodeArg x, nodeArg y, false⟩) }, .ret .undef) : R7237f.Spec.World × Ans)
        | .error e => (wd, .fail e))
      | _, _ => (wd, .ret .undef)).1 = wd
    cases c1 : R7237f.Spec.volumeIndex wd s with
    | none => rfl
    | some i =>
      cases c2 : R7237f.Spec.volumeAt wd s with
      | none => rfl
      | some v =>
        simp only [c1, c2] at h ⊢
        cases c : andThen (R7237f.Spec.aNode v (nodeArg x)) fun _ => R7237f.Spec.aNode v (nodeArg y) with
        | error e => rfl
        | ok u => simp only [c] at h; cases h
  | recoverNext r =>
    have h : (R7237f.Spec.nextOfRecover wd r).2 = .fail e := h
    unfold R7237f.Spec.nextOfRecover at h
    split at h
    · cases h
    · split at h
      · cases h
      · split at h
        · cases h
        · split at h <;> cases h
  | recoverReturn r x =>
    have h : (match R7237f.Spec.recoverAt wd r with
      | some y => ((R7237f.Spec.endRecover wd r y, .ret (R7237f.Spec.iteration x true)) : R7237f.Spec.World × Ans)
      | none => (wd, .ret .undef)).2 = .fail e := h
    cases c : R7237f.Spec.recoverAt wd r with
    | none => rw [c] at h; cases h
    | some y => rw [c] at h; cases h
  | _ => exact change_fail h
section
variable {P : Program} {w : World} {K : PySem.W.Frag} {mg : Str → Option Value} {base : Heap}
abbrev s_answer_of : Stmt := top 142
theorem sc_answer_of : FnScope ["shelf", "octets", "door", "values", "e"] ["shelf", "octets"] (defScope s_answer_of) := ⟨rfl, rfl, rfl, by decide +kernel, rfl, by decide +kernel, by decide +kernel⟩
theorem bd_answer_of : Bd "answer_of" "answer_of" s_answer_of ["shelf", "octets"] := fun _ _ _ _ _ _ us hl => match us, hl with | [_, _], _ => rfl
abbrev s_answers : Stmt := top 143
theorem sc_answers : FnScope ["calls", "shelf", "told", "at", "many", "answer"] ["calls"] (defScope s_answers) := ⟨rfl, rfl, rfl, by decide +kernel, rfl, by decide +kernel, by decide +kernel⟩
theorem bd_answers : Bd "answers" "answers" s_answers ["calls"] := fun _ _ _ _ _ _ us hl => match us, hl with | [_], _ => rfl
/-- the answer's octets come back, the state is the one after -/
def OutA (K : PySem.W.Frag) (G H : Hp) (A : WA) (wd : R7237f.Spec.World) (o : List UInt8) (Q : VK) : Prop := ∀ G' H' A' D, StepW A G H A' G' H' → WAt K G' H' A' wd → H D = none → A'.own D = 0 → H' D = some (.lst (octV o)) → Q (.ref D) H'
def fAnswerOf (K : PySem.W.Frag) : V → V → Hp → VK → XK → Prop := fun a c H Q _ => ∃ G A wd l b d ls cl, a = .ref A.S ∧ c = .ref l ∧ WAt K G H A wd ∧ WGood wd ∧ G l = some (.lst (octV b)) ∧ b.length ≤ 1000000 ∧ RWire.readRequest b = some (d, ls) ∧ (∀ v ∈ ls, clean v = true) ∧ d < 20 ∧ ls.length ≤ argsL.getD d 0 ∧
  R7237f.Spec.fits ((padded d (ls.map Rust.taken)).drop (slotsL.getD d 0)) = true ∧ (∀ p ∈ padded d (ls.map Rust.taken), ∀ xs, p = .arr xs → xs.length ≤ 1000000) ∧ Rust.callOf d (padded d (ls.map Rust.taken)) = some cl ∧ R7237f.Spec.within wd cl = true ∧
  (∀ p, (step wd cl).2 = .ret p → WOk 32 p) ∧ OutA K G H A (step wd cl).1 (RWire.writeAnswer (Rust.answerOf (step wd cl).2)) Q
theorem d_answer_of (T : TxtX K mg) (D_read_request : DefOk P w K mg base CX0 67 "read_request" ["octets"] (Sp1 fReadReq)) (D_written_return : DefOk P w K mg base CX0 68 "written_return" ["value"] (Sp1 fWReturn)) (D_call_door : DefOk P w K mg base (L2N.CX P w) 8 "call_door" ["shelf", "door", "values"] (Sp3 (fCallDoor K)))
    (HD_written_malformed : DefH P w K mg base 1 "written_malformed" [] (Sp0 fWMal)) (HD_written_refusal : DefH P w K mg base 3 "written_refusal" ["place", "words"] (Sp2 fWRefusal)) (F : Fs K mg "answer_of" s_answer_of) : DefOk P w K mg base CX0 69 "answer_of" ["shelf", "octets"] (Sp2 (fAnswerOf K)) :=
  def_C F sc_answer_of bd_answer_of fun f cdv A outer s H vs Q E hr h => by
    obtain ⟨_, _, rfl, G, B, wd, l, b, d, ls, cl, rfl, rfl, hw, hg, hl, hz, hb, hcl, hd, hn, hf, hbig, hc, hin, hwo, q⟩ := h
    refine ⟨_, (pss_one (ps_try_mix (tb := fun W => tSeq (tAsg (tCall (Sp1 fReadReq) [] E0 (tCons (tVar 1) tNil)) (gTup K 2 (gCons (gName 2) (gCons (gName 3) gNil)))) (tRet (tCall (Sp1 fWReturn) [] E0 (tCons (tCallS (Sp3 (fCallDoor K)) (WE W) (tCons (tVar 0) (tCons (tVar 2) (tCons (tVar 3) tNil)))) tNil)))) (l := [(.ref (He.ga K "Malformed"), none, fun _ _ _ => tRet (tCallS (Sp0 fWMal) (fun _ => E0) tNil)), (.ref (He.ga K "WrongKind"), some 4, fun a cls d => tRet (tCallS (Sp2 fWRefusal) (fun _ => E0) (tCons (tC (.int 1)) (tCons (tXf a cls d (He.ga K "WrongKind") "words" (tVar 4)) tNil)))), (.ref (He.ga K "OutOfRange"), some 4, fun a cls d => tRet (tCallS (Sp2 fWRefusal) (fun _ => E0) (tCons (tC (.int 2)) (tCons (tXf a cls d (He.ga K "OutOfRange") "words" (tVar 4)) tNil))))]) rfl rfl takesN0 (fun W pn xe tk _ => pss_cons (ps_asg (pe_d D_read_request (hr.mono (by decide)) pass0 (pa_cons (pv 1) pa_nil)) (pg_tup rfl (pgs_cons (pg_name (i := 2) sc_answer_of.nd rfl (Or.inl rfl)) (pgs_cons (pg_name (i := 3) sc_answer_of.nd rfl (Or.inl rfl)) pgs_nil)))) (pss_one (ps_ret (pe_d D_written_return (hr.mono (by decide)) pass0 (pa_cons (by exact pe_dS D_call_door (hr.mono (by decide)) (fun σ => L2N.passAt tk σ) (pa_cons (pv 0) (pa_cons (pv 2) (pa_cons (pv 3) pa_nil)))) pa_nil))))) (.bare ⟨rfl, by decide, .inl T.g_Malformed⟩ (fun a oe cls d pn hz hf => pss_one (ps_ret (by exact pe_dH0 HD_written_malformed (roomH_mark (hr.mono (by decide))) (hot_of hz hf)))) (.named (i := 4) ⟨rfl, by decide, .inl T.x_WrongKind.gC⟩ sc_answer_of.nd rfl rfl (fun a oe cls d pn hz hf => pss_one (ps_ret (by exact pe_dH HD_written_refusal (roomH_mark (hr.mono (by decide))) (hot_of hz hf) (pa_cons pe_int (pa_cons (pe_xf T.x_WrongKind.xf T.x_WrongKind.noW hz.zc hf (pv 4)) pa_nil))))) (.named (i := 4) ⟨rfl, by decide, .inl T.x_OutOfRange.gC⟩ sc_answer_of.nd rfl rfl (fun a oe cls d pn hz hf => pss_one (ps_ret (by exact pe_dH HD_written_refusal (roomH_mark (hr.mono (by decide))) (hot_of hz hf) (pa_cons pe_int (pa_cons (pe_xf T.x_OutOfRange.xf T.x_OutOfRange.noW hz.zc hf (pv 4)) pa_nil))))) .nil))))), ?_⟩
    refine ⟨_, rfl, _, rfl, G, l, b, d, ls, rfl, hw.sub _ _ hl, hl, hw.sub, hz, hb, hcl, hd, hn, hf, ?_⟩
    intro G1 H1 t D us e1 ht hD hp
    have hw1 := hw.ext e1
    have lp : (padded d (ls.map Rust.taken)).length = argsL.getD d 0 := by
      unfold padded
      rw [List.length_append, List.length_replicate, List.length_map]
      omega
    refine ⟨t, _, rfl, SqT.of (e1.sub _ _ ht), rfl, _, _, rfl, _, _, rfl, rfl, ?_⟩
    refine ⟨_, rfl, _, rfl, _, rfl, _, _, _, rfl, G1, B, wd, _, us, D, d, cl, rfl, rfl, rfl, hd, hw1, hg, hD, hp, lp, hbig, hc, hin, ?_⟩
    have ea : ∀ (p : Plain), RWire.writeAnswer (Rust.answerOf (.ret p)) = 0 :: RWire.write (Rust.given p) := fun p => rfl
    unfold OutW
    cases cs : (step wd cl).2 with
    | ret p =>
      rw [cs] at q
      intro G2 H2 A2 x st w2 hx
      refine ⟨_, rfl, G2, p, w2.sub, hx, hwo p cs, ?_⟩
      intro G3 H3 E e3 hE gE
      have oE : A2.own E = 0 := Classical.byContradiction fun z => w2.live E z hE
      exact q G3 H3 A2 E ((StepW.ext e1).trans (st.trans (StepW.ext e3))) (w2.ext e3) (e1.free (st.e.free hE)) oE gE
    | fail e =>
      have sw := step_fail cs
      rw [cs, sw] at q
      intro G2 H2 dd x e2 gd hu hna hasc hsz hcl
      have w2 := hw1.ext e2
      have hdd := e2.sub _ _ gd
      have fin : ∀ (c : Nat), c = Rust.classOf e.cls → RetL G2 H2 (1 :: UInt8.ofNat c :: RWire.writeText ((unitsOf x).map Rust.octetOf)) Q := fun c ec => by
        subst ec
        rw [hu]
        intro G3 H3 E e3 hE gE
        have oE : B.own E = 0 := Classical.byContradiction fun z => w2.live E z hE
        exact q G3 H3 B E ((StepW.ext e1).trans ((StepW.ext e2).trans (StepW.ext e3))) (w2.ext e3) (e1.free (e2.free hE)) oE gE
      cases hce : e.cls with
      | syntaxError => exact absurd hce hcl
      | typeError =>
        rw [hce] at fin
        refine ⟨false, T.e_WM, (fun z => by cases z), fun _ => ⟨true, T.e_WW, fun _ a ha => ?_, fun z => by cases z⟩⟩
        exact ⟨_, rfl, rfl, rfl, dd, _, _, rfl, hdd, rfl, _, _, rfl, G2, 1, x, rfl, by decide, rfl, hasc, hsz, w2.sub, fin 1 rfl⟩
      | rangeError =>
        rw [hce] at fin
        refine ⟨false, T.e_OM, (fun z => by cases z), fun _ => ⟨false, T.e_OW, (fun z => by cases z), fun _ => ⟨true, T.e_OO, fun _ a ha => ?_, fun z => by cases z⟩⟩⟩
        exact ⟨_, rfl, rfl, rfl, dd, _, _, rfl, hdd, rfl, _, _, rfl, G2, 2, x, rfl, by decide, rfl, hasc, hsz, w2.sub, fin 2 rfl⟩
end
end Ov
set_option maxHeartbeats 4000000
/-! V22: answers. -/
namespace Ov
open PySem PySem.Spec PyProof.Rows L2
open R7237f.Spec (Plain Units Volume RecoverState Res andThen Told toldPlain nodeArg blockArg Ans Call)
/-- a call that is answered as the document says -/
structure CallOk (wd : R7237f.Spec.World) (b : List UInt8) (cl : Call) : Prop where
  good : WGood wd
  len : b.length ≤ 1000000
  ask : ∃ d ls, RWire.readRequest b = some (d, ls) ∧ (∀ v ∈ ls, clean v = true) ∧ d < 20 ∧ ls.length ≤ argsL.getD d 0 ∧ R7237f.Spec.fits ((padded d (ls.map Rust.taken)).drop (slotsL.getD d 0)) = true ∧ (∀ p ∈ padded d (ls.map Rust.taken), ∀ xs, p = .arr xs → xs.length ≤ 1000000) ∧ Rust.callOf d (padded d (ls.map Rust.taken)) = some cl
  here : R7237f.Spec.within wd cl = true
  ret : ∀ p, (R7237f.Spec.step wd cl).2 = .ret p → WOk 32 p
/-- the calls of a session, each as it is met -/
def Goes : R7237f.Spec.World → List (List UInt8) → List (List UInt8) → Prop
  | _, [], os => os = []
  | wd, b :: r, os => ∃ cl o ot, CallOk wd b cl ∧ os = o :: ot ∧ o = RWire.writeAnswer (Rust.answerOf (R7237f.Spec.step wd cl).2) ∧ o.length ≤ 1000000 ∧ Goes (R7237f.Spec.step wd cl).1 r ot
theorem cut_mid (xs : List V) (i m : Nat) (h : i + m ≤ xs.length) : cutV xs (some (i : Int)) (some ((i : Int) + (m : Int))) = (xs.drop i).take m := by
  unfold cutV
  have e1 : HT.sIx xs.length 0 (some (i : Int)) = i := by
    rw [HT.sIx_nat]
    omega
  have e2 : HT.sIx xs.length xs.length (some ((i : Int) + (m : Int))) = i + m := by
    rw [← Int.natCast_add, HT.sIx_nat]
    omega
  rw [e1, e2, Nat.add_sub_cancel_left]
/-- the flat list of these calls -/
def flatC (bs : List (List UInt8)) : List V := bs.flatMap fun b => V.int 0 :: V.int (b.length : Int) :: octV b
def flatA (os : List (List UInt8)) : List V := os.flatMap fun o => V.int (o.length : Int) :: octV o
theorem WAt.away {K : PySem.W.Frag} {G H G' H' : Hp} {A : WA} {w : R7237f.Spec.World} {F : Addr → Prop} (h : WAt K G H A w) (e : ExtF F G H G' H') (d : ∀ b, A.own b ≠ 0 → ¬ F b) : WAt K G' H' A w where
  sub := e.sub
  shelf := e.h _ _ h.shelf (d _ (by rw [h.oS]; decide))
  lv := h.lv
  lr := h.lr
  vols := e.h _ _ h.vols (d _ (by rw [h.oV]; decide))
  recs := e.h _ _ h.recs (d _ (by rw [h.oR]; decide))
  vol := fun i v z => ⟨(h.vol i v z).1.away e fun b hb => d b (by rw [(h.vol i v z).2 b hb]; omega), (h.vol i v z).2⟩
  reco := fun s x hs z => ⟨e.h _ _ (h.reco s x hs z).1 (d _ (by rw [(h.reco s x hs z).2]; omega)), (h.reco s x hs z).2⟩
  oS := h.oS
  oV := h.oV
  oR := h.oR
  g := fun b hb => (e.old b (h.live b hb)).trans (h.g b hb)
  live := fun b hb => e.live b (h.live b hb)
section
variable {P : Program} {w : World} {K : PySem.W.Frag} {mg : Str → Option Value} {base : Heap}
def fAnswers (K : PySem.W.Frag) : V → Hp → VK → XK → Prop := fun a H Q _ => ∃ l bs os, a = .ref l ∧ SqL K H l (flatC bs) ∧ (flatC bs).length ≤ 10000000 ∧ (flatA os).length ≤ 9000000 ∧ Goes R7237f.Spec.World.start bs os ∧ ∀ H' D, H' D = some (.lst (flatA os)) → Q (.ref D) H'
theorem k_answers {f : Addr} {fd : FuncData} (T : TxtX K mg) (D_answer_of : DefOk P w K mg base CX0 69 "answer_of" ["shelf", "octets"] (Sp2 (fAnswerOf K))) (D_Shelf_init : MkOk P w K mg base 1 "Shelf" ["self"] (Sp1 (fShelfInit K))) (F : FnP K "answers" "answers" s_answers f fd) : FnOk P w K mg base CX0 70 f fd ["calls"] (Sp1 (fAnswers K)) :=
  fn_C F sc_answers rfl fun f cdv A outer s H vs Q E hr h => by
    obtain ⟨_, rfl, l, bs, os, rfl, hl, hz, hz2, hgo, q⟩ := h
    refine ⟨_, (pss_cons (ps_set (i := 1) sc_answers.nd rfl (Or.inl rfl) (pe_mk0 D_Shelf_init (hr.mono (by decide)) pass0)) (pss_cons (ps_set (i := 2) sc_answers.nd rfl (Or.inl rfl) (pe_lst pa_nil)) (pss_cons (ps_set (i := 3) sc_answers.nd rfl (Or.inl rfl) pe_int) (pss_cons (ps_while PassesOwn.never (pt_cmpR op_lt (pv 3) (pe_callB call_len_seq (by rfl) T.z_len PySem.boot_len (pa_cons (pv 0) pa_nil)) (nomark _)) (pss_cons (ps_set (i := 4) sc_answers.nd rfl (Or.inl rfl) (pe_ix ix_list (pv 0) (pe_op op_add (pv 3) pe_int) (fun _ _ => rfl))) (pss_cons (ps_set (i := 5) sc_answers.nd rfl (Or.inl rfl) (pe_d D_answer_of (hr.mono (by decide)) pass0 (pa_cons (pv 1) (pa_cons (pe_slice sl_list (pv 0) (po_some (pe_op op_add (pv 3) pe_int)) (po_some (pe_op op_add (pe_op op_add (pv 3) pe_int) (pv 4)))) pa_nil)))) (pss_cons (ps_expr (pe_bm PySem.F.plainAttrs_list PySem.F.slot_list_append PySem.F.type_list_append mt_append (pv 2) (pa_cons (pe_callB call_len_seq (by rfl) T.z_len PySem.boot_len (pa_cons (pv 5) pa_nil)) pa_nil))) (pss_cons (ps_expr (pe_bm PySem.F.plainAttrs_list PySem.F.slot_list_extend PySem.F.type_list_extend mt_extend (pv 2) (pa_cons (pv 5) pa_nil))) (pss_one (ps_aug (i := 3) sc_answers.nd rfl (Or.inl rfl) (pe_op op_add pe_int (pv 4)) ip_add))))))) (pss_one (ps_ret (pv 2))))))), ?_⟩
    refine fun x dx hx hdx ndx => ⟨_, rfl, x, dx, rfl, upd_same, ?_⟩
    intro p1 p2 H1 np h1 h2 e1 e2 e3 e4
    have n1 : p1 ≠ x := fun z => by rw [z, upd_same] at h1; cases h1
    have n2 : p2 ≠ x := fun z => by rw [z, upd_same] at h2; cases h2
    rw [upd_ne n1] at h1
    rw [upd_ne n2] at h2
    have f1 : H p1 = none := by
      by_cases c : p1 = dx
      · rw [c]; exact hdx
      · rw [upd_ne c] at h1; exact h1
    have f2 : H p2 = none := by
      by_cases c : p2 = dx
      · rw [c]; exact hdx
      · rw [upd_ne c] at h2; exact h2
    have s1 : Same H H1 := fun b o z => by
      have a1 := ne_of_none z hx
      rw [e4 b a1 (ne_of_none z f1) (ne_of_none z f2), upd_ne a1, upd_ne (ne_of_none z hdx)]
      exact z
    have X1 : Ext (fun _ => none) H (fun _ => none) H1 := ⟨fun _ _ z => z, fun b o z _ => s1 b o z, fun b z => (by
      cases c : H b with
      | none => exact absurd c z
      | some o => rw [s1 b o c]; exact Option.some_ne_none _), (fun _ _ z => by cases z), fun _ _ => rfl⟩
    refine ⟨rfl, ?_⟩
    refine ⟨sz0, fun D hD => ?_⟩
    have X2 := X1.mut (o := .lst []) hD
    have W0 : WAt K (fun _ => none) (upd H1 D (.lst [])) ⟨x, dx, p1, p2, fun _ => ⟨x, x, x, x, x, x, x, x, x, fun _ => ⟨x, x, x, x, .non⟩, fun _ => 0⟩, fun _ => (x, x), fun b => if b = x then 1 else if b = p1 then 2 else if b = p2 then 3 else 0⟩ R7237f.Spec.World.start := by
      have nD : ∀ {b o}, H1 b = some o → upd H1 D (.lst []) b = some o := fun {b o} z => by rw [upd_ne (ne_of_none z hD)]; exact z
      refine ⟨X2.sub, nD e1, rfl, rfl, nD e2, nD e3, (fun i v z => by cases z), fun t y ht z => ?_, if_pos rfl, ?_, ?_, fun _ _ => rfl, fun b hb => ?_⟩
      · match t, ht with
        | 0, _ => cases z
        | 1, _ => cases z
      · show (if p1 = x then 1 else if p1 = p1 then 2 else if p1 = p2 then 3 else 0) = 2
        rw [if_neg n1, if_pos rfl]
      · show (if p2 = x then 1 else if p2 = p1 then 2 else if p2 = p2 then 3 else 0) = 3
        rw [if_neg n2, if_neg np.symm, if_pos rfl]
      · have hb : (if b = x then 1 else if b = p1 then 2 else if b = p2 then 3 else 0) ≠ 0 := hb
        by_cases c1 : b = x
        · rw [c1, nD e1]; exact Option.some_ne_none _
        · rw [if_neg c1] at hb
          by_cases c2 : b = p1
          · rw [c2, nD e2]; exact Option.some_ne_none _
          · rw [if_neg c2] at hb
            by_cases c3 : b = p2
            · rw [c3, nD e3]; exact Option.some_ne_none _
            · rw [if_neg c3] at hb; exact absurd rfl hb
    have own0 : ∀ b, (if b = x then 1 else if b = p1 then 2 else if b = p2 then 3 else 0) ≠ 0 → H b = none := fun b hb => by
      by_cases c1 : b = x
      · rw [c1]; exact hx
      · rw [if_neg c1] at hb
        by_cases c2 : b = p1
        · rw [c2]; exact f1
        · rw [if_neg c2] at hb
          by_cases c3 : b = p2
          · rw [c3]; exact f2
          · rw [if_neg c3] at hb; exact absurd rfl hb
    have D0 := X1.free hD
    have oD : (if D = x then 1 else if D = p1 then 2 else if D = p2 then 3 else 0) = 0 := by
      rw [if_neg (fun z => by rw [z, e1] at hD; cases hD), if_neg (fun z => by rw [z, e2] at hD; cases hD), if_neg (fun z => by rw [z, e3] at hD; cases hD)]
    refine ⟨fun m σ H' => ∃ wd b1 o1, ∃ k : Nat, ∃ G' A us x4 x5, m = b1.length ∧ σ = [some (.ref l), some (.ref A.S), some (.ref D), some (.int (k : Int)), x4, x5] ∧ Ext (fun _ => none) H G' H' ∧ (∀ b, A.own b ≠ 0 → H b = none) ∧ WAt K G' H' A wd ∧ Goes wd b1 o1 ∧ H' D = some (.lst us) ∧ us ++ flatA o1 = flatA os ∧ A.own D = 0 ∧ G' D = none ∧ (flatC bs).drop k = flatC b1 ∧ k + (flatC b1).length = (flatC bs).length, ⟨bs.length, R7237f.Spec.World.start, bs, os, 0, _, _, [], none, none, rfl, rfl, X2, own0, W0, hgo, upd_same, rfl, oD, rfl, rfl, Nat.zero_add _⟩, ?_⟩
    rintro m σ H' ⟨wd, b1, o1, k, G', A, us, x4, x5, rfl, rfl, e, on, hw, go, hD', eo, oD', gD', dk, lk⟩
    have hl' : SqL K H' l (flatC bs) := Same.seq e.same hl
    refine ⟨_, rfl, _, rfl, l, _, rfl, .inl hl', _, _, rfl, rfl, _, rfl, ?_⟩
    cases b1 with
    | nil =>
      have go : o1 = [] := go
      subst go
      have lk : k + 0 = (flatC bs).length := lk
      rw [decide_eq_false (by omega : ¬ (k : Int) < ((flatC bs).length : Int))]
      have eo : us ++ [] = flatA os := eo
      rw [List.append_nil] at eo
      rw [eo] at hD'
      exact iteF ⟨_, rfl, q H' D hD'⟩
    | cons b r =>
    obtain ⟨cl, o, ot, ok, rfl, eo1, lo, go⟩ := go
    have dk : (flatC bs).drop k = V.int 0 :: V.int (b.length : Int) :: (octV b ++ flatC r) := dk
    have lk : k + (2 + b.length + (flatC r).length) = (flatC bs).length := by
      have z := lk
      rw [show flatC (b :: r) = V.int 0 :: V.int (b.length : Int) :: (octV b ++ flatC r) from rfl, List.length_cons, List.length_cons, List.length_append, octV_len] at z
      omega
    rw [decide_eq_true (by omega : (k : Int) < ((flatC bs).length : Int))]
    have at1 : atI (flatC bs) ((k : Int) + 1) = some (V.int (b.length : Int)) := by
      refine atI_nat (j := k + 1) ?_
      have z := congrArg (fun l => l[1]?) dk
      rw [List.getElem?_drop] at z
      exact z
    have d2 : (flatC bs).drop (k + 2) = octV b ++ flatC r := by
      rw [← List.drop_drop, dk]
      rfl
    have cut : cutV (flatC bs) (some ((k : Int) + 2)) (some ((k : Int) + 2 + (b.length : Int))) = octV b := by
      have z := cut_mid (flatC bs) (k + 2) b.length (by omega)
      rw [Int.natCast_add] at z
      refine z.trans ?_
      rw [d2, List.take_append_of_le_length (by rw [octV_len]; exact Nat.le_refl _), List.take_of_length_le (by rw [octV_len]; exact Nat.le_refl _)]
    refine iteT ⟨_, fun _ _ z => z, ?_⟩
    refine ⟨_, rfl, _, rfl, _, _, rfl, rfl, l, _, _, _, rfl, rfl, hl', at1, ?_⟩
    refine ⟨_, rfl, _, rfl, _, rfl, _, _, rfl, rfl, _, rfl, _, rfl, _, _, rfl, rfl, _, rfl, _, _, rfl, rfl, _, rfl, l, _, rfl, hl', fun p hp => ?_⟩
    rw [cut]
    obtain ⟨dd, ls, q1, q2, q3, q4, q5, q6, q7⟩ := ok.ask
    have e4x := e.imm (o := .lst (octV b)) hp
    have nDp : D ≠ p := fun z => by rw [← z, hD'] at hp; cases hp
    have w4 : WAt K (upd G' p (.lst (octV b))) (upd H' p (.lst (octV b))) A wd := hw.ext ((ExtF.refl hw.sub).imm hp)
    refine ⟨_, _, rfl, _, A, wd, p, b, dd, ls, cl, rfl, rfl, w4, ok.good, upd_same, ok.len, q1, q2, q3, q4, q5, q6, q7, ok.here, ok.ret, ?_⟩
    intro G5 H5 A5 Dn st w5 hDn oDn hD5
    have e5 : Ext (fun _ => none) H G5 H5 := e4x.trans' st.e fun c z => .inr (on c z)
    have on5 : ∀ c, A5.own c ≠ 0 → H c = none := fun c z => (st.own c z).elim (on c) fun y => e4x.free y
    have hD4 : upd H' p (.lst (octV b)) D = some (.lst us) := by rw [upd_ne nDp]; exact hD'
    have hT5 : H5 D = some (.lst us) := st.e.h _ _ hD4 fun z => z oD'
    have gT5 : G5 D = none := (st.e.old D (by rw [hD4]; exact Option.some_ne_none _)).trans (by rw [upd_ne nDp]; exact gD')
    have oT5 : A5.own D = 0 := Classical.byContradiction fun z => (st.own D z).elim (fun y => y oD') fun y => by rw [hD4] at y; cases y
    have nDD : Dn ≠ D := fun z => by rw [z, hD4] at hDn; cases hDn
    rw [← eo1] at hD5
    have lo2 : (flatA (o :: ot)).length = 1 + o.length + (flatA ot).length := by
      rw [show flatA (o :: ot) = V.int (o.length : Int) :: (octV o ++ flatA ot) from rfl, List.length_cons, List.length_append, octV_len]
      omega
    have lus : us.length + (flatA (o :: ot)).length ≤ 9000000 := by
      rw [← List.length_append, eo]
      exact hz2
    refine ⟨_, rfl, .inl ⟨rfl, _, SqL.of hT5⟩, _, rfl, Dn, _, rfl, .inl (SqL.of hD5), D, _, _, rfl, rfl, hT5, szk (by omega), ?_⟩
    have hD6 : ∀ y, upd H5 D y Dn = some (.lst (octV o)) := fun y => by rw [upd_ne nDD]; exact hD5
    refine ⟨_, rfl, .inl ⟨rfl, _, SqL.of upd_same⟩, _, rfl, ?_⟩
    refine ⟨D, Dn, _, _, rfl, rfl, upd_same, hD6 _, szK (by rw [List.length_append, octV_len]; simp only [List.length_cons, List.length_nil]; omega), ?_⟩
    rw [upd_upd, octV_len]
    have lT5 : H5 D ≠ none := by rw [hT5]; exact Option.some_ne_none _
    have eW := (ExtF.refl (F := fun c => c = D) w5.sub).write (o := .lst ((us ++ [V.int (o.length : Int)]) ++ octV o)) (.inr rfl) lT5 gT5
    have w6 := w5.away eW fun c z y => z (y ▸ oT5)
    have e6 := e5.write (o := .lst ((us ++ [V.int (o.length : Int)]) ++ octV o)) (.inl D0) lT5 gT5
    refine ⟨_, rfl, _, rfl, _, _, rfl, rfl, _, _, rfl, rfl, r.length, Nat.lt_succ_self _, (R7237f.Spec.step wd cl).1, r, ot, k + (2 + b.length), G5, A5, _, some (.int (b.length : Int)), some (.ref Dn), rfl, ?_, e6, on5, w6, go, upd_same, ?_, oT5, gT5, ?_, by omega⟩
    · rw [st.S, show ((k + (2 + b.length) : Nat) : Int) = (k : Int) + (2 + (b.length : Int)) by omega]
      rfl
    · rw [← eo, List.append_assoc, List.append_assoc]
      rfl
    · rw [show k + (2 + b.length) = k + 2 + b.length by omega, ← List.drop_drop, d2, List.drop_append_of_le_length (by rw [octV_len]; exact Nat.le_refl _), List.drop_eq_nil_of_le (by rw [octV_len]; exact Nat.le_refl _)]
      rfl
end
end Ov
set_option maxHeartbeats 4000000
/-! S2: a deed keeps what holds of every volume. -/
namespace Ov
open R7237f.Spec (Plain Units Item Cell Lock Replay Op Way Volume Node Err Res andThen require typeErr rangeErr itemOf Told Deed doLock doUnlock doCommit doFlush doTrim doLand doCrash doShut doReplay doFree doBoot upNode aNode aBlock)
theorem then_ok {α β : Type} {x : Res α} {f : α → Res β} {b : β} (h : andThen x f = .ok b) : ∃ a, x = .ok a ∧ f a = .ok b := by
  cases x with
  | ok a => exact ⟨a, rfl, h⟩
  | error e => cases h
theorem req_okS {c : Bool} {e : Err} {u : Unit} (h : require c e = .ok u) : c = true := by
  cases c with
  | true => rfl
  | false => cases h
theorem node_ok {v : Volume} {n : Nat} {u : Unit} (h : aNode v n = .ok u) : 1 ≤ n ∧ n ≤ v.nodes.length := by
  have z := req_okS h
  unfold Volume.isNode at z
  rw [Bool.and_eq_true] at z
  exact ⟨of_decide_eq_true z.1, of_decide_eq_true z.2⟩
theorem up_ok {v : Volume} {n : Nat} {u : Unit} (h : upNode v n = .ok u) : (1 ≤ n ∧ n ≤ v.nodes.length) ∧ (v.node n).running = true := by
  obtain ⟨_, h1, h2⟩ := then_ok h
  exact ⟨node_ok h1, req_okS h2⟩
theorem block_ok {v : Volume} {b : Nat} {u : Unit} (h : aBlock v b = .ok u) : b < v.disk.length := of_decide_eq_true (req_okS h)
theorem node_at {v : Volume} {n : Nat} (h : 1 ≤ n ∧ n ≤ v.nodes.length) : v.nodes[n - 1]? = some (v.node n) := by
  unfold Volume.node
  rw [List.getD_eq_getElem?_getD, List.getElem?_eq_getElem (by omega)]
  rfl
theorem nodeS_set {v : Volume} {n i : Nat} {x y : Node} (h : 1 ≤ n ∧ n ≤ v.nodes.length) (hy : (v.nodes.set (n - 1) x)[i]? = some y) : (i + 1 = n ∧ y = x) ∨ (i + 1 ≠ n ∧ v.nodes[i]? = some y) := by
  rw [List.getElem?_set] at hy
  by_cases c : n - 1 = i
  · rw [if_pos c, if_pos (by omega)] at hy
    exact .inl ⟨by omega, (Option.some.inj hy).symm⟩
  · rw [if_neg c] at hy
    exact .inr ⟨by omega, hy⟩
theorem node_memS {v : Volume} {n : Nat} (h : 1 ≤ n ∧ n ≤ v.nodes.length) : v.node n ∈ v.nodes := List.mem_of_getElem? (node_at h)
theorem set_mem {v : Volume} {n : Nat} {x y : Node} (hy : y ∈ v.nodes.set (n - 1) x) : y = x ∨ y ∈ v.nodes := (List.mem_or_eq_of_mem_set hy).symm
theorem VOk.up {c d : Nat} {v : Volume} (h : VOk c v) (k : c ≤ d) : VOk d v where
  nn := h.nn
  bl := h.bl
  apart := h.apart
  tx := h.tx
  tx0 := h.tx0
  blk := h.blk
  few := h.few
  cblk := h.cblk
  held := h.held
  free := h.free
  out := h.out
  ids := h.ids
  nop := ⟨h.nop.1, by have := h.nop.2; omega⟩
  opn := h.opn
  zl := Nat.le_trans h.zl k
  zo := Nat.le_trans h.zo k
  zc := Nat.le_trans h.zc k
  zn := fun x hx => ⟨Nat.le_trans (h.zn x hx).1 k, by have := (h.zn x hx).2; omega⟩
/-- another node in a node's place: what is to be shown of it -/
structure NodeOk (c : Nat) (v : Volume) (n : Nat) (x : Node) (ls : List Lock) : Prop where
  cblk : ∀ y ∈ x.cache, y.block < v.disk.length
  held : x.running = true → ∀ l ∈ ls, l.node = n → itemOf x.cache l.block ≠ none
  free : x.freed = true → x.running = false ∧ ∀ l ∈ ls, l.node ≠ n
  out : x.out = true → x.running = false
  zn : x.cache.length ≤ c ∧ x.journal.length ≤ 41 * c
/-- a node and the locks change -/
theorem VOk.setN {c d : Nat} {v : Volume} (h : VOk c v) (k : c ≤ d) {n : Nat} (hn : 1 ≤ n ∧ n ≤ v.nodes.length) {x : Node} {ls : List Lock} (hx : NodeOk d v n x ls) (ha : ls.Pairwise fun a b => ¬ (a.node = b.node ∧ a.block = b.block)) (hl : ∀ l ∈ ls, l.node ≠ n → l ∈ v.locks) (hz : ls.length ≤ d) :
    VOk d { v with nodes := v.nodes.set (n - 1) x, locks := ls } where
  nn := by show (v.nodes.set (n - 1) x).length ≤ 8; rw [List.length_set]; exact h.nn
  bl := h.bl
  apart := ha
  tx := h.tx
  tx0 := h.tx0
  blk := h.blk
  few := h.few
  cblk := fun y hy => (set_mem hy).elim (fun e => e ▸ hx.cblk) (h.cblk y)
  held := fun i y hy hr l hl1 hl2 => by
    rcases nodeS_set hn hy with ⟨e, rfl⟩ | ⟨e, hy⟩
    · exact hx.held hr l hl1 (by omega)
    · exact h.held i y hy hr l (hl l hl1 (by omega)) hl2
  free := fun i y hy hf => by
    rcases nodeS_set hn hy with ⟨e, rfl⟩ | ⟨e, hy⟩
    · exact ⟨(hx.free hf).1, fun l hl1 z => (hx.free hf).2 l hl1 (by omega)⟩
    · exact ⟨(h.free i y hy hf).1, fun l hl1 z => (h.free i y hy hf).2 l (hl l hl1 (by omega)) z⟩
  out := fun y hy => (set_mem hy).elim (fun e => e ▸ hx.out) (h.out y)
  ids := h.ids
  nop := ⟨h.nop.1, by have := h.nop.2; show v.nextOp ≤ d + 1; omega⟩
  opn := fun o ho => by show 1 ≤ o.node ∧ o.node ≤ (v.nodes.set (n - 1) x).length; rw [List.length_set]; exact h.opn o ho
  zl := hz
  zo := Nat.le_trans h.zo k
  zc := Nat.le_trans h.zc k
  zn := fun y hy => (set_mem hy).elim (fun e => e ▸ hx.zn) fun m => ⟨Nat.le_trans (h.zn y m).1 k, by have := (h.zn y m).2; omega⟩
/-- the writes under way change -/
theorem VOk.setO {c d : Nat} {v : Volume} (h : VOk c v) (k : c ≤ d) {os : List Op} {no nt : Nat} (h1 : ∀ o ∈ os, ∀ t e, o.way = .log t e → 0 < t) (h2 : 0 < nt) (h3 : ∀ o ∈ os, ∀ x ∈ wItems o.way, x.block < v.disk.length)
    (h4 : ∀ o ∈ os, 1 ≤ (wItems o.way).length ∧ (wItems o.way).length ≤ 8) (h5 : ∀ o ∈ os, 1 ≤ o.id ∧ o.id < no) (h6 : 1 ≤ no ∧ no ≤ d + 1) (h7 : ∀ o ∈ os, 1 ≤ o.node ∧ o.node ≤ v.nodes.length) (h8 : os.length ≤ d) : VOk d { v with ops := os, nextOp := no, nextTx := nt } where
  nn := h.nn
  bl := h.bl
  apart := h.apart
  tx := h1
  tx0 := h2
  blk := h3
  few := h4
  cblk := h.cblk
  held := h.held
  free := h.free
  out := h.out
  ids := h5
  nop := h6
  opn := h7
  zl := Nat.le_trans h.zl k
  zo := h8
  zc := Nat.le_trans h.zc k
  zn := (h.up k).zn
/-- fewer of them -/
theorem VOk.lessO {c : Nat} {v : Volume} (h : VOk c v) {p : Op → Bool} : VOk c { v with ops := v.ops.filter p } :=
  h.setO (Nat.le_refl c) (fun o m => h.tx o ((List.mem_filter.mp m).1)) h.tx0 (fun o m => h.blk o ((List.mem_filter.mp m).1)) (fun o m => h.few o ((List.mem_filter.mp m).1)) (fun o m => h.ids o ((List.mem_filter.mp m).1)) h.nop (fun o m => h.opn o ((List.mem_filter.mp m).1)) (Nat.le_trans (List.length_filter_le _ _) h.zo)
theorem VOk.setC {c : Nat} {v : Volume} (h : VOk c v) {x : Item} : VOk c (R7237f.Spec.writeCell v x) where
  nn := h.nn
  bl := by show (v.disk.set _ _).length ≤ 16; rw [List.length_set]; exact h.bl
  apart := h.apart
  tx := h.tx
  tx0 := h.tx0
  blk := fun o m y hy => by show _ < (v.disk.set _ _).length; rw [List.length_set]; exact h.blk o m y hy
  few := h.few
  cblk := fun z m y hy => by show _ < (v.disk.set _ _).length; rw [List.length_set]; exact h.cblk z m y hy
  held := h.held
  free := h.free
  out := h.out
  ids := h.ids
  nop := h.nop
  opn := h.opn
  zl := h.zl
  zo := h.zo
  zc := h.zc
  zn := h.zn
theorem VOk.setK {c d : Nat} {v : Volume} (h : VOk c v) (k : c ≤ d) {cm : List (Nat × List Item)} (hz : cm.length ≤ d) : VOk d { v with committed := cm } :=
  let u := h.up k
  ⟨u.nn, u.bl, u.apart, u.tx, u.tx0, u.blk, u.few, u.cblk, u.held, u.free, u.out, u.ids, u.nop, u.opn, u.zl, u.zo, hz, u.zn⟩
end Ov
set_option maxHeartbeats 4000000
/-! S6: each deed. -/
namespace Ov
open R7237f.Spec (Plain Units Item Cell Lock Replay Op Way Volume Node Err Res andThen require typeErr rangeErr itemOf Told Deed doLock doUnlock doCommit doFlush doTrim doLand doCrash doShut doReplay doFree doBoot upNode aNode aBlock)
theorem item_ne {c : List Item} {b : Nat} : itemOf c b ≠ none ↔ ∃ y, y ∈ c ∧ y.block = b := by
  unfold itemOf
  constructor
  · intro h
    cases q : c.find? fun x => x.block == b with
    | none => exact absurd q h
    | some y => exact ⟨y, List.mem_of_find?_eq_some q, by have := List.find?_some q; exact eq_of_beq this⟩
  · rintro ⟨y, hy, rfl⟩ z
    have := List.find?_eq_none.mp z y hy
    exact this (beq_self_eq_true _)
def Kept1 (c : Nat) (v u : Volume) : Prop := VOk (c + 1) u ∧ u.nodes.length = v.nodes.length
section
variable {c : Nat} {v u : Volume} {t : Told} {n b k : Nat}
theorem VOk.nodeOk (h : VOk c v) (hn : 1 ≤ n ∧ n ≤ v.nodes.length) : NodeOk c v n (v.node n) v.locks where
  cblk := h.cblk _ (node_memS hn)
  held := fun hr l hl e => h.held (n - 1) _ (node_at hn) hr l hl (by omega)
  free := fun hf => ⟨(h.free (n - 1) _ (node_at hn) hf).1, fun l hl e => (h.free (n - 1) _ (node_at hn) hf).2 l hl (by omega)⟩
  out := h.out _ (node_memS hn)
  zn := h.zn _ (node_memS hn)
theorem ok_inj {α : Type} {a b : α} (h : (Except.ok a : Res α) = .ok b) : a = b := by cases h; rfl
theorem VOk.lock {al : Bool} (h : VOk c v) (e : doLock v n b al = .ok (u, t)) : Kept1 c v u := by
  obtain ⟨_, e1, e⟩ := then_ok e
  obtain ⟨hn, hr⟩ := up_ok e1
  obtain ⟨_, e2, e⟩ := then_ok e
  have hb := block_ok e2
  obtain ⟨_, e3, e⟩ := then_ok e
  have h3 := req_okS e3
  obtain ⟨_, _, e⟩ := then_ok e
  cases ok_inj e
  have g := h.nodeOk hn
  have nh : ∀ l ∈ v.locks, ¬ (l.node = n ∧ l.block = b) := fun l hl z => by
    rw [Bool.not_eq_true'] at h3
    unfold Volume.holds at h3
    rw [List.any_eq_false] at h3
    exact h3 l hl (by rw [z.1, z.2, beq_self_eq_true, beq_self_eq_true]; rfl)
  refine ⟨h.setN (Nat.le_succ c) hn ⟨?_, ?_, ?_, ?_, ?_⟩ ?_ ?_ ?_, List.length_set⟩
  · intro y hy
    rcases List.mem_append.mp hy with hy | hy
    · exact g.cblk y hy
    · cases List.mem_singleton.mp hy
      exact hb
  · intro _ l hl en
    rw [item_ne]
    rcases List.mem_append.mp hl with hl | hl
    · obtain ⟨y, hy, e⟩ := item_ne.mp (g.held hr l hl en)
      exact ⟨y, List.mem_append_left _ hy, e⟩
    · cases List.mem_singleton.mp hl
      exact ⟨_, List.mem_append_right _ (List.mem_singleton.mpr rfl), rfl⟩
  · intro hf
    have z := (g.free hf).1
    rw [hr] at z
    cases z
  · exact g.out
  · show (_ ++ [_]).length ≤ c + 1 ∧ _
    rw [List.length_append]
    exact ⟨Nat.succ_le_succ g.zn.1, by have := g.zn.2; show (v.node n).journal.length ≤ _; omega⟩
  · rw [List.pairwise_append]
    refine ⟨h.apart, List.pairwise_singleton _ _, fun a ha l hl z => ?_⟩
    cases List.mem_singleton.mp hl
    exact nh a ha z
  · intro l hl nn
    rcases List.mem_append.mp hl with hl | hl
    · exact hl
    · cases List.mem_singleton.mp hl
      exact absurd rfl nn
  · rw [List.length_append]
    exact Nat.succ_le_succ h.zl
theorem VOk.unlock (h : VOk c v) (e : doUnlock v n b = .ok (u, t)) : Kept1 c v u := by
  obtain ⟨_, e1, e⟩ := then_ok e
  obtain ⟨hn, hr⟩ := up_ok e1
  obtain ⟨_, _, e⟩ := then_ok e
  obtain ⟨_, _, e⟩ := then_ok e
  obtain ⟨_, _, e⟩ := then_ok e
  obtain ⟨_, _, e⟩ := then_ok e
  cases ok_inj e
  have g := h.nodeOk hn
  refine ⟨h.setN (Nat.le_succ c) hn ⟨?_, ?_, ?_, ?_, ?_⟩ ?_ ?_ ?_, List.length_set⟩
  · exact fun y hy => g.cblk y (List.mem_filter.mp hy).1
  · intro _ l hl en
    obtain ⟨hl1, hl2⟩ := List.mem_filter.mp hl
    obtain ⟨y, hy, e⟩ := item_ne.mp (g.held hr l hl1 en)
    refine item_ne.mpr ⟨y, List.mem_filter.mpr ⟨hy, ?_⟩, e⟩
    have nb : l.block ≠ b := fun z => by
      rw [en, z, beq_self_eq_true, beq_self_eq_true] at hl2
      cases hl2
    rw [e, Bool.not_eq_true', beq_eq_false_iff_ne]
    exact nb
  · intro hf
    have z := (g.free hf).1
    rw [hr] at z
    cases z
  · exact g.out
  · exact ⟨Nat.le_trans (List.length_filter_le _ _) (Nat.le_trans g.zn.1 (Nat.le_succ c)), by have := g.zn.2; show (v.node n).journal.length ≤ _; omega⟩
  · exact h.apart.filter _
  · exact fun l hl _ => (List.mem_filter.mp hl).1
  · exact Nat.le_trans (List.length_filter_le _ _) (Nat.le_trans h.zl (Nat.le_succ c))
theorem VOk.crash (h : VOk c v) (e : doCrash v n = .ok (u, t)) : Kept1 c v u := by
  obtain ⟨_, e1, e⟩ := then_ok e
  obtain ⟨hn, hr⟩ := up_ok e1
  cases ok_inj e
  have g := h.nodeOk hn
  refine ⟨h.setN (Nat.le_succ c) hn ⟨?_, ?_, ?_, ?_, ?_⟩ h.apart (fun l hl _ => hl) (Nat.le_trans h.zl (Nat.le_succ c)), List.length_set⟩
  · exact fun y hy => by cases hy
  · exact fun z => by cases z
  · exact fun hf => ⟨rfl, (g.free hf).2⟩
  · exact fun _ => rfl
  · exact ⟨Nat.zero_le _, by have := g.zn.2; show (v.node n).journal.length ≤ _; omega⟩
theorem VOk.trim (h : VOk c v) (e : doTrim v n = .ok (u, t)) : Kept1 c v u := by
  obtain ⟨_, e1, e⟩ := then_ok e
  obtain ⟨hn, hr⟩ := up_ok e1
  obtain ⟨_, _, e⟩ := then_ok e
  cases ok_inj e
  have g := h.nodeOk hn
  exact ⟨h.setN (Nat.le_succ c) hn ⟨g.cblk, g.held, g.free, g.out, Nat.le_trans g.zn.1 (Nat.le_succ c), Nat.zero_le _⟩ h.apart (fun l hl _ => hl) (Nat.le_trans h.zl (Nat.le_succ c)), List.length_set⟩
theorem VOk.boot (h : VOk c v) (e : doBoot v n = .ok (u, t)) : Kept1 c v u := by
  obtain ⟨_, e1, e⟩ := then_ok e
  have hn := node_ok e1
  obtain ⟨_, e2, e⟩ := then_ok e
  have h2 := req_okS e2
  rw [Bool.and_eq_true] at h2
  cases ok_inj e
  have g := h.nodeOk hn
  refine ⟨h.setN (Nat.le_succ c) hn ⟨?_, ?_, ?_, ?_, ?_⟩ h.apart (fun l hl _ => hl) (Nat.le_trans h.zl (Nat.le_succ c)), List.length_set⟩
  · exact fun y hy => by cases hy
  · exact fun _ l hl en => absurd en ((g.free h2.1).2 l hl)
  · exact fun z => by cases z
  · exact fun z => by cases z
  · exact ⟨Nat.zero_le _, Nat.zero_le _⟩
/-- a node whose journal may be replayed does not run -/
theorem may_down (h : VOk c v) (hn : 1 ≤ n ∧ n ≤ v.nodes.length) (m : R7237f.Spec.mayReplay v n = true) : (v.node n).running = false := by
  unfold R7237f.Spec.mayReplay at m
  by_cases z : v.rules.shut = true
  · rw [if_pos z] at m
    exact h.out _ (node_memS hn) m
  · rw [if_neg z, Bool.not_eq_true'] at m
    exact m
theorem VOk.freeN (h : VOk c v) (e : doFree v n = .ok (u, t)) : Kept1 c v u := by
  obtain ⟨_, e1, e⟩ := then_ok e
  have hn := node_ok e1
  obtain ⟨_, e2, e⟩ := then_ok e
  have h2 := req_okS e2
  rw [Bool.and_eq_true] at h2
  obtain ⟨_, _, e⟩ := then_ok e
  cases ok_inj e
  have g := h.nodeOk hn
  have nr := may_down h hn h2.1
  have gone : ∀ l ∈ v.locks.filter (fun l => !(l.node == n)), l.node ≠ n := fun l hl z => by
    have := (List.mem_filter.mp hl).2
    rw [z, beq_self_eq_true] at this
    cases this
  refine ⟨h.setN (Nat.le_succ c) hn ⟨g.cblk, ?_, ?_, g.out, Nat.le_trans g.zn.1 (Nat.le_succ c), Nat.zero_le _⟩ (h.apart.filter _) (fun l hl _ => (List.mem_filter.mp hl).1) (Nat.le_trans (List.length_filter_le _ _) (Nat.le_trans h.zl (Nat.le_succ c))), List.length_set⟩
  · exact fun _ l hl en => absurd en (gone l hl)
  · exact fun _ => ⟨nr, gone⟩
theorem setItem_blocks (x : Item) (l : List Item) : (R7237f.Spec.setItem x l).map (·.block) = l.map (·.block) := by
  unfold R7237f.Spec.setItem
  rw [List.map_map]
  refine List.map_congr_left fun y _ => ?_
  show (if y.block == x.block then x else y).block = y.block
  by_cases q : (y.block == x.block) = true
  · rw [if_pos q]
    exact (eq_of_beq q).symm
  · rw [if_neg q]
theorem setAll_blocks : ∀ (e l : List Item), (R7237f.Spec.setAll e l).map (·.block) = l.map (·.block)
  | [], l => rfl
  | x :: r, l => (setAll_blocks r (R7237f.Spec.setItem x l)).trans (setItem_blocks x l)
theorem item_blocks {l : List Item} {b : Nat} : itemOf l b ≠ none ↔ b ∈ l.map (·.block) := by
  rw [item_ne, List.mem_map]
theorem entry_len (e : List Item) : (R7237f.Spec.entryBytes e).length = 1 + 5 * e.length := by
  unfold R7237f.Spec.entryBytes
  rw [List.length_cons]
  have : (e.flatMap R7237f.Spec.itemBytes).length = 5 * e.length := by
    induction e with
    | nil => rfl
    | cons x r ih =>
      rw [List.flatMap_cons, List.length_append, ih, List.length_cons]
      show 5 + _ = _
      omega
  omega
theorem VOk.node1 (h : VOk c v) (hn : 1 ≤ n ∧ n ≤ v.nodes.length) {d : Nat} (k : c ≤ d) {x : Node} (hx : NodeOk d v n x v.locks) : VOk d (v.setNode n x) :=
  h.setN k hn hx h.apart (fun l hl _ => hl) (Nat.le_trans h.zl k)
theorem VOk.commit {l : List (Nat × Nat)} (h : VOk c v) (e : doCommit v n l = .ok (u, t)) : Kept1 c v u := by
  obtain ⟨_, e1, e⟩ := then_ok e
  obtain ⟨hn, hr⟩ := up_ok e1
  obtain ⟨_, e2, e⟩ := then_ok e
  have h2 := req_okS e2
  unfold R7237f.Spec.changesOk at h2
  rw [Bool.and_eq_true, Bool.and_eq_true, Bool.and_eq_true] at h2
  obtain ⟨⟨⟨a1, a2⟩, _⟩, a4⟩ := h2
  have a1 := of_decide_eq_true a1
  have a2 := of_decide_eq_true a2
  obtain ⟨_, _, e⟩ := then_ok e
  obtain ⟨_, _, e⟩ := then_ok e
  obtain ⟨_, _, e⟩ := then_ok e
  obtain ⟨_, _, e⟩ := then_ok e
  cases ok_inj e
  have g := h.nodeOk hn
  have bl := setAll_blocks (R7237f.Spec.changesOf (v.node n) l) (v.node n).cache
  have ln : (R7237f.Spec.setAll (R7237f.Spec.changesOf (v.node n) l) (v.node n).cache).length = (v.node n).cache.length := by
    have := congrArg List.length bl
    rwa [List.length_map, List.length_map] at this
  have s1 : VOk (c + 1) (v.setNode n { v.node n with cache := R7237f.Spec.setAll (R7237f.Spec.changesOf (v.node n) l) (v.node n).cache }) := by
    refine h.node1 hn (Nat.le_succ c) ⟨?_, ?_, ?_, ?_, ?_⟩
    · intro y hy
      have hm : y.block ∈ (v.node n).cache.map (·.block) := by
        rw [← bl]
        exact List.mem_map_of_mem hy
      obtain ⟨z, hz, ez⟩ := List.mem_map.mp hm
      rw [← ez]
      exact g.cblk z hz
    · intro _ k hk ek
      show itemOf (R7237f.Spec.setAll _ _) k.block ≠ none
      rw [item_blocks, bl, ← item_blocks]
      exact g.held hr k hk ek
    · intro hf
      have z := (g.free hf).1
      rw [hr] at z
      cases z
    · exact g.out
    · show (R7237f.Spec.setAll _ _).length ≤ _ ∧ _
      rw [ln]
      exact ⟨Nat.le_trans g.zn.1 (Nat.le_succ c), by have := g.zn.2; show (v.node n).journal.length ≤ _; omega⟩
  have nw : ∀ {p : Op → Prop}, (∀ o ∈ v.ops, p o) → p ⟨v.nextOp, n, .log v.nextTx (R7237f.Spec.changesOf (v.node n) l)⟩ → ∀ o ∈ v.ops ++ [(⟨v.nextOp, n, .log v.nextTx (R7237f.Spec.changesOf (v.node n) l)⟩ : Op)], p o := fun a b o ho => by
    rcases List.mem_append.mp ho with ho | ho
    · exact a o ho
    · cases List.mem_singleton.mp ho
      exact b
  have lc : (R7237f.Spec.changesOf (v.node n) l).length = l.length := List.length_map ..
  refine ⟨s1.setO (Nat.le_refl _) (nw h.tx ?_) (Nat.succ_pos _) (nw h.blk ?_) (nw h.few ?_) (nw (fun o ho => ⟨(h.ids o ho).1, Nat.lt_succ_of_lt (h.ids o ho).2⟩) ⟨h.nop.1, Nat.lt_succ_self _⟩) ⟨Nat.succ_le_succ (Nat.zero_le _), Nat.succ_le_succ h.nop.2⟩ (nw (fun o ho => ?_) ?_) ?_, List.length_set⟩
  · intro t e q
    cases q
    exact h.tx0
  · intro x hx
    obtain ⟨z, hz, rfl⟩ := List.mem_map.mp (show x ∈ List.map _ l from hx)
    have := List.all_eq_true.mp a4 z hz
    rw [Bool.and_eq_true] at this
    exact of_decide_eq_true this.1
  · show 1 ≤ (R7237f.Spec.changesOf (v.node n) l).length ∧ (R7237f.Spec.changesOf (v.node n) l).length ≤ 8
    rw [lc]
    exact ⟨a1, a2⟩
  · show 1 ≤ o.node ∧ o.node ≤ (v.nodes.set _ _).length
    rw [List.length_set]
    exact h.opn o ho
  · show 1 ≤ n ∧ n ≤ (v.nodes.set _ _).length
    rw [List.length_set]
    exact hn
  · rw [List.length_append]
    exact Nat.succ_le_succ h.zo
theorem VOk.flush (h : VOk c v) (e : doFlush v n b = .ok (u, t)) : Kept1 c v u := by
  obtain ⟨_, e1, e⟩ := then_ok e
  obtain ⟨hn, hr⟩ := up_ok e1
  obtain ⟨_, _, e⟩ := then_ok e
  obtain ⟨_, _, e⟩ := then_ok e
  obtain ⟨_, _, e⟩ := then_ok e
  obtain ⟨_, _, e⟩ := then_ok e
  cases q : itemOf (v.node n).cache b with
  | none => rw [q] at e; cases e
  | some x =>
    rw [q] at e
    obtain ⟨_, _, e⟩ := then_ok e
    obtain ⟨_, _, e⟩ := then_ok e
    cases ok_inj e
    have g := h.nodeOk hn
    have hx : x ∈ (v.node n).cache := List.mem_of_find?_eq_some q
    have nw : ∀ {p : Op → Prop}, (∀ o ∈ v.ops, p o) → p ⟨v.nextOp, n, .home x⟩ → ∀ o ∈ v.ops ++ [(⟨v.nextOp, n, .home x⟩ : Op)], p o := fun a b o ho => by
      rcases List.mem_append.mp ho with ho | ho
      · exact a o ho
      · cases List.mem_singleton.mp ho
        exact b
    refine ⟨h.setO (Nat.le_succ c) (nw h.tx ?_) h.tx0 (nw h.blk ?_) (nw h.few ?_) (nw (fun o ho => ⟨(h.ids o ho).1, Nat.lt_succ_of_lt (h.ids o ho).2⟩) ⟨h.nop.1, Nat.lt_succ_self _⟩) ⟨Nat.succ_le_succ (Nat.zero_le _), Nat.succ_le_succ h.nop.2⟩ (nw h.opn hn) ?_, rfl⟩
    · intro t e q
      cases q
    · intro y hy
      cases List.mem_singleton.mp (show y ∈ [x] from hy)
      exact g.cblk _ hx
    · show 1 ≤ [x].length ∧ [x].length ≤ 8
      exact ⟨Nat.le_refl _, (show 1 ≤ 8 from by decide)⟩
    · rw [List.length_append]
      exact Nat.succ_le_succ h.zo
theorem VOk.jour {ns : List Nat} (h : VOk c v) (hn : 1 ≤ n ∧ n ≤ v.nodes.length) (z : ns.length ≤ 41) : VOk (c + 1) (v.setNode n { v.node n with journal := (v.node n).journal ++ ns }) := by
  have g := h.nodeOk hn
  refine h.node1 hn (Nat.le_succ c) ⟨g.cblk, g.held, g.free, g.out, Nat.le_trans g.zn.1 (Nat.le_succ c), ?_⟩
  show (_ ++ ns).length ≤ _
  rw [List.length_append]
  have := g.zn.2
  omega
theorem VOk.logged {tx : Nat} {en : List Item} (h : VOk c v) (hn : 1 ≤ n ∧ n ≤ v.nodes.length) (z : en.length ≤ 8) : VOk (c + 1) (R7237f.Spec.logged v n tx en) := by
  refine VOk.setK (h.jour hn (ns := R7237f.Spec.entryBytes en) (by rw [entry_len]; omega)) (Nat.le_refl _) ?_
  rw [List.length_append]
  exact Nat.succ_le_succ h.zc
theorem VOk.land (h : VOk c v) (e : doLand v k = .ok (u, t)) : Kept1 c v u := by
  unfold doLand at e
  cases q : R7237f.Spec.findOp v k with
  | none => rw [q] at e; cases e
  | some o =>
    rw [q] at e
    dsimp only at e
    have ho : o ∈ v.ops := List.mem_of_find?_eq_some q
    have hd : VOk c (R7237f.Spec.dropOp v k) := h.lessO
    cases w : o.way with
    | log tx en =>
      rw [w] at e
      dsimp only at e
      by_cases ol : R7237f.Spec.isOldest v o = true
      · rw [if_pos ol] at e
        cases ok_inj e
        have fe := h.few o ho
        rw [w] at fe
        exact ⟨hd.logged (h.opn o ho) fe.2, List.length_set⟩
      · rw [if_neg ol] at e
        cases e
    | home x =>
      rw [w] at e
      cases ok_inj e
      exact ⟨hd.setC.up (Nat.le_succ c), rfl⟩
theorem VOk.torn (h : VOk c v) (hn : 1 ≤ n ∧ n ≤ v.nodes.length) : VOk (c + 1) (R7237f.Spec.tornOff v n k) ∧ (R7237f.Spec.tornOff v n k).nodes.length = v.nodes.length := by
  unfold R7237f.Spec.tornOff
  cases q : v.logs n with
  | nil => exact ⟨h.up (Nat.le_succ c), rfl⟩
  | cons o r =>
    have ho : o ∈ v.ops := by
      have : o ∈ v.logs n := by rw [q]; exact List.mem_cons_self
      exact (List.mem_filter.mp this).1
    dsimp only
    cases w : o.way with
    | home x => exact ⟨h.up (Nat.le_succ c), rfl⟩
    | log tx en =>
      have fe := h.few o ho
      rw [w] at fe
      have fe2 : en.length ≤ 8 := fe.2
      dsimp only
      by_cases z : (R7237f.Spec.entryBytes en).length ≤ k
      · rw [if_pos z]
        exact ⟨h.logged hn fe.2, List.length_set⟩
      · rw [if_neg z]
        exact ⟨h.jour hn (by rw [List.length_take, entry_len]; omega), List.length_set⟩
theorem VOk.shut (h : VOk c v) (e : doShut v n k = .ok (u, t)) : Kept1 c v u := by
  obtain ⟨_, e1, e⟩ := then_ok e
  have hn := node_ok e1
  obtain ⟨_, _, e⟩ := then_ok e
  cases ok_inj e
  obtain ⟨ht, hl⟩ := h.torn (k := k) hn
  have hn' : 1 ≤ n ∧ n ≤ (R7237f.Spec.tornOff v n k).nodes.length := by rw [hl]; exact hn
  have g := ht.nodeOk hn'
  have s1 : VOk (c + 1) ((R7237f.Spec.tornOff v n k).setNode n { (R7237f.Spec.tornOff v n k).node n with running := false, out := true, replayed := false, cache := [], replay := none }) := by
    refine ht.node1 hn' (Nat.le_refl _) ⟨?_, ?_, ?_, ?_, ?_⟩
    · exact fun y hy => by cases hy
    · exact fun z => by cases z
    · exact fun hf => ⟨rfl, (g.free hf).2⟩
    · exact fun _ => rfl
    · exact ⟨Nat.zero_le _, g.zn.2⟩
  exact ⟨s1.lessO, List.length_set.trans hl⟩
theorem VOk.rep {d : Nat} {r : Option Replay} (h : VOk d v) (hn : 1 ≤ n ∧ n ≤ v.nodes.length) : VOk d (v.setNode n { v.node n with replay := r }) := by
  have g := h.nodeOk hn
  exact h.node1 hn (Nat.le_refl d) ⟨g.cblk, g.held, g.free, g.out, g.zn⟩
theorem VOk.replayN {s : Nat} (h : VOk c v) (e : doReplay v s n = .ok (u, t)) : Kept1 c v u := by
  obtain ⟨_, e1, e⟩ := then_ok e
  have hn := node_ok e1
  obtain ⟨_, e2, e⟩ := then_ok e
  have hs := node_ok e2
  obtain ⟨_, _, e⟩ := then_ok e
  obtain ⟨_, _, e⟩ := then_ok e
  have up := h.up (Nat.le_succ c)
  cases q : (v.items n)[R7237f.Spec.replayIndex v s n]? with
  | none =>
    rw [q] at e
    cases ok_inj e
    have h1 := up.rep (r := none) hs
    have hn' : 1 ≤ n ∧ n ≤ (v.setNode s { v.node s with replay := none }).nodes.length := by
      show 1 ≤ n ∧ n ≤ (v.nodes.set _ _).length
      rw [List.length_set]
      exact hn
    have g := h1.nodeOk hn'
    exact ⟨h1.node1 hn' (Nat.le_refl _) ⟨g.cblk, g.held, g.free, g.out, g.zn⟩, List.length_set.trans List.length_set⟩
  | some x =>
    rw [q] at e
    have e := ok_inj e
    by_cases z : (!v.rules.versions || decide ((v.cell x.block).version < x.version)) = true
    · rw [if_pos z] at e
      cases e
      exact ⟨(up.rep hs).setC, List.length_set⟩
    · rw [if_neg z] at e
      cases e
      exact ⟨up.rep hs, List.length_set⟩
theorem VOk.deed {d : Deed} (h : VOk c v) (e : R7237f.Spec.apply v d = .ok (u, t)) : Kept1 c v u := by
  cases d with
  | lock n b a => exact h.lock e
  | unlock n b => exact h.unlock e
  | commit n l => exact h.commit e
  | flush n b => exact h.flush e
  | trim n => exact h.trim e
  | land k => exact h.land e
  | crash n => exact h.crash e
  | shut n k => exact h.shut e
  | replay s n => exact h.replayN e
  | free n => exact h.freeN e
  | boot n => exact h.boot e
theorem VOk.behind {d : Deed} (h : VOk c v) : Kept1 c v (R7237f.Spec.behind v d) := by
  unfold R7237f.Spec.behind
  cases q : R7237f.Spec.apply v d with
  | ok x =>
    obtain ⟨u, t⟩ := x
    exact h.deed q
  | error e => exact ⟨h.up (Nat.le_succ c), rfl⟩
theorem VOk.fresh {r : R7237f.Spec.Rules} {b n : Nat} (hb : b ≤ 16) (hn : n ≤ 8) : VOk 0 (R7237f.Spec.newVolume r b n) where
  nn := by show (List.replicate n _).length ≤ 8; rw [List.length_replicate]; exact hn
  bl := by show (List.replicate b _).length ≤ 16; rw [List.length_replicate]; exact hb
  apart := List.Pairwise.nil
  tx := fun o ho => by cases ho
  tx0 := Nat.one_pos
  blk := fun o ho => by cases ho
  few := fun o ho => by cases ho
  cblk := fun x hx y hy => by
    cases List.eq_of_mem_replicate (show x ∈ List.replicate n _ from hx)
    cases hy
  held := fun i x hx hr l hl => by cases hl
  free := fun i x hx hf => by
    cases List.eq_of_mem_replicate (show x ∈ List.replicate n _ from List.mem_of_getElem? hx)
    cases hf
  out := fun x hx ho => by
    cases List.eq_of_mem_replicate (show x ∈ List.replicate n _ from hx)
    cases ho
  ids := fun o ho => by cases ho
  nop := ⟨Nat.le_refl _, Nat.le_refl _⟩
  opn := fun o ho => by cases ho
  zl := Nat.le_refl _
  zo := Nat.le_refl _
  zc := Nat.le_refl _
  zn := fun x hx => by
    cases List.eq_of_mem_replicate (show x ∈ List.replicate n _ from hx)
    exact ⟨Nat.le_refl _, Nat.le_refl _⟩
theorem intIn_le {a b i : Nat} {p : Plain} (h : R7237f.Spec.integerIn a b p = some i) : a ≤ i ∧ i ≤ b := by
  unfold R7237f.Spec.integerIn at h
  cases q : R7237f.Spec.integerOf p with
  | none => rw [q] at h; cases h
  | some z =>
    rw [q] at h
    change (if Int.ofNat a ≤ z ∧ z ≤ Int.ofNat b then some z.toNat else none) = some i at h
    by_cases k : Int.ofNat a ≤ z ∧ z ≤ Int.ofNat b
    · rw [if_pos k] at h
      cases h
      have h1 : (a : Int) ≤ z := k.1
      have h2 : z ≤ (b : Int) := k.2
      omega
    · rw [if_neg k] at h
      cases h
theorem VOk.new {x y z : Plain} (h : R7237f.Spec.newFn x y z = .ok v) : VOk 0 v := by
  unfold R7237f.Spec.newFn at h
  cases q : R7237f.Spec.integerIn 1 R7237f.Spec.maxBlocks x with
  | none => rw [q] at h; cases h
  | some b =>
    rw [q] at h
    dsimp only at h
    cases q2 : R7237f.Spec.integerIn 1 R7237f.Spec.maxNodes y with
    | none => rw [q2] at h; cases h
    | some m =>
      rw [q2] at h
      obtain ⟨r, _, h⟩ := then_ok h
      cases ok_inj h
      exact VOk.fresh (intIn_le q).2 (intIn_le q2).2
end
end Ov
set_option maxHeartbeats 4000000
/-! S7: a session: what holds of the state all the way. -/
namespace Ov
open PySem PySem.Spec PyProof.Rows L2
open R7237f.Spec (Plain Units Volume RecoverState Res andThen Told toldPlain nodeArg blockArg Ans Call step change onVolume volumeIndex volumeAt apply Deed within hasVolume hasRecover)
/-- what holds of a state that came by at most c deeds -/
structure WInv (c : Nat) (wd : R7237f.Spec.World) : Prop where
  lv : wd.volumes.length = 2
  lr : wd.recovers.length = 2
  v : ∀ s i, wd.volumes.getD s none = some i → i < wd.heap.length
  r : ∀ s x, wd.recovers.getD s none = some x → x.volume < wd.heap.length
  ok : ∀ (i : Nat) v, wd.heap[i]? = some v → VOk c v
  reco : ∀ s x v, wd.recovers.getD s none = some x → wd.heap[x.volume]? = some v → (1 ≤ x.node ∧ x.node ≤ v.nodes.length) ∧ (1 ≤ x.lost ∧ x.lost ≤ v.nodes.length)
section
variable {c d : Nat} {wd : R7237f.Spec.World}
theorem WInv.up (h : WInv c wd) (k : c ≤ d) : WInv d wd := ⟨h.lv, h.lr, h.v, h.r, fun i v z => (h.ok i v z).up k, h.reco⟩
theorem WInv.good (h : WInv c wd) (k : c + 1 ≤ 10000) : WGood wd where
  v := h.v
  r := h.r
  good := fun i v z => ⟨c, by omega, h.ok i v z⟩
  go := fun i v z m n u t e => ⟨⟨c + 1, k, ((h.ok i v z).replayN e).1⟩, ((h.ok i v z).replayN e).2⟩
  reco := h.reco
theorem heap_set {l : List Volume} {i j : Nat} {u y : Volume} (h : (l.set i u)[j]? = some y) : (i = j ∧ y = u ∧ i < l.length) ∨ (i ≠ j ∧ l[j]? = some y) := by
  rw [List.getElem?_set] at h
  by_cases e : i = j
  · rw [if_pos e] at h
    by_cases z : i < l.length
    · rw [if_pos z] at h
      cases h
      exact .inl ⟨e, rfl, z⟩
    · rw [if_neg z] at h
      cases h
  · rw [if_neg e] at h
    exact .inr ⟨e, h⟩
theorem WInv.setH (h : WInv c wd) (k : c ≤ d) {i : Nat} {v u : Volume} (hv : wd.heap[i]? = some v) (hu : VOk d u) (hl : u.nodes.length = v.nodes.length) : WInv d { wd with heap := wd.heap.set i u } where
  lv := h.lv
  lr := h.lr
  v := fun s j e => by show j < (wd.heap.set i u).length; rw [List.length_set]; exact h.v s j e
  r := fun s x e => by show x.volume < (wd.heap.set i u).length; rw [List.length_set]; exact h.r s x e
  ok := fun j y z => by
    rcases heap_set z with ⟨_, rfl, _⟩ | ⟨_, z⟩
    · exact hu
    · exact (h.ok j y z).up k
  reco := fun s x y e z => by
    rcases heap_set z with ⟨ej, rfl, _⟩ | ⟨_, z⟩
    · rw [hl]
      exact h.reco s x v e (ej ▸ hv)
    · exact h.reco s x y e z
theorem WInv.change {s : Nat} {f : Res Deed} (h : WInv c wd) : WInv (c + 2) (change wd s f).1 := by
  unfold R7237f.Spec.change
  cases ci : volumeIndex wd s with
  | none => exact h.up (by omega)
  | some i =>
    dsimp only
    cases hv : wd.heap[i]? with
    | none => exact h.up (by omega)
    | some v =>
      dsimp only
      cases f with
      | error e => exact h.up (by omega)
      | ok dd =>
        show WInv (c + 2) (match apply v dd with
          | .ok (u, t) => (({ wd with heap := wd.heap.set i u }, Ans.ret (toldPlain t)) : R7237f.Spec.World × Ans)
          | .error e => (wd, .fail e)).1
        cases q : apply v dd with
        | error e => exact h.up (by omega)
        | ok ut =>
          obtain ⟨u, t⟩ := ut
          have z := (h.ok i v hv).deed q
          exact h.setH (by omega) hv (z.1.up (by omega)) z.2
theorem WInv.same {x : R7237f.Spec.World} (h : WInv c wd) (e : x = wd) : WInv (c + 2) x := e ▸ h.up (by omega)
theorem recs_set {l : List (Option RecoverState)} {r s : Nat} {a : Option RecoverState} {x : RecoverState} (hr : r < l.length) (h : (l.set r a).getD s none = some x) : (s = r ∧ a = some x) ∨ (s ≠ r ∧ l.getD s none = some x) := by
  rw [getD_set hr] at h
  by_cases e : s = r
  · rw [if_pos e] at h
    exact .inl ⟨e, h⟩
  · rw [if_neg e] at h
    exact .inr ⟨e, h⟩
theorem WInv.setR (h : WInv c wd) {r : Nat} {y : RecoverState} (hr : r < 2) (hy : y.volume < wd.heap.length) (hz : ∀ v, wd.heap[y.volume]? = some v → (1 ≤ y.node ∧ y.node ≤ v.nodes.length) ∧ (1 ≤ y.lost ∧ y.lost ≤ v.nodes.length)) : WInv c { wd with recovers := wd.recovers.set r (some y) } where
  lv := h.lv
  lr := by show (wd.recovers.set _ _).length = 2; rw [List.length_set]; exact h.lr
  v := h.v
  r := fun s x e => by
    rcases recs_set (by rw [h.lr]; exact hr) e with ⟨_, e⟩ | ⟨_, e⟩
    · cases e
      exact hy
    · exact h.r s x e
  ok := h.ok
  reco := fun s x v e z => by
    rcases recs_set (by rw [h.lr]; exact hr) e with ⟨_, e⟩ | ⟨_, e⟩
    · cases e
      exact hz v z
    · exact h.reco s x v e z
theorem WInv.ended (h : WInv c wd) {r : Nat} {x : RecoverState} (hr : wd.recovers.getD r none = some x) : WInv c (R7237f.Spec.endRecover wd r x) := by
  have r2 : r < 2 := by
    apply Classical.byContradiction
    intro z
    rw [List.getD_eq_getElem?_getD, List.getElem?_eq_none (by rw [h.lr]; omega)] at hr
    cases hr
  exact h.setR r2 (h.r r x hr) fun v z => h.reco r x v hr z
theorem WInv.next {r : Nat} (h : WInv c wd) : WInv (c + 2) (R7237f.Spec.nextOfRecover wd r).1 := by
  unfold R7237f.Spec.nextOfRecover
  cases cr : R7237f.Spec.recoverAt wd r with
  | none => exact h.up (by omega)
  | some x =>
    dsimp only
    by_cases en : x.ended = true
    · rw [if_pos en]
      exact h.up (by omega)
    · rw [if_neg en]
      cases hv : wd.heap[x.volume]? with
      | none => exact h.up (by omega)
      | some v =>
        dsimp only
        cases q : apply v (.replay x.node x.lost) with
        | error e => exact (h.ended cr).up (by omega)
        | ok ut =>
          obtain ⟨u, t⟩ := ut
          have z := (h.ok _ v hv).deed q
          have z2 := z.1.behind (d := .free x.lost)
          have e1 : WInv (c + 2) { wd with heap := wd.heap.set x.volume u } := h.setH (by omega) hv (z.1.up (by omega)) z.2
          cases t with
          | done => exact (h.ended cr).setH (d := c + 2) (i := x.volume) (by omega) hv z2.1 (z2.2.trans z.2)
          | nothing => exact e1
          | number n => exact e1
          | item y w => exact e1
theorem stepNew {s : Nat} {x y z : Plain} : step wd (.volumeNew s x y z) = (match R7237f.Spec.newFn x y z with
    | .ok v => ({ wd with heap := wd.heap ++ [v], volumes := wd.volumes.set s (some wd.heap.length) }, .ret .undef)
    | .error e => (wd, .fail e)) := rfl
theorem stepReco {r s : Nat} {x y : Plain} : step wd (.recoverNew r s x y) = (match volumeIndex wd s, volumeAt wd s with
    | some i, some v => (match andThen (R7237f.Spec.aNode v (nodeArg x)) fun _ => R7237f.Spec.aNode v (nodeArg y) with
      | .ok _ => ({ wd with recovers := wd.recovers.set r (some ⟨i, nodeArg x, nodeArg y, false⟩) }, .ret .undef)
      | .error e => (wd, .fail e))
    | _, _ => (wd, .ret .undef)) := rfl
theorem stepRet {r : Nat} {x : Plain} : step wd (.recoverReturn r x) = (match R7237f.Spec.recoverAt wd r with
    | some y => (R7237f.Spec.endRecover wd r y, .ret (R7237f.Spec.iteration x true))
    | none => (wd, .ret .undef)) := rfl
theorem WInv.step {cl : Call} (h : WInv c wd) (hin : within wd cl = true) : WInv (c + 2) (step wd cl).1 := by
  cases cl with
  | readJournal x y => exact h.same rfl
  | volumeNew s x y z =>
    have hs : s < 2 := of_decide_eq_true (Bool.and_eq_true .. ▸ (show (R7237f.Spec.isSlot s && R7237f.Spec.fits [x, y, z]) = true from hin)).1
    rw [stepNew]
    cases q : R7237f.Spec.newFn x y z with
    | error e => exact h.up (Nat.le_add_right c 2)
    | ok v =>
      dsimp only
      have hl : ∀ j y, (wd.heap ++ [v])[j]? = some y → (j < wd.heap.length ∧ wd.heap[j]? = some y) ∨ y = v := fun j y e => by
        rw [List.getElem?_append] at e
        by_cases lt : j < wd.heap.length
        · rw [if_pos lt] at e
          exact .inl ⟨lt, e⟩
        · rw [if_neg lt] at e
          have := List.mem_of_getElem? e
          exact .inr (List.mem_singleton.mp this)
      refine ⟨?_, h.lr, ?_, ?_, ?_, ?_⟩
      · show (wd.volumes.set _ _).length = 2
        rw [List.length_set]
        exact h.lv
      · intro t i e
        show i < (wd.heap ++ [v]).length
        rw [List.length_append, List.length_singleton]
        have e : (wd.volumes.set s (some wd.heap.length)).getD t none = some i := e
        rw [getD_set (by rw [h.lv]; exact hs)] at e
        by_cases c0 : t = s
        · rw [if_pos c0] at e
          cases e
          exact Nat.lt_succ_self _
        · rw [if_neg c0] at e
          have := h.v t i e
          omega
      · intro t y e
        show y.volume < (wd.heap ++ [v]).length
        rw [List.length_append, List.length_singleton]
        have := h.r t y e
        omega
      · intro i y e
        rcases hl i y e with ⟨_, e⟩ | rfl
        · exact (h.ok i y e).up (by omega)
        · exact (VOk.new q).up (by omega)
      · intro t y u e1 e2
        have lt := h.r t y e1
        have e2 : (wd.heap ++ [v])[y.volume]? = some u := e2
        rw [List.getElem?_append, if_pos lt] at e2
        exact h.reco t y u e1 e2
  | lock s x y z => exact h.change
  | unlock s x y => exact h.change
  | read s x y => exact h.same onVol_same
  | commit s x y => exact h.change
  | flush s x y => exact h.change
  | trim s x => exact h.change
  | land s x => exact h.change
  | crash s x => exact h.change
  | shut s x y => exact h.change
  | replay s x y => exact h.change
  | free s x => exact h.change
  | boot s x => exact h.change
  | journal s x => exact h.same onVol_same
  | last s x => exact h.same onVol_same
  | state s => exact h.same onVol_same
  | recoverNew r s x y =>
    have hin : ((R7237f.Spec.isSlot r && hasVolume wd s) && R7237f.Spec.fits [x, y]) = true := hin
    rw [Bool.and_eq_true, Bool.and_eq_true] at hin
    have hr : r < 2 := of_decide_eq_true hin.1.1
    obtain ⟨i, v, h1, h2⟩ := has_vol hin.1.2
    rw [stepReco]
    have e1 : volumeIndex wd s = some i := h1
    have e2 : volumeAt wd s = some v := by
      unfold volumeAt
      rw [e1]
      exact h2
    rw [e1, e2]
    dsimp only
    cases q : andThen (R7237f.Spec.aNode v (nodeArg x)) fun _ => R7237f.Spec.aNode v (nodeArg y) with
    | error e => exact h.up (by omega)
    | ok _ =>
      obtain ⟨_, q1, q2⟩ := then_ok q
      refine WInv.up (h.setR hr (y := ⟨i, nodeArg x, nodeArg y, false⟩) (h.v s i h1) fun u hu => ?_) (by omega)
      have hu : wd.heap[i]? = some u := hu
      rw [h2] at hu
      cases hu
      exact ⟨node_ok q1, node_ok q2⟩
  | recoverNext r => exact h.next
  | recoverReturn r x =>
    rw [stepRet]
    cases q : R7237f.Spec.recoverAt wd r with
    | none => exact h.up (Nat.le_add_right c 2)
    | some y => exact (h.ended q).up (Nat.le_add_right c 2)
theorem start_inv : WInv 0 R7237f.Spec.World.start where
  lv := rfl
  lr := rfl
  v := fun s i e => by
    match s, e with
    | 0, e => cases e
    | 1, e => cases e
    | n + 2, e => cases e
  r := fun s i e => by
    match s, e with
    | 0, e => cases e
    | 1, e => cases e
    | n + 2, e => cases e
  ok := fun i v e => by cases e
  reco := fun s x v _ e => by cases e
end
/-! a request -/
theorem pad_eq : ∀ (n : Nat) (l : List Plain), l.length ≤ n → l ++ List.replicate (n - l.length) .undef = (List.range n).map fun i => l.getD i .undef := by
  intro n l h
  refine List.ext_getElem? fun i => ?_
  rw [List.getElem?_append, List.getElem?_map]
  by_cases c : i < l.length
  · rw [if_pos c, List.getElem?_range (by omega)]
    show _ = some (l.getD i .undef)
    rw [List.getD_eq_getElem?_getD, List.getElem?_eq_getElem c]
    rfl
  · rw [if_neg c, List.getElem?_replicate]
    by_cases k : i < n
    · rw [if_pos (by omega), List.getElem?_range k]
      show _ = some (l.getD i .undef)
      rw [List.getD_eq_getElem?_getD, List.getElem?_eq_none (by omega)]
      rfl
    · rw [if_neg (by omega), List.getElem?_eq_none (by rw [List.length_range]; omega)]
      rfl
theorem pad_to {d n : Nat} {l : List Plain} (hd : argsL.getD d 0 = n) (h : l.length ≤ n) : padded d l = (List.range n).map fun i => l.getD i .undef := by
  unfold padded
  rw [hd]
  exact pad_eq n l h
theorem taking_len {n : Nat} {l : List Plain} {x : Option Call} {c : Call} (h : Rust.taking n l x = some c) : l.length ≤ n := by
  unfold Rust.taking at h
  by_cases z : Nat.ble l.length n = true
  · exact Nat.le_of_ble_eq_true z
  · rw [if_neg z] at h; cases h
/-- what a call that is asked tells of the request -/
structure Asks (d : Nat) (l : List Plain) (cl : Call) : Prop where
  lt : d < 20
  len : l.length ≤ argsL.getD d 0
  same : Rust.callOf d (padded d l) = some cl
  fit : ∀ wd, within wd cl = true → R7237f.Spec.fits ((padded d l).drop (slotsL.getD d 0)) = true
  slot : ∀ i, i < slotsL.getD d 0 → ∃ s, Rust.slotOf 1 ((padded d l).getD i .undef) = some s
theorem and_r {a b : Bool} (h : (a && b) = true) : b = true := (Bool.and_eq_true .. ▸ h).2
theorem asks {d : Nat} {l : List Plain} {cl : Call} (h : Rust.callOf d l = some cl) : Asks d l cl := by
  match d, h with
  | 0, h =>
    have hl : l.length ≤ 2 := taking_len h
    have hp := pad_to (d := 0) rfl hl
    cases take_some h
    refine ⟨by decide, hl, by rw [hp]; rfl, fun wd z => by rw [hp]; exact z, fun i z => absurd z (Nat.not_lt_zero i)⟩
  | 1, h =>
    have hl : l.length ≤ 4 := taking_len h
    have hp := pad_to (d := 1) rfl hl
    obtain ⟨s, hs, e⟩ := slot_bind (take_some h)
    cases e
    refine ⟨by decide, hl, by rw [hp]; show (Rust.slotOf 1 (l.getD 0 .undef)).bind _ = _; rw [hs]; rfl, fun wd z => by rw [hp]; exact and_r z, fun i z => ⟨s, ?_⟩⟩
    have i0 : i = 0 := Nat.lt_one_iff.mp z
    rw [hp, i0]
    exact hs
  | 2, h =>
    have hl : l.length ≤ 4 := taking_len h
    have hp := pad_to (d := 2) rfl hl
    obtain ⟨s, hs, e⟩ := slot_bind (take_some h)
    cases e
    refine ⟨by decide, hl, by rw [hp]; show (Rust.slotOf 1 (l.getD 0 .undef)).bind _ = _; rw [hs]; rfl, fun wd z => by rw [hp]; exact and_r z, fun i z => ⟨s, ?_⟩⟩
    have i0 : i = 0 := Nat.lt_one_iff.mp z
    rw [hp, i0]
    exact hs
  | 3, h =>
    have hl : l.length ≤ 3 := taking_len h
    have hp := pad_to (d := 3) rfl hl
    obtain ⟨s, hs, e⟩ := slot_bind (take_some h)
    cases e
    refine ⟨by decide, hl, by rw [hp]; show (Rust.slotOf 1 (l.getD 0 .undef)).bind _ = _; rw [hs]; rfl, fun wd z => by rw [hp]; exact and_r z, fun i z => ⟨s, ?_⟩⟩
    have i0 : i = 0 := Nat.lt_one_iff.mp z
    rw [hp, i0]
    exact hs
  | 4, h =>
    have hl : l.length ≤ 3 := taking_len h
    have hp := pad_to (d := 4) rfl hl
    obtain ⟨s, hs, e⟩ := slot_bind (take_some h)
    cases e
    refine ⟨by decide, hl, by rw [hp]; show (Rust.slotOf 1 (l.getD 0 .undef)).bind _ = _; rw [hs]; rfl, fun wd z => by rw [hp]; exact and_r z, fun i z => ⟨s, ?_⟩⟩
    have i0 : i = 0 := Nat.lt_one_iff.mp z
    rw [hp, i0]
    exact hs
  | 5, h =>
    have hl : l.length ≤ 3 := taking_len h
    have hp := pad_to (d := 5) rfl hl
    obtain ⟨s, hs, e⟩ := slot_bind (take_some h)
    cases e
    refine ⟨by decide, hl, by rw [hp]; show (Rust.slotOf 1 (l.getD 0 .undef)).bind _ = _; rw [hs]; rfl, fun wd z => by rw [hp]; exact and_r z, fun i z => ⟨s, ?_⟩⟩
    have i0 : i = 0 := Nat.lt_one_iff.mp z
    rw [hp, i0]
    exact hs
  | 6, h =>
    have hl : l.length ≤ 3 := taking_len h
    have hp := pad_to (d := 6) rfl hl
    obtain ⟨s, hs, e⟩ := slot_bind (take_some h)
    cases e
    refine ⟨by decide, hl, by rw [hp]; show (Rust.slotOf 1 (l.getD 0 .undef)).bind _ = _; rw [hs]; rfl, fun wd z => by rw [hp]; exact and_r z, fun i z => ⟨s, ?_⟩⟩
    have i0 : i = 0 := Nat.lt_one_iff.mp z
    rw [hp, i0]
    exact hs
  | 7, h =>
    have hl : l.length ≤ 2 := taking_len h
    have hp := pad_to (d := 7) rfl hl
    obtain ⟨s, hs, e⟩ := slot_bind (take_some h)
    cases e
    refine ⟨by decide, hl, by rw [hp]; show (Rust.slotOf 1 (l.getD 0 .undef)).bind _ = _; rw [hs]; rfl, fun wd z => by rw [hp]; exact and_r z, fun i z => ⟨s, ?_⟩⟩
    have i0 : i = 0 := Nat.lt_one_iff.mp z
    rw [hp, i0]
    exact hs
  | 8, h =>
    have hl : l.length ≤ 2 := taking_len h
    have hp := pad_to (d := 8) rfl hl
    obtain ⟨s, hs, e⟩ := slot_bind (take_some h)
    cases e
    refine ⟨by decide, hl, by rw [hp]; show (Rust.slotOf 1 (l.getD 0 .undef)).bind _ = _; rw [hs]; rfl, fun wd z => by rw [hp]; exact and_r z, fun i z => ⟨s, ?_⟩⟩
    have i0 : i = 0 := Nat.lt_one_iff.mp z
    rw [hp, i0]
    exact hs
  | 9, h =>
    have hl : l.length ≤ 2 := taking_len h
    have hp := pad_to (d := 9) rfl hl
    obtain ⟨s, hs, e⟩ := slot_bind (take_some h)
    cases e
    refine ⟨by decide, hl, by rw [hp]; show (Rust.slotOf 1 (l.getD 0 .undef)).bind _ = _; rw [hs]; rfl, fun wd z => by rw [hp]; exact and_r z, fun i z => ⟨s, ?_⟩⟩
    have i0 : i = 0 := Nat.lt_one_iff.mp z
    rw [hp, i0]
    exact hs
  | 10, h =>
    have hl : l.length ≤ 3 := taking_len h
    have hp := pad_to (d := 10) rfl hl
    obtain ⟨s, hs, e⟩ := slot_bind (take_some h)
    cases e
    refine ⟨by decide, hl, by rw [hp]; show (Rust.slotOf 1 (l.getD 0 .undef)).bind _ = _; rw [hs]; rfl, fun wd z => by rw [hp]; exact and_r z, fun i z => ⟨s, ?_⟩⟩
    have i0 : i = 0 := Nat.lt_one_iff.mp z
    rw [hp, i0]
    exact hs
  | 11, h =>
    have hl : l.length ≤ 3 := taking_len h
    have hp := pad_to (d := 11) rfl hl
    obtain ⟨s, hs, e⟩ := slot_bind (take_some h)
    cases e
    refine ⟨by decide, hl, by rw [hp]; show (Rust.slotOf 1 (l.getD 0 .undef)).bind _ = _; rw [hs]; rfl, fun wd z => by rw [hp]; exact and_r z, fun i z => ⟨s, ?_⟩⟩
    have i0 : i = 0 := Nat.lt_one_iff.mp z
    rw [hp, i0]
    exact hs
  | 12, h =>
    have hl : l.length ≤ 2 := taking_len h
    have hp := pad_to (d := 12) rfl hl
    obtain ⟨s, hs, e⟩ := slot_bind (take_some h)
    cases e
    refine ⟨by decide, hl, by rw [hp]; show (Rust.slotOf 1 (l.getD 0 .undef)).bind _ = _; rw [hs]; rfl, fun wd z => by rw [hp]; exact and_r z, fun i z => ⟨s, ?_⟩⟩
    have i0 : i = 0 := Nat.lt_one_iff.mp z
    rw [hp, i0]
    exact hs
  | 13, h =>
    have hl : l.length ≤ 2 := taking_len h
    have hp := pad_to (d := 13) rfl hl
    obtain ⟨s, hs, e⟩ := slot_bind (take_some h)
    cases e
    refine ⟨by decide, hl, by rw [hp]; show (Rust.slotOf 1 (l.getD 0 .undef)).bind _ = _; rw [hs]; rfl, fun wd z => by rw [hp]; exact and_r z, fun i z => ⟨s, ?_⟩⟩
    have i0 : i = 0 := Nat.lt_one_iff.mp z
    rw [hp, i0]
    exact hs
  | 14, h =>
    have hl : l.length ≤ 2 := taking_len h
    have hp := pad_to (d := 14) rfl hl
    obtain ⟨s, hs, e⟩ := slot_bind (take_some h)
    cases e
    refine ⟨by decide, hl, by rw [hp]; show (Rust.slotOf 1 (l.getD 0 .undef)).bind _ = _; rw [hs]; rfl, fun wd z => by rw [hp]; exact and_r z, fun i z => ⟨s, ?_⟩⟩
    have i0 : i = 0 := Nat.lt_one_iff.mp z
    rw [hp, i0]
    exact hs
  | 15, h =>
    have hl : l.length ≤ 2 := taking_len h
    have hp := pad_to (d := 15) rfl hl
    obtain ⟨s, hs, e⟩ := slot_bind (take_some h)
    cases e
    refine ⟨by decide, hl, by rw [hp]; show (Rust.slotOf 1 (l.getD 0 .undef)).bind _ = _; rw [hs]; rfl, fun wd z => by rw [hp]; exact and_r z, fun i z => ⟨s, ?_⟩⟩
    have i0 : i = 0 := Nat.lt_one_iff.mp z
    rw [hp, i0]
    exact hs
  | 16, h =>
    have hl : l.length ≤ 1 := taking_len h
    have hp := pad_to (d := 16) rfl hl
    obtain ⟨s, hs, e⟩ := slot_bind (take_some h)
    cases e
    refine ⟨by decide, hl, by rw [hp]; show (Rust.slotOf 1 (l.getD 0 .undef)).bind _ = _; rw [hs]; rfl, fun wd z => by rw [hp]; show R7237f.Spec.fits [] = true; decide, fun i z => ⟨s, ?_⟩⟩
    have i0 : i = 0 := Nat.lt_one_iff.mp z
    rw [hp, i0]
    exact hs
  | 17, h =>
    have hl : l.length ≤ 4 := taking_len h
    have hp := pad_to (d := 17) rfl hl
    obtain ⟨s, hs, e⟩ := slot_bind (take_some h)
    obtain ⟨t, ht, e⟩ := slot_bind e
    cases e
    refine ⟨by decide, hl, by rw [hp]; show (Rust.slotOf 1 (l.getD 0 .undef)).bind (fun s0 => (Rust.slotOf 1 (l.getD 1 .undef)).bind fun s1 => _) = _; rw [hs, ht]; rfl, fun wd z => by rw [hp]; exact and_r z, fun i z => ?_⟩
    rw [hp]
    match i, z with
    | 0, _ => exact ⟨s, hs⟩
    | 1, _ => exact ⟨t, ht⟩
    | n + 2, z => exact absurd z (by show ¬ n + 2 < 2; omega)
  | 18, h =>
    have hl : l.length ≤ 1 := taking_len h
    have hp := pad_to (d := 18) rfl hl
    obtain ⟨s, hs, e⟩ := slot_bind (take_some h)
    cases e
    refine ⟨by decide, hl, by rw [hp]; show (Rust.slotOf 1 (l.getD 0 .undef)).bind _ = _; rw [hs]; rfl, fun wd z => by rw [hp]; show R7237f.Spec.fits [] = true; decide, fun i z => ⟨s, ?_⟩⟩
    have i0 : i = 0 := Nat.lt_one_iff.mp z
    rw [hp, i0]
    exact hs
  | 19, h =>
    have hl : l.length ≤ 2 := taking_len h
    have hp := pad_to (d := 19) rfl hl
    obtain ⟨s, hs, e⟩ := slot_bind (take_some h)
    cases e
    refine ⟨by decide, hl, by rw [hp]; show (Rust.slotOf 1 (l.getD 0 .undef)).bind _ = _; rw [hs]; rfl, fun wd z => by rw [hp]; exact and_r z, fun i z => ⟨s, ?_⟩⟩
    have i0 : i = 0 := Nat.lt_one_iff.mp z
    rw [hp, i0]
    exact hs
  | n + 20, h =>
    exfalso
    unfold Rust.callOf at h
    by_cases z : (n + 20) / 16 = 1
    · rw [z] at h
      exact absurd h (by show (none : Option Call) ≠ some cl; exact fun z => by cases z)
    · match q : (n + 20) / 16, z, h with
      | 0, _, _ => omega
      | 1, z, _ => exact z rfl
      | m + 2, _, h => cases h
end Ov
set_option maxHeartbeats 4000000
/-! S8: what the document asks, as the walk of answers wants it. -/
namespace Ov
open PySem PySem.Spec PyProof.Rows L2
open R7237f.Spec (Plain Ans Call)
theorem size_pos : ∀ (n : Nat) (p : Plain), 1 ≤ Plain.size n p
  | n, .undef => by cases n <;> exact Nat.le_refl _
  | n, .null => by cases n <;> exact Nat.le_refl _
  | n, .bool _ => by cases n <;> exact Nat.le_refl _
  | n, .num _ => by cases n <;> exact Nat.le_refl _
  | n, .big _ => by cases n <;> exact Nat.le_refl _
  | n, .str s => by cases n <;> exact Nat.succ_le_succ (Nat.zero_le _)
  | 0, .arr _ => Nat.le_refl _
  | 0, .obj _ => Nat.le_refl _
  | n + 1, .arr xs => Nat.succ_le_succ (Nat.zero_le _)
  | n + 1, .obj fs => Nat.succ_le_succ (Nat.zero_le _)
theorem sum_ge {α : Type} {f : α → Nat} : ∀ {l : List α}, (∀ a ∈ l, 1 ≤ f a) → l.length ≤ (l.map f).sum
  | [], _ => Nat.le_refl _
  | a :: r, h => by
    rw [List.map_cons, List.sum_cons, List.length_cons]
    have := sum_ge (l := r) (f := f) fun b m => h b (List.mem_cons_of_mem _ m)
    have := h a List.mem_cons_self
    omega
theorem mem_sum {α : Type} {f : α → Nat} {a : α} : ∀ {l : List α}, a ∈ l → f a ≤ (l.map f).sum
  | b :: r, h => by
    rw [List.map_cons, List.sum_cons]
    rcases List.mem_cons.mp h with rfl | h
    · omega
    · have := mem_sum (f := f) h
      omega
theorem fits_few {l : List Plain} (h : R7237f.Spec.fits l = true) {xs : List Plain} (m : Plain.arr xs ∈ l) : xs.length ≤ 1000000 := by
  unfold R7237f.Spec.fits at h
  rw [Bool.and_eq_true] at h
  have h2 : (l.map (Plain.size 8)).sum ≤ 10000 := of_decide_eq_true h.2
  have h3 := mem_sum (f := Plain.size 8) m
  have h4 : Plain.size 8 (.arr xs) = (xs.map (Plain.size 7)).sum + 1 := by rw [Plain.size]
  have h5 := sum_ge (l := xs) (f := Plain.size 7) fun a _ => size_pos 7 a
  omega
theorem few_all {d : Nat} {l : List Plain} {cl : Call} (A : Asks d l cl) {wd : R7237f.Spec.World} (hin : R7237f.Spec.within wd cl = true) : ∀ p ∈ padded d l, ∀ xs, p = .arr xs → xs.length ≤ 1000000 := by
  intro p hp xs e
  subst e
  rw [← List.take_append_drop (slotsL.getD d 0) (padded d l)] at hp
  rcases List.mem_append.mp hp with hp | hp
  · obtain ⟨i, hi⟩ := List.mem_iff_getElem?.mp hp
    rw [List.getElem?_take] at hi
    by_cases c : i < slotsL.getD d 0
    · rw [if_pos c] at hi
      obtain ⟨s, hs⟩ := A.slot i c
      rw [List.getD_eq_getElem?_getD, hi] at hs
      cases hs
    · rw [if_neg c] at hi
      cases hi
  · exact fits_few (A.fit wd hin) hp
def reps : R7237f.Spec.World → List (List UInt8) → List (List UInt8)
  | _, [] => []
  | w, b :: r => (Rust.step w b).2 :: reps (Rust.step w b).1 r
theorem clean_all {l : List RWire.Value} (h : Rust.ofKinds l = true) : ∀ v ∈ l, clean v = true := by
  unfold Rust.ofKinds at h
  rw [Bool.and_eq_true, Bool.and_eq_true] at h
  have a : RWire.noBigMany l = true := h.1.1
  have b : RWire.noOctetsMany l = true := h.1.2
  have c : RWire.noWideMany l = true := h.2
  refine clean_list (l := l) ?_
  unfold clean
  show (RWire.noBigMany l && (RWire.noOctetsMany l && RWire.noWideMany l)) = true
  rw [a, b, c]
  rfl
theorem asked_some {b : List UInt8} {cl : Call} (h : Rust.asked b = some cl) : ∃ d ls, RWire.readRequest b = some (d, ls) ∧ Rust.ofKinds ls = true ∧ Rust.callOf d (ls.map Rust.taken) = some cl := by
  unfold Rust.asked at h
  cases q : RWire.readRequest b with
  | none => rw [q] at h; cases h
  | some p =>
    obtain ⟨d, ls⟩ := p
    rw [q] at h
    dsimp only at h
    by_cases k : Rust.ofKinds ls = true
    · rw [if_pos k] at h
      exact ⟨d, ls, rfl, k, by rw [← takenAll_map]; exact h⟩
    · rw [if_neg k] at h
      cases h
theorem goes_go : ∀ (bs : List (List UInt8)) (wd : R7237f.Spec.World) (left c : Nat), WInv c wd → c + 2 * bs.length + 1 ≤ 10000 → (∀ b ∈ bs, b.length ≤ 1000000) → Rust.goes wd left bs = true → Goes wd bs (reps wd bs) ∧ ((reps wd bs).map List.length).sum ≤ left
  | [], wd, left, c, _, _, _, _ => ⟨rfl, Nat.zero_le _⟩
  | b :: r, wd, left, c, hw, hc, hb, h => by
    rw [Rust.goes] at h
    cases q : Rust.asked b with
    | none => rw [q] at h; cases h
    | some cl =>
      rw [q] at h
      dsimp only at h
      rw [Bool.and_eq_true, Bool.and_eq_true, Bool.and_eq_true, Bool.and_eq_true] at h
      obtain ⟨⟨⟨⟨h1, h2⟩, h3⟩, h4⟩, h5⟩ := h
      have es : Rust.step wd b = ((R7237f.Spec.step wd cl).1, RWire.writeAnswer (Rust.answerOf (R7237f.Spec.step wd cl).2)) := by
        unfold Rust.step
        rw [q]
        dsimp only
        rw [if_pos h1]
      have hin : R7237f.Spec.within wd cl = true := by
        unfold Rust.canBe at h1
        rw [Bool.and_eq_true] at h1
        exact h1.1
      rw [es] at h3 h4 h5
      have h3 : (RWire.writeAnswer (Rust.answerOf (R7237f.Spec.step wd cl).2)).length ≤ 65536 := Nat.le_of_ble_eq_true h3
      have h4 : (RWire.writeAnswer (Rust.answerOf (R7237f.Spec.step wd cl).2)).length ≤ left := Nat.le_of_ble_eq_true h4
      have h5 : Rust.goes (R7237f.Spec.step wd cl).1 (left - (RWire.writeAnswer (Rust.answerOf (R7237f.Spec.step wd cl).2)).length) r = true := h5
      rw [List.length_cons] at hc
      obtain ⟨g1, g2⟩ := goes_go r (R7237f.Spec.step wd cl).1 _ (c + 2) (hw.step hin) (by omega) (fun x m => hb x (List.mem_cons_of_mem _ m)) h5
      obtain ⟨d, ls, e1, e2, e3⟩ := asked_some q
      have A := asks e3
      rw [reps, es]
      refine ⟨⟨cl, _, _, ⟨hw.good (by omega), hb b List.mem_cons_self, ⟨d, ls, e1, clean_all e2, A.lt, by have := A.len; rwa [List.length_map] at this, A.fit wd hin, few_all A hin, A.same⟩, hin, ?_⟩, rfl, rfl, Nat.le_trans h3 (by decide), g1⟩, ?_⟩
      · intro p ep
        rw [ep] at h2 h3
        have h2 : (Rust.narrow p && RWire.writable (Rust.given p)) = true := h2
        rw [Bool.and_eq_true] at h2
        have w := h2.2
        unfold RWire.writable at w
        rw [Bool.and_eq_true] at w
        have h3 : (RWire.write (Rust.given p)).length + 1 ≤ 65536 := h3
        exact ⟨h2.1, of_decide_eq_true w.2, by omega⟩
      · rw [List.map_cons, List.sum_cons]
        show (RWire.writeAnswer (Rust.answerOf (R7237f.Spec.step wd cl).2)).length + _ ≤ left
        have g2 : ((reps (R7237f.Spec.step wd cl).1 r).map List.length).sum ≤ left - (RWire.writeAnswer (Rust.answerOf (R7237f.Spec.step wd cl).2)).length := g2
        show (RWire.writeAnswer (Rust.answerOf (R7237f.Spec.step wd cl).2)).length + ((reps (R7237f.Spec.step wd cl).1 r).map List.length).sum ≤ left
        omega
theorem reps_len : ∀ (bs : List (List UInt8)) (wd : R7237f.Spec.World), (reps wd bs).length = bs.length
  | [], _ => rfl
  | b :: r, wd => by
    rw [reps, List.length_cons, List.length_cons, reps_len r]
/-! the flat lists -/
theorem row_some {l x t : List Int} (h : PyFlat.row l = some (x, t)) : l = (x.length : Int) :: (x ++ t) := by
  match l, h with
  | [], h => cases h
  | n :: r, h =>
    unfold PyFlat.row at h
    dsimp only at h
    by_cases c : 0 ≤ n ∧ n.toNat ≤ r.length
    · rw [if_pos c] at h
      cases h
      rw [List.length_take, Nat.min_eq_left c.2, List.take_append_drop, Int.toNat_of_nonneg c.1]
    · rw [if_neg c] at h
      cases h
theorem call_some {l : List Int} {cc : List (List Int)} {t : List Int} (h : PyFlat.call PyZr66.shape l = some (cc, t)) : ∃ x : List Int, cc = [[0], x] ∧ l = 0 :: (x.length : Int) :: (x ++ t) := by
  match l, h with
  | [], h => cases h
  | p :: r, h =>
    unfold PyFlat.call at h
    dsimp only at h
    by_cases c : p = 0
    · have e : PyZr66.shape p = some (0, 1) := if_pos c
      rw [e] at h
      dsimp only at h
      rw [if_neg (Nat.not_lt_zero _)] at h
      cases q : PyFlat.row (r.drop 0) with
      | none => rw [PyFlat.rows, q] at h; cases h
      | some xs =>
        obtain ⟨x, s⟩ := xs
        rw [PyFlat.rows, q] at h
        dsimp only at h
        rw [PyFlat.rows] at h
        dsimp only at h
        cases h
        subst c
        exact ⟨x, rfl, congrArg (List.cons (0 : Int)) (row_some (l := r) q)⟩
    · have e : PyZr66.shape p = none := if_neg c
      rw [e] at h
      cases h
theorem calls_some : ∀ (f : Nat) (l : List Int) (cs : List (List (List Int))), PyFlat.calls PyZr66.shape f l = some cs → ∃ rs : List (List Int), cs.map PyZr66.whole = rs.map (fun r => [r]) ∧ l = rs.flatMap fun r => 0 :: (r.length : Int) :: r
  | f, [], cs, h => by
    have : cs = [] := by
      cases f <;> (rw [PyFlat.calls] at h; cases h; rfl)
    subst this
    exact ⟨[], rfl, rfl⟩
  | 0, p :: r, cs, h => by rw [PyFlat.calls] at h; cases h
  | f + 1, p :: r, cs, h => by
    rw [PyFlat.calls] at h
    cases q : PyFlat.call PyZr66.shape (p :: r) with
    | none => rw [q] at h; cases h
    | some ct =>
      obtain ⟨cc, t⟩ := ct
      rw [q] at h
      dsimp only at h
      cases q2 : PyFlat.calls PyZr66.shape f t with
      | none => rw [q2] at h; cases h
      | some cs' =>
        rw [q2] at h
        cases h
        obtain ⟨x, rfl, el⟩ := call_some q
        obtain ⟨rs, e1, e2⟩ := calls_some f t cs' q2
        refine ⟨x :: rs, ?_, ?_⟩
        · rw [List.map_cons, List.map_cons, e1]
          rfl
        · rw [el, e2, List.flatMap_cons]
          rfl
theorem octV_bytes {r : List Int} (h : Zr66Neutral.asked1 r = true) : octV (Zr66Neutral.bytesOf r) = r.map V.int := by
  unfold octV Zr66Neutral.bytesOf
  rw [List.map_map]
  refine List.map_congr_left fun n hn => ?_
  have := List.all_eq_true.mp h n hn
  rw [Bool.and_eq_true] at this
  have h1 : 0 ≤ n := of_decide_eq_true this.1
  have h2 : n ≤ 255 := of_decide_eq_true this.2
  show V.int ((UInt8.ofNat n.toNat).toNat : Int) = V.int n
  rw [UInt8.toNat_ofNat', Nat.mod_eq_of_lt (by omega), Int.toNat_of_nonneg h1]
theorem flatC_eq : ∀ (rs : List (List Int)), (∀ r ∈ rs, Zr66Neutral.asked1 r = true) → (rs.flatMap fun r => 0 :: (r.length : Int) :: r).map V.int = flatC (rs.map Zr66Neutral.bytesOf)
  | [], _ => rfl
  | r :: rs, h => by
    unfold flatC
    rw [List.map_cons, List.flatMap_cons, List.flatMap_cons, List.map_append, octV_bytes (h r List.mem_cons_self)]
    have ih := flatC_eq rs fun x m => h x (List.mem_cons_of_mem _ m)
    unfold flatC at ih
    rw [ih]
    unfold Zr66Neutral.bytesOf
    rw [List.length_map]
    rfl
theorem octV_numbers (o : List UInt8) : (Zr66Neutral.numbersOf o).map V.int = octV o := by
  unfold octV Zr66Neutral.numbersOf
  rw [List.map_map]
  rfl
theorem played_eq : ∀ (rs : List (List Int)) (s : R7237f.Spec.World), PyFlat.played (fun s c => Zr66Neutral.step s (c.headD [])) s (rs.map fun r => [r]) = (reps s (rs.map Zr66Neutral.bytesOf)).map Zr66Neutral.numbersOf
  | [], _ => rfl
  | r :: rs, s => by
    rw [List.map_cons, PyFlat.played, List.map_cons, reps, List.map_cons, ← played_eq rs]
    rfl
theorem flatA_eq : ∀ (os : List (List UInt8)), (PyFlat.told (os.map Zr66Neutral.numbersOf)).map V.int = flatA os
  | [] => rfl
  | o :: os => by
    have ih := flatA_eq os
    unfold PyFlat.told flatA at ih ⊢
    rw [List.map_cons, List.flatMap_cons, List.flatMap_cons, List.map_append, ih]
    congr 1
    rw [List.map_cons, octV_numbers]
    unfold Zr66Neutral.numbersOf
    rw [List.length_map]
theorem flatA_len : ∀ (os : List (List UInt8)), (flatA os).length = os.length + (os.map List.length).sum
  | [] => rfl
  | o :: os => by
    have ih := flatA_len os
    unfold flatA at ih ⊢
    rw [List.flatMap_cons, List.length_append, ih, List.map_cons, List.sum_cons, List.length_cons, List.length_cons]
    unfold octV
    rw [List.length_map]
    omega
/-- what is asked and what is due, as the walk has them -/
theorem law_plain {l : List Int} (h : PyZr66.answers_asked l = true) : ∃ bs os, l.map V.int = flatC bs ∧ (PyZr66.answers l).map V.int = flatA os ∧ (flatA os).length ≤ 9000000 ∧ Goes R7237f.Spec.World.start bs os := by
  unfold PyZr66.answers_asked at h
  cases q : PyZr66.calls l with
  | none => rw [q] at h; cases h
  | some cs =>
    rw [q] at h
    dsimp only at h
    rw [Bool.and_eq_true, Bool.and_eq_true] at h
    obtain ⟨⟨_, h2⟩, _⟩ := h
    have ea : PyZr66.answers l = PyFlat.told (PyFlat.played (fun s c => Zr66Neutral.step s (c.headD [])) Zr66Neutral.start cs) := by
      unfold PyZr66.answers
      rw [q]
    unfold PyZr66.calls at q
    cases q1 : PyFlat.calls PyZr66.shape l.length l with
    | none => rw [q1] at q; cases q
    | some cs1 =>
      rw [q1] at q
      cases q
      obtain ⟨rs, e1, e2⟩ := calls_some _ _ _ q1
      rw [e1] at h2 ea
      rw [List.map_map] at h2
      have e3 : rs.map ((fun (c : List (List Int)) => c.headD []) ∘ fun r => [r]) = rs := by
        show rs.map (fun r => r) = rs
        exact List.map_id _
      rw [e3] at h2
      unfold Zr66Neutral.asked at h2
      rw [Bool.and_eq_true, Bool.and_eq_true] at h2
      obtain ⟨a1, _, a3⟩ := h2
      unfold Rust.fits at a3
      rw [Bool.and_eq_true, Bool.and_eq_true, Bool.and_eq_true] at a3
      obtain ⟨⟨⟨b1, b2⟩, _⟩, b4⟩ := a3
      have b1 : (rs.map Zr66Neutral.bytesOf).length ≤ 200 := Nat.le_of_ble_eq_true b1
      obtain ⟨g1, g2⟩ := goes_go (rs.map Zr66Neutral.bytesOf) R7237f.Spec.World.start 4000000 0 start_inv (by omega) (fun b m => by
        have := Nat.le_of_ble_eq_true (List.all_eq_true.mp b2 b m)
        exact Nat.le_trans this (by decide)) b4
      refine ⟨rs.map Zr66Neutral.bytesOf, reps R7237f.Spec.World.start (rs.map Zr66Neutral.bytesOf), ?_, ?_, ?_, g1⟩
      · rw [e2]
        exact flatC_eq rs (List.all_eq_true.mp a1)
      · rw [ea, played_eq]
        exact flatA_eq _
      · rw [flatA_len, reps_len]
        omega
end Ov
set_option maxHeartbeats 0
/-! N1: the facts, as the walk has them (printed by mkhead.py). -/
namespace Ov
open PySem PySem.Spec PyProof.Rows L2
theorem ext_ok {K : PySem.W.Frag} {mg : Str → Option Value} {x : Str} (h : extB K (He.ga K x) = true) (g : mg x = some (.ref (He.ga K x))) (k : PySem.W.keepIn K (.ref (He.ga K x)) = true)
    (d : ∃ fd, FnP K "__init__" "Refusal.__init__" s_Refusal___init__ (He.fAd K ("Refusal", some "__init__")) fd) : ExT K mg x (He.ga K x) := by
  obtain ⟨h1, h⟩ := He.ba h
  obtain ⟨h2, h⟩ := He.ba h
  obtain ⟨h3, h⟩ := He.ba h
  obtain ⟨h4, h⟩ := He.ba h
  obtain ⟨h5, h⟩ := He.ba h
  obtain ⟨h6, h7⟩ := He.ba h
  obtain ⟨fd, F⟩ := d
  exact ⟨g, extIn_ok h1, He.eqO_ok h2, xfB_ok h3, He.eqO_ok h4, ⟨_, fd, F, He.eqO_ok h5, of_decide_eq_true h6⟩, k, of_decide_eq_true h7⟩
theorem tup_ints {K : PySem.W.Frag} {x : Str} {l : List Int} (h : He.tupB K x (l.map He.Dv.int) = true) (H : Hp) : SqT K H (He.ga K x) (l.map V.int) := by
  have z := He.tupB_ok h H
  rw [List.map_map] at z
  exact z
theorem noat_nil {K : PySem.W.Frag} {C : Addr} : ∀ f ∈ ([] : List Str), NoAttr K C f := fun f h => by cases h
theorem noat_cons {K : PySem.W.Frag} {C : Addr} {f : Str} {l : List Str} (a : NoAttr K C f) (b : ∀ f ∈ l, NoAttr K C f) : ∀ g ∈ f :: l, NoAttr K C g := fun g h => by
  rcases List.mem_cons.mp h with rfl | h
  · exact a
  · exact b g h
theorem fs_of {K : PySem.W.Frag} {mg : Str → Option Value} {x : Str} {st : Stmt} (g : mg x = some (.ref (He.ga K x))) (d : ∃ fd, FnP K x x st (He.fAd K (x, none)) fd) : Fs K mg x st :=
  d.elim fun fd F => ⟨_, fd, F, g⟩
theorem ms_of {K : PySem.W.Frag} {X m qual : Str} {st : Stmt} (g : Meth K (He.ga K X) m (He.ma K (He.ga K X) m)) (d : ∃ fd, FnP K m qual st (He.fAd K (X, some m)) fd) : Ms K (He.ga K X) m qual st :=
  d.elim fun fd F => ⟨_, fd, F, g⟩
theorem mks_of {K : PySem.W.Frag} {mg : Str → Option Value} {x qual : Str} {st : Stmt} (g : mg x = some (.ref (He.ga K x))) (m : Mk K (He.ga K x) (He.ma K (He.ga K x) "__init__")) (d : ∃ fd, FnP K "__init__" qual st (He.fAd K (x, some "__init__")) fd) : Mks K mg x qual st :=
  d.elim fun fd F => ⟨_, fd, F, m, g⟩
section
variable {K : PySem.W.Frag}
theorem SaysM.bools (c : SaysM K) : ((faLA.all fun f => f.ok K) && ((fnLA.all fun d => d.ok K) && (He.tupB K "ARGUMENTS" (tupA.map He.Dv.int) && (He.tupB K "SLOTS" (tupS.map He.Dv.int) && (extB K (He.ga K "WrongKind") && extB K (He.ga K "OutOfRange")))))) = true := congrArg (fun z : AlM => z.1) c
theorem SaysM.fact (c : SaysM K) (i : Nat) {f : He.Fa} (h : faLA[i]? = some f := by rfl) : f.ok K = true := List.all_eq_true.mp (He.ba c.bools).1 f (List.mem_of_getElem? h)
theorem SaysM.t1 (c : SaysM K) : He.tupB K "ARGUMENTS" (tupA.map He.Dv.int) = true := (He.ba (He.ba (He.ba c.bools).2).2).1
theorem SaysM.t2 (c : SaysM K) : He.tupB K "SLOTS" (tupS.map He.Dv.int) = true := (He.ba (He.ba (He.ba (He.ba c.bools).2).2).2).1
theorem SaysM.e1 (c : SaysM K) : extB K (He.ga K "WrongKind") = true := (He.ba (He.ba (He.ba (He.ba (He.ba c.bools).2).2).2).2).1
theorem SaysM.e2 (c : SaysM K) : extB K (He.ga K "OutOfRange") = true := (He.ba (He.ba (He.ba (He.ba (He.ba c.bools).2).2).2).2).2
theorem SaysM.defA (c : SaysM K) (i : Nat) {d : He.DefD} (h : fnLA[i]? = some d) : ∃ fd, FunD K d.name d.qual d.params d.body d.scope (d.dvs K) (d.kws K) (He.fAd K d.at_) fd := by
  have c2 := (He.ba (He.ba c.bools).2).1
  have e : fnLA.map (fun d => He.fnW K d.at_) = fnLA.map He.DefD.val := congrArg (fun z : AlM => z.2) c
  have e2 : (fnLA.map fun d => He.fnW K d.at_)[i]? = (fnLA.map He.DefD.val)[i]? := by rw [e]
  rw [List.getElem?_map, List.getElem?_map, h] at e2
  exact He.DefD.funD (Option.some.inj e2) (List.all_eq_true.mp c2 d (List.mem_of_getElem? h))
def IsDef (K : PySem.W.Frag) : Option He.DefD → Prop
  | some d => ∃ fd, FunD K d.name d.qual d.params d.body d.scope (d.dvs K) (d.kws K) (He.fAd K d.at_) fd
  | none => True
theorem SaysM.def_ (c : SaysM K) (i : Nat) : IsDef K fnLA[i]? := by
  cases h : fnLA[i]? with
  | some d => exact c.defA i h
  | none => trivial
end
section
variable {K : PySem.W.Frag} {h : Heap} {mg : Str → Option Value}
/-- all that the walk leans on -/
structure AllF (K : PySem.W.Frag) (mg : Str → Option Value) : Prop where
  T : TxtX K mg
  f_nothing : Fs K mg "nothing" s_nothing
  f_null : Fs K mg "null" s_null
  f_boolean : Fs K mg "boolean" s_boolean
  f_integer : Fs K mg "integer" s_integer
  f_octets_of : Fs K mg "octets_of" s_octets_of
  f_text : Fs K mg "text" s_text
  f_listing : Fs K mg "listing" s_listing
  f_integers : Fs K mg "integers" s_integers
  f_record : Fs K mg "record" s_record
  f_is_boolean : Fs K mg "is_boolean" s_is_boolean
  f_is_integer : Fs K mg "is_integer" s_is_integer
  f_member : Fs K mg "member" s_member
  f_entry_octets : Fs K mg "entry_octets" s_entry_octets
  f_change_at : Fs K mg "change_at" s_change_at
  f_entry_size : Fs K mg "entry_size" s_entry_size
  f_entry_at : Fs K mg "entry_at" s_entry_at
  f_read_entries : Fs K mg "read_entries" s_read_entries
  f_read_changes : Fs K mg "read_changes" s_read_changes
  f_change_record : Fs K mg "change_record" s_change_record
  f_change_records : Fs K mg "change_records" s_change_records
  f_lock_of : Fs K mg "lock_of" s_lock_of
  f_cached : Fs K mg "cached" s_cached
  f_entries_under_way : Fs K mg "entries_under_way" s_entries_under_way
  f_has_block : Fs K mg "has_block" s_has_block
  f_transaction_under_way : Fs K mg "transaction_under_way" s_transaction_under_way
  f_change_under_way : Fs K mg "change_under_way" s_change_under_way
  f_journal_need : Fs K mg "journal_need" s_journal_need
  f_is_lost : Fs K mg "is_lost" s_is_lost
  f_node_number : Fs K mg "node_number" s_node_number
  f_running_node : Fs K mg "running_node" s_running_node
  f_block_number : Fs K mg "block_number" s_block_number
  f_need_held : Fs K mg "need_held" s_need_held
  f_need_alone : Fs K mg "need_alone" s_need_alone
  f_need_still : Fs K mg "need_still" s_need_still
  f_need_room : Fs K mg "need_room" s_need_room
  f_is_held_against : Fs K mg "is_held_against" s_is_held_against
  f_lock_block : Fs K mg "lock_block" s_lock_block
  f_is_flushed : Fs K mg "is_flushed" s_is_flushed
  f_unlock_block : Fs K mg "unlock_block" s_unlock_block
  f_read_block : Fs K mg "read_block" s_read_block
  f_is_pair : Fs K mg "is_pair" s_is_pair
  f_are_pairs : Fs K mg "are_pairs" s_are_pairs
  f_pairs_of : Fs K mg "pairs_of" s_pairs_of
  f_commit_pairs : Fs K mg "commit_pairs" s_commit_pairs
  f_flush_block : Fs K mg "flush_block" s_flush_block
  f_is_needed : Fs K mg "is_needed" s_is_needed
  f_trim_journal : Fs K mg "trim_journal" s_trim_journal
  f_write_of : Fs K mg "write_of" s_write_of
  f_land_write : Fs K mg "land_write" s_land_write
  f_crash_node : Fs K mg "crash_node" s_crash_node
  f_torn_number : Fs K mg "torn_number" s_torn_number
  f_tear : Fs K mg "tear" s_tear
  f_shut_node : Fs K mg "shut_node" s_shut_node
  f_index_of : Fs K mg "index_of" s_index_of
  f_replay_change : Fs K mg "replay_change" s_replay_change
  f_replay_step : Fs K mg "replay_step" s_replay_step
  f_replay_journal : Fs K mg "replay_journal" s_replay_journal
  f_free_step : Fs K mg "free_step" s_free_step
  f_free_locks : Fs K mg "free_locks" s_free_locks
  f_boot_node : Fs K mg "boot_node" s_boot_node
  f_rules_of : Fs K mg "rules_of" s_rules_of
  f_create_volume : Fs K mg "create_volume" s_create_volume
  f_are_octets : Fs K mg "are_octets" s_are_octets
  f_read_journal : Fs K mg "read_journal" s_read_journal
  f_journal_of : Fs K mg "journal_of" s_journal_of
  f_state_record : Fs K mg "state_record" s_state_record
  f_last_of : Fs K mg "last_of" s_last_of
  f_lock_record : Fs K mg "lock_record" s_lock_record
  f_memory_record : Fs K mg "memory_record" s_memory_record
  f_node_record : Fs K mg "node_record" s_node_record
  f_write_record : Fs K mg "write_record" s_write_record
  f_state_of : Fs K mg "state_of" s_state_of
  f_told : Fs K mg "told" s_told
  f_new_recovery : Fs K mg "new_recovery" s_new_recovery
  f_free_if_not_refused : Fs K mg "free_if_not_refused" s_free_if_not_refused
  f_next_of_recovery : Fs K mg "next_of_recovery" s_next_of_recovery
  f_close_of_recovery : Fs K mg "close_of_recovery" s_close_of_recovery
  f_low_octets : Fs K mg "low_octets" s_low_octets
  f_written_text : Fs K mg "written_text" s_written_text
  f_written_elements : Fs K mg "written_elements" s_written_elements
  f_written_members : Fs K mg "written_members" s_written_members
  f_written_value : Fs K mg "written_value" s_written_value
  f_written_return : Fs K mg "written_return" s_written_return
  f_written_refusal : Fs K mg "written_refusal" s_written_refusal
  f_written_malformed : Fs K mg "written_malformed" s_written_malformed
  f_octet_at : Fs K mg "octet_at" s_octet_at
  f_number_at : Fs K mg "number_at" s_number_at
  f_read_integer : Fs K mg "read_integer" s_read_integer
  f_read_text : Fs K mg "read_text" s_read_text
  f_read_list : Fs K mg "read_list" s_read_list
  f_read_record : Fs K mg "read_record" s_read_record
  f_read_value : Fs K mg "read_value" s_read_value
  f_is_digits : Fs K mg "is_digits" s_is_digits
  f_size_of : Fs K mg "size_of" s_size_of
  f_size_of_record : Fs K mg "size_of_record" s_size_of_record
  f_check_limits : Fs K mg "check_limits" s_check_limits
  f_read_request : Fs K mg "read_request" s_read_request
  f_call_volume : Fs K mg "call_volume" s_call_volume
  f_slot_number : Fs K mg "slot_number" s_slot_number
  f_volume_in : Fs K mg "volume_in" s_volume_in
  f_recovery_in : Fs K mg "recovery_in" s_recovery_in
  f_call_create : Fs K mg "call_create" s_call_create
  f_call_recover : Fs K mg "call_recover" s_call_recover
  f_call_door : Fs K mg "call_door" s_call_door
  f_answer_of : Fs K mg "answer_of" s_answer_of
  f_answers : Fs K mg "answers" s_answers
  m_Node_lose : Ms K (cNode K) "lose" "Node.lose" s_Node_lose
  m_Node_close_out : Ms K (cNode K) "close_out" "Node.close_out" s_Node_close_out
  m_Node_begin : Ms K (cNode K) "begin" "Node.begin" s_Node_begin
  m_Node_keep : Ms K (cNode K) "keep" "Node.keep" s_Node_keep
  m_Node_renew : Ms K (cNode K) "renew" "Node.renew" s_Node_renew
  m_Node_leave : Ms K (cNode K) "leave" "Node.leave" s_Node_leave
  m_Node_arrive : Ms K (cNode K) "arrive" "Node.arrive" s_Node_arrive
  m_Node_empty : Ms K (cNode K) "empty" "Node.empty" s_Node_empty
  m_Node_remember : Ms K (cNode K) "remember" "Node.remember" s_Node_remember
  m_Node_told_replayed : Ms K (cNode K) "told_replayed" "Node.told_replayed" s_Node_told_replayed
  m_Node_told_freed : Ms K (cNode K) "told_freed" "Node.told_freed" s_Node_told_freed
  m_Volume_node_at : Ms K (cVol K) "node_at" "Volume.node_at" s_Volume_node_at
  m_Volume_give_lock : Ms K (cVol K) "give_lock" "Volume.give_lock" s_Volume_give_lock
  m_Volume_drop_lock : Ms K (cVol K) "drop_lock" "Volume.drop_lock" s_Volume_drop_lock
  m_Volume_drop_locks : Ms K (cVol K) "drop_locks" "Volume.drop_locks" s_Volume_drop_locks
  m_Volume_put : Ms K (cVol K) "put" "Volume.put" s_Volume_put
  m_Volume_start_write : Ms K (cVol K) "start_write" "Volume.start_write" s_Volume_start_write
  m_Volume_start_transaction : Ms K (cVol K) "start_transaction" "Volume.start_transaction" s_Volume_start_transaction
  m_Volume_settle : Ms K (cVol K) "settle" "Volume.settle" s_Volume_settle
  m_Volume_end_write : Ms K (cVol K) "end_write" "Volume.end_write" s_Volume_end_write
  m_Volume_lose_writes : Ms K (cVol K) "lose_writes" "Volume.lose_writes" s_Volume_lose_writes
  m_Recovery_end : Ms K (cRec K) "end" "Recovery.end" s_Recovery_end
  m_Shelf_fill_volume : Ms K (cShelf K) "fill_volume" "Shelf.fill_volume" s_Shelf_fill_volume
  m_Shelf_fill_recovery : Ms K (cShelf K) "fill_recovery" "Shelf.fill_recovery" s_Shelf_fill_recovery
  i_Node : Mks K mg "Node" "Node.__init__" s_Node___init__
  i_Volume : Mks K mg "Volume" "Volume.__init__" s_Volume___init__
  i_Recovery : Mks K mg "Recovery" "Recovery.__init__" s_Recovery___init__
  i_Shelf : Mks K mg "Shelf" "Shelf.__init__" s_Shelf___init__
theorem all_facts (X : K.In h) (G : h.Ns mainGlobals mg) (c : SaysM K) : AllF K mg where
  T :=
    { i_NOTHING := He.int_ok X G (c.fact 153)
      i_NULL := He.int_ok X G (c.fact 154)
      i_FALSE := He.int_ok X G (c.fact 155)
      i_TRUE := He.int_ok X G (c.fact 156)
      i_INTEGER := He.int_ok X G (c.fact 157)
      i_TEXT := He.int_ok X G (c.fact 158)
      i_LIST := He.int_ok X G (c.fact 159)
      i_RECORD := He.int_ok X G (c.fact 160)
      i_FLUSH := He.int_ok X G (c.fact 161)
      i_SHUT := He.int_ok X G (c.fact 162)
      i_REPLAY := He.int_ok X G (c.fact 163)
      i_VERSIONS := He.int_ok X G (c.fact 164)
      i_GREATEST := He.int_ok X G (c.fact 165)
      g_ARGUMENTS := (He.glo_ok X G (x := "ARGUMENTS") (c.fact 146))
      g_SLOTS := (He.glo_ok X G (x := "SLOTS") (c.fact 147))
      t_ARGUMENTS := fun H => tup_ints c.t1 H
      t_SLOTS := fun H => tup_ints c.t2 H
      z_len := He.free_ok X G (c.fact 148)
      z_range := He.free_ok X G (c.fact 149)
      z_ord := He.free_ok X G (c.fact 150)
      z_list := He.free_ok X G (c.fact 151)
      z_tuple := He.free_ok X G (c.fact 152)
      c_Node := He.cls_ok (x := "Node") (c.fact 107)
      c_Volume := He.cls_ok (x := "Volume") (c.fact 110)
      c_Recovery := He.cls_ok (x := "Recovery") (c.fact 113)
      c_Shelf := He.cls_ok (x := "Shelf") (c.fact 116)
      n_Node := noat_cons (He.noat_ok (x := "Node") (c.fact 175)) (noat_cons (He.noat_ok (x := "Node") (c.fact 176)) (noat_cons (He.noat_ok (x := "Node") (c.fact 177)) (noat_cons (He.noat_ok (x := "Node") (c.fact 178)) (noat_cons (He.noat_ok (x := "Node") (c.fact 179)) (noat_cons (He.noat_ok (x := "Node") (c.fact 180)) (noat_cons (He.noat_ok (x := "Node") (c.fact 181)) (noat_cons (He.noat_ok (x := "Node") (c.fact 182)) (noat_nil))))))))
      n_Volume := noat_cons (He.noat_ok (x := "Volume") (c.fact 183)) (noat_cons (He.noat_ok (x := "Volume") (c.fact 184)) (noat_cons (He.noat_ok (x := "Volume") (c.fact 185)) (noat_cons (He.noat_ok (x := "Volume") (c.fact 186)) (noat_cons (He.noat_ok (x := "Volume") (c.fact 187)) (noat_cons (He.noat_ok (x := "Volume") (c.fact 188)) (noat_cons (He.noat_ok (x := "Volume") (c.fact 189)) (noat_cons (He.noat_ok (x := "Volume") (c.fact 190)) (noat_cons (He.noat_ok (x := "Volume") (c.fact 191)) (noat_cons (He.noat_ok (x := "Volume") (c.fact 192)) (noat_nil))))))))))
      n_Recovery := noat_cons (He.noat_ok (x := "Recovery") (c.fact 193)) (noat_cons (He.noat_ok (x := "Recovery") (c.fact 194)) (noat_cons (He.noat_ok (x := "Recovery") (c.fact 195)) (noat_cons (He.noat_ok (x := "Recovery") (c.fact 196)) (noat_nil))))
      n_Shelf := noat_cons (He.noat_ok (x := "Shelf") (c.fact 197)) (noat_cons (He.noat_ok (x := "Shelf") (c.fact 198)) (noat_nil))
      x_WrongKind := ext_ok c.e1 (He.glo_ok X G (x := "WrongKind") (c.fact 144)) (He.keep_ok (x := "WrongKind") (c.fact 173)) (c.def_ 134)
      x_OutOfRange := ext_ok c.e2 (He.glo_ok X G (x := "OutOfRange") (c.fact 145)) (He.keep_ok (x := "OutOfRange") (c.fact 174)) (c.def_ 134)
      g_Malformed := (He.glo_ok X G (x := "Malformed") (c.fact 142))
      g_Refusal := (He.glo_ok X G (x := "Refusal") (c.fact 143))
      e_WM := He.exm_ok (x := "WrongKind") (y := "Malformed") (c.fact 166)
      e_OM := He.exm_ok (x := "OutOfRange") (y := "Malformed") (c.fact 167)
      e_WW := He.exm_ok (x := "WrongKind") (y := "WrongKind") (c.fact 168)
      e_OW := He.exm_ok (x := "OutOfRange") (y := "WrongKind") (c.fact 169)
      e_OO := He.exm_ok (x := "OutOfRange") (y := "OutOfRange") (c.fact 170)
      e_WR := He.exm_ok (x := "WrongKind") (y := "Refusal") (c.fact 171)
      e_OR := He.exm_ok (x := "OutOfRange") (y := "Refusal") (c.fact 172) }
  f_nothing := fs_of (He.glo_ok X G (x := "nothing") (c.fact 0)) (c.def_ 0)
  f_null := fs_of (He.glo_ok X G (x := "null") (c.fact 1)) (c.def_ 1)
  f_boolean := fs_of (He.glo_ok X G (x := "boolean") (c.fact 2)) (c.def_ 2)
  f_integer := fs_of (He.glo_ok X G (x := "integer") (c.fact 3)) (c.def_ 3)
  f_octets_of := fs_of (He.glo_ok X G (x := "octets_of") (c.fact 4)) (c.def_ 4)
  f_text := fs_of (He.glo_ok X G (x := "text") (c.fact 5)) (c.def_ 5)
  f_listing := fs_of (He.glo_ok X G (x := "listing") (c.fact 6)) (c.def_ 6)
  f_integers := fs_of (He.glo_ok X G (x := "integers") (c.fact 7)) (c.def_ 7)
  f_record := fs_of (He.glo_ok X G (x := "record") (c.fact 8)) (c.def_ 8)
  f_is_boolean := fs_of (He.glo_ok X G (x := "is_boolean") (c.fact 9)) (c.def_ 9)
  f_is_integer := fs_of (He.glo_ok X G (x := "is_integer") (c.fact 10)) (c.def_ 10)
  f_member := fs_of (He.glo_ok X G (x := "member") (c.fact 11)) (c.def_ 11)
  f_entry_octets := fs_of (He.glo_ok X G (x := "entry_octets") (c.fact 12)) (c.def_ 12)
  f_change_at := fs_of (He.glo_ok X G (x := "change_at") (c.fact 13)) (c.def_ 13)
  f_entry_size := fs_of (He.glo_ok X G (x := "entry_size") (c.fact 14)) (c.def_ 14)
  f_entry_at := fs_of (He.glo_ok X G (x := "entry_at") (c.fact 15)) (c.def_ 15)
  f_read_entries := fs_of (He.glo_ok X G (x := "read_entries") (c.fact 16)) (c.def_ 16)
  f_read_changes := fs_of (He.glo_ok X G (x := "read_changes") (c.fact 17)) (c.def_ 17)
  f_change_record := fs_of (He.glo_ok X G (x := "change_record") (c.fact 18)) (c.def_ 18)
  f_change_records := fs_of (He.glo_ok X G (x := "change_records") (c.fact 19)) (c.def_ 19)
  f_lock_of := fs_of (He.glo_ok X G (x := "lock_of") (c.fact 20)) (c.def_ 20)
  f_cached := fs_of (He.glo_ok X G (x := "cached") (c.fact 21)) (c.def_ 21)
  f_entries_under_way := fs_of (He.glo_ok X G (x := "entries_under_way") (c.fact 22)) (c.def_ 22)
  f_has_block := fs_of (He.glo_ok X G (x := "has_block") (c.fact 23)) (c.def_ 23)
  f_transaction_under_way := fs_of (He.glo_ok X G (x := "transaction_under_way") (c.fact 24)) (c.def_ 24)
  f_change_under_way := fs_of (He.glo_ok X G (x := "change_under_way") (c.fact 25)) (c.def_ 25)
  f_journal_need := fs_of (He.glo_ok X G (x := "journal_need") (c.fact 26)) (c.def_ 26)
  f_is_lost := fs_of (He.glo_ok X G (x := "is_lost") (c.fact 27)) (c.def_ 27)
  f_node_number := fs_of (He.glo_ok X G (x := "node_number") (c.fact 28)) (c.def_ 28)
  f_running_node := fs_of (He.glo_ok X G (x := "running_node") (c.fact 29)) (c.def_ 29)
  f_block_number := fs_of (He.glo_ok X G (x := "block_number") (c.fact 30)) (c.def_ 30)
  f_need_held := fs_of (He.glo_ok X G (x := "need_held") (c.fact 31)) (c.def_ 31)
  f_need_alone := fs_of (He.glo_ok X G (x := "need_alone") (c.fact 32)) (c.def_ 32)
  f_need_still := fs_of (He.glo_ok X G (x := "need_still") (c.fact 33)) (c.def_ 33)
  f_need_room := fs_of (He.glo_ok X G (x := "need_room") (c.fact 34)) (c.def_ 34)
  f_is_held_against := fs_of (He.glo_ok X G (x := "is_held_against") (c.fact 35)) (c.def_ 35)
  f_lock_block := fs_of (He.glo_ok X G (x := "lock_block") (c.fact 36)) (c.def_ 36)
  f_is_flushed := fs_of (He.glo_ok X G (x := "is_flushed") (c.fact 37)) (c.def_ 37)
  f_unlock_block := fs_of (He.glo_ok X G (x := "unlock_block") (c.fact 38)) (c.def_ 38)
  f_read_block := fs_of (He.glo_ok X G (x := "read_block") (c.fact 39)) (c.def_ 39)
  f_is_pair := fs_of (He.glo_ok X G (x := "is_pair") (c.fact 40)) (c.def_ 40)
  f_are_pairs := fs_of (He.glo_ok X G (x := "are_pairs") (c.fact 41)) (c.def_ 41)
  f_pairs_of := fs_of (He.glo_ok X G (x := "pairs_of") (c.fact 42)) (c.def_ 42)
  f_commit_pairs := fs_of (He.glo_ok X G (x := "commit_pairs") (c.fact 43)) (c.def_ 43)
  f_flush_block := fs_of (He.glo_ok X G (x := "flush_block") (c.fact 44)) (c.def_ 44)
  f_is_needed := fs_of (He.glo_ok X G (x := "is_needed") (c.fact 45)) (c.def_ 45)
  f_trim_journal := fs_of (He.glo_ok X G (x := "trim_journal") (c.fact 46)) (c.def_ 46)
  f_write_of := fs_of (He.glo_ok X G (x := "write_of") (c.fact 47)) (c.def_ 47)
  f_land_write := fs_of (He.glo_ok X G (x := "land_write") (c.fact 48)) (c.def_ 48)
  f_crash_node := fs_of (He.glo_ok X G (x := "crash_node") (c.fact 49)) (c.def_ 49)
  f_torn_number := fs_of (He.glo_ok X G (x := "torn_number") (c.fact 50)) (c.def_ 50)
  f_tear := fs_of (He.glo_ok X G (x := "tear") (c.fact 51)) (c.def_ 51)
  f_shut_node := fs_of (He.glo_ok X G (x := "shut_node") (c.fact 52)) (c.def_ 52)
  f_index_of := fs_of (He.glo_ok X G (x := "index_of") (c.fact 53)) (c.def_ 53)
  f_replay_change := fs_of (He.glo_ok X G (x := "replay_change") (c.fact 54)) (c.def_ 54)
  f_replay_step := fs_of (He.glo_ok X G (x := "replay_step") (c.fact 55)) (c.def_ 55)
  f_replay_journal := fs_of (He.glo_ok X G (x := "replay_journal") (c.fact 56)) (c.def_ 56)
  f_free_step := fs_of (He.glo_ok X G (x := "free_step") (c.fact 57)) (c.def_ 57)
  f_free_locks := fs_of (He.glo_ok X G (x := "free_locks") (c.fact 58)) (c.def_ 58)
  f_boot_node := fs_of (He.glo_ok X G (x := "boot_node") (c.fact 59)) (c.def_ 59)
  f_rules_of := fs_of (He.glo_ok X G (x := "rules_of") (c.fact 60)) (c.def_ 60)
  f_create_volume := fs_of (He.glo_ok X G (x := "create_volume") (c.fact 61)) (c.def_ 61)
  f_are_octets := fs_of (He.glo_ok X G (x := "are_octets") (c.fact 62)) (c.def_ 62)
  f_read_journal := fs_of (He.glo_ok X G (x := "read_journal") (c.fact 63)) (c.def_ 63)
  f_journal_of := fs_of (He.glo_ok X G (x := "journal_of") (c.fact 64)) (c.def_ 64)
  f_state_record := fs_of (He.glo_ok X G (x := "state_record") (c.fact 65)) (c.def_ 65)
  f_last_of := fs_of (He.glo_ok X G (x := "last_of") (c.fact 66)) (c.def_ 66)
  f_lock_record := fs_of (He.glo_ok X G (x := "lock_record") (c.fact 67)) (c.def_ 67)
  f_memory_record := fs_of (He.glo_ok X G (x := "memory_record") (c.fact 68)) (c.def_ 68)
  f_node_record := fs_of (He.glo_ok X G (x := "node_record") (c.fact 69)) (c.def_ 69)
  f_write_record := fs_of (He.glo_ok X G (x := "write_record") (c.fact 70)) (c.def_ 70)
  f_state_of := fs_of (He.glo_ok X G (x := "state_of") (c.fact 71)) (c.def_ 71)
  f_told := fs_of (He.glo_ok X G (x := "told") (c.fact 72)) (c.def_ 72)
  f_new_recovery := fs_of (He.glo_ok X G (x := "new_recovery") (c.fact 73)) (c.def_ 73)
  f_free_if_not_refused := fs_of (He.glo_ok X G (x := "free_if_not_refused") (c.fact 74)) (c.def_ 74)
  f_next_of_recovery := fs_of (He.glo_ok X G (x := "next_of_recovery") (c.fact 75)) (c.def_ 75)
  f_close_of_recovery := fs_of (He.glo_ok X G (x := "close_of_recovery") (c.fact 76)) (c.def_ 76)
  f_low_octets := fs_of (He.glo_ok X G (x := "low_octets") (c.fact 77)) (c.def_ 77)
  f_written_text := fs_of (He.glo_ok X G (x := "written_text") (c.fact 78)) (c.def_ 78)
  f_written_elements := fs_of (He.glo_ok X G (x := "written_elements") (c.fact 79)) (c.def_ 79)
  f_written_members := fs_of (He.glo_ok X G (x := "written_members") (c.fact 80)) (c.def_ 80)
  f_written_value := fs_of (He.glo_ok X G (x := "written_value") (c.fact 81)) (c.def_ 81)
  f_written_return := fs_of (He.glo_ok X G (x := "written_return") (c.fact 82)) (c.def_ 82)
  f_written_refusal := fs_of (He.glo_ok X G (x := "written_refusal") (c.fact 83)) (c.def_ 83)
  f_written_malformed := fs_of (He.glo_ok X G (x := "written_malformed") (c.fact 84)) (c.def_ 84)
  f_octet_at := fs_of (He.glo_ok X G (x := "octet_at") (c.fact 85)) (c.def_ 85)
  f_number_at := fs_of (He.glo_ok X G (x := "number_at") (c.fact 86)) (c.def_ 86)
  f_read_integer := fs_of (He.glo_ok X G (x := "read_integer") (c.fact 87)) (c.def_ 87)
  f_read_text := fs_of (He.glo_ok X G (x := "read_text") (c.fact 88)) (c.def_ 88)
  f_read_list := fs_of (He.glo_ok X G (x := "read_list") (c.fact 89)) (c.def_ 89)
  f_read_record := fs_of (He.glo_ok X G (x := "read_record") (c.fact 90)) (c.def_ 90)
  f_read_value := fs_of (He.glo_ok X G (x := "read_value") (c.fact 91)) (c.def_ 91)
  f_is_digits := fs_of (He.glo_ok X G (x := "is_digits") (c.fact 92)) (c.def_ 92)
  f_size_of := fs_of (He.glo_ok X G (x := "size_of") (c.fact 93)) (c.def_ 93)
  f_size_of_record := fs_of (He.glo_ok X G (x := "size_of_record") (c.fact 94)) (c.def_ 94)
  f_check_limits := fs_of (He.glo_ok X G (x := "check_limits") (c.fact 95)) (c.def_ 95)
  f_read_request := fs_of (He.glo_ok X G (x := "read_request") (c.fact 96)) (c.def_ 96)
  f_call_volume := fs_of (He.glo_ok X G (x := "call_volume") (c.fact 97)) (c.def_ 97)
  f_slot_number := fs_of (He.glo_ok X G (x := "slot_number") (c.fact 98)) (c.def_ 98)
  f_volume_in := fs_of (He.glo_ok X G (x := "volume_in") (c.fact 99)) (c.def_ 99)
  f_recovery_in := fs_of (He.glo_ok X G (x := "recovery_in") (c.fact 100)) (c.def_ 100)
  f_call_create := fs_of (He.glo_ok X G (x := "call_create") (c.fact 101)) (c.def_ 101)
  f_call_recover := fs_of (He.glo_ok X G (x := "call_recover") (c.fact 102)) (c.def_ 102)
  f_call_door := fs_of (He.glo_ok X G (x := "call_door") (c.fact 103)) (c.def_ 103)
  f_answer_of := fs_of (He.glo_ok X G (x := "answer_of") (c.fact 104)) (c.def_ 104)
  f_answers := fs_of (He.glo_ok X G (x := "answers") (c.fact 105)) (c.def_ 105)
  m_Node_lose := ms_of (He.meth_ok (x := "Node") (m := "lose") (c.fact 118)) (c.def_ 106)
  m_Node_close_out := ms_of (He.meth_ok (x := "Node") (m := "close_out") (c.fact 119)) (c.def_ 107)
  m_Node_begin := ms_of (He.meth_ok (x := "Node") (m := "begin") (c.fact 120)) (c.def_ 108)
  m_Node_keep := ms_of (He.meth_ok (x := "Node") (m := "keep") (c.fact 121)) (c.def_ 109)
  m_Node_renew := ms_of (He.meth_ok (x := "Node") (m := "renew") (c.fact 122)) (c.def_ 110)
  m_Node_leave := ms_of (He.meth_ok (x := "Node") (m := "leave") (c.fact 123)) (c.def_ 111)
  m_Node_arrive := ms_of (He.meth_ok (x := "Node") (m := "arrive") (c.fact 124)) (c.def_ 112)
  m_Node_empty := ms_of (He.meth_ok (x := "Node") (m := "empty") (c.fact 125)) (c.def_ 113)
  m_Node_remember := ms_of (He.meth_ok (x := "Node") (m := "remember") (c.fact 126)) (c.def_ 114)
  m_Node_told_replayed := ms_of (He.meth_ok (x := "Node") (m := "told_replayed") (c.fact 127)) (c.def_ 115)
  m_Node_told_freed := ms_of (He.meth_ok (x := "Node") (m := "told_freed") (c.fact 128)) (c.def_ 116)
  m_Volume_node_at := ms_of (He.meth_ok (x := "Volume") (m := "node_at") (c.fact 129)) (c.def_ 117)
  m_Volume_give_lock := ms_of (He.meth_ok (x := "Volume") (m := "give_lock") (c.fact 130)) (c.def_ 118)
  m_Volume_drop_lock := ms_of (He.meth_ok (x := "Volume") (m := "drop_lock") (c.fact 131)) (c.def_ 119)
  m_Volume_drop_locks := ms_of (He.meth_ok (x := "Volume") (m := "drop_locks") (c.fact 132)) (c.def_ 120)
  m_Volume_put := ms_of (He.meth_ok (x := "Volume") (m := "put") (c.fact 133)) (c.def_ 121)
  m_Volume_start_write := ms_of (He.meth_ok (x := "Volume") (m := "start_write") (c.fact 134)) (c.def_ 122)
  m_Volume_start_transaction := ms_of (He.meth_ok (x := "Volume") (m := "start_transaction") (c.fact 135)) (c.def_ 123)
  m_Volume_settle := ms_of (He.meth_ok (x := "Volume") (m := "settle") (c.fact 136)) (c.def_ 124)
  m_Volume_end_write := ms_of (He.meth_ok (x := "Volume") (m := "end_write") (c.fact 137)) (c.def_ 125)
  m_Volume_lose_writes := ms_of (He.meth_ok (x := "Volume") (m := "lose_writes") (c.fact 138)) (c.def_ 126)
  m_Recovery_end := ms_of (He.meth_ok (x := "Recovery") (m := "end") (c.fact 139)) (c.def_ 127)
  m_Shelf_fill_volume := ms_of (He.meth_ok (x := "Shelf") (m := "fill_volume") (c.fact 140)) (c.def_ 128)
  m_Shelf_fill_recovery := ms_of (He.meth_ok (x := "Shelf") (m := "fill_recovery") (c.fact 141)) (c.def_ 129)
  i_Node := mks_of (He.glo_ok X G (x := "Node") (c.fact 106)) (He.mkr_ok (x := "Node") (c.fact 108)) (c.def_ 130)
  i_Volume := mks_of (He.glo_ok X G (x := "Volume") (c.fact 109)) (He.mkr_ok (x := "Volume") (c.fact 111)) (c.def_ 131)
  i_Recovery := mks_of (He.glo_ok X G (x := "Recovery") (c.fact 112)) (He.mkr_ok (x := "Recovery") (c.fact 114)) (c.def_ 132)
  i_Shelf := mks_of (He.glo_ok X G (x := "Shelf") (c.fact 115)) (He.mkr_ok (x := "Shelf") (c.fact 117)) (c.def_ 133)
end
end Ov
set_option maxHeartbeats 4000000
/-! N3: all together. -/
namespace Ov
open PySem PySem.Spec PyProof.Rows L2
theorem chain {P : Program} {w : World} {K : PySem.W.Frag} {mg : Str → Option Value} {base : Heap} {f : Addr} {fd : FuncData} (A : AllF K mg) (F : FnP K "answers" "answers" s_answers f fd) : FnOk P w K mg base CX0 70 f fd ["calls"] (Sp1 (fAnswers K)) := by
  have D_nothing := d_nothing (P := P) (w := w) (base := base) A.T.toTxt A.f_nothing
  have D_null := d_null (P := P) (w := w) (base := base) A.T.toTxt A.f_null
  have D_boolean := d_boolean (P := P) (w := w) (base := base) A.T.toTxt A.f_boolean
  have D_integer := d_integer (P := P) (w := w) (base := base) A.T.toTxt A.f_integer
  have D_octets_of := d_octets_of (P := P) (w := w) (base := base) A.T.toTxt A.f_octets_of
  have D_text := d_text (P := P) (w := w) (base := base) A.T.toTxt D_octets_of A.f_text
  have D_listing := d_listing (P := P) (w := w) (base := base) A.T.toTxt A.f_listing
  have D_integers := d_integers (P := P) (w := w) (base := base) A.T.toTxt D_integer A.f_integers
  have D_record := d_record (P := P) (w := w) (base := base) A.T.toTxt D_octets_of A.f_record
  have D_is_boolean := d_is_boolean (P := P) (w := w) (base := base) A.T.toTxt A.f_is_boolean
  have D_is_integer := d_is_integer (P := P) (w := w) (base := base) A.T.toTxt A.f_is_integer
  have D_member := d_member (P := P) (w := w) (base := base) A.T.toTxt D_octets_of D_nothing A.f_member
  have D_entry_octets := d_entry_octets (P := P) (w := w) (base := base) A.T.toTxt A.f_entry_octets
  have D_change_at := d_change_at (P := P) (w := w) (base := base) A.T.toTxt A.f_change_at
  have D_entry_size := d_entry_size (P := P) (w := w) (base := base) A.T.toTxt A.f_entry_size
  have D_entry_at := d_entry_at (P := P) (w := w) (base := base) A.T.toTxt D_change_at A.f_entry_at
  have D_read_entries := d_read_entries (P := P) (w := w) (base := base) A.T.toTxt D_entry_size D_entry_at A.f_read_entries
  have D_read_changes := d_read_changes (P := P) (w := w) (base := base) A.T.toTxt D_read_entries A.f_read_changes
  have D_change_record := d_change_record (P := P) (w := w) (base := base) A.T.toTxt D_integer D_record A.f_change_record
  have D_change_records := d_change_records (P := P) (w := w) (base := base) A.T.toTxt D_change_record D_listing A.f_change_records
  have D_Node_lose := d_Node_lose (P := P) (w := w) (base := base) A.T.toTxt A.m_Node_lose
  have D_Node_close_out := d_Node_close_out (P := P) (w := w) (base := base) A.T.toTxt D_Node_lose A.m_Node_close_out
  have D_Node_begin := d_Node_begin (P := P) (w := w) (base := base) A.T.toTxt A.m_Node_begin
  have D_Node_keep := d_Node_keep (P := P) (w := w) (base := base) A.T.toTxt A.m_Node_keep
  have D_Node_renew := d_Node_renew (P := P) (w := w) (base := base) A.T.toTxt A.m_Node_renew
  have D_Node_leave := d_Node_leave (P := P) (w := w) (base := base) A.T.toTxt A.m_Node_leave
  have D_Node_arrive := d_Node_arrive (P := P) (w := w) (base := base) A.T.toTxt A.m_Node_arrive
  have D_Node_empty := d_Node_empty (P := P) (w := w) (base := base) A.T.toTxt A.m_Node_empty
  have D_Node_remember := d_Node_remember (P := P) (w := w) (base := base) A.T.toTxt A.m_Node_remember
  have D_Node_told_replayed := d_Node_told_replayed (P := P) (w := w) (base := base) A.T.toTxt A.m_Node_told_replayed
  have D_Node_told_freed := d_Node_told_freed (P := P) (w := w) (base := base) A.T.toTxt A.m_Node_told_freed
  have D_Volume_node_at := d_Volume_node_at (P := P) (w := w) (base := base) A.T.toTxt A.m_Volume_node_at
  have D_Volume_give_lock := d_Volume_give_lock (P := P) (w := w) (base := base) A.T.toTxt A.m_Volume_give_lock
  have D_Volume_drop_lock := d_Volume_drop_lock (P := P) (w := w) (base := base) A.T.toTxt A.m_Volume_drop_lock
  have D_Volume_drop_locks := d_Volume_drop_locks (P := P) (w := w) (base := base) A.T.toTxt A.m_Volume_drop_locks
  have D_Volume_put := d_Volume_put (P := P) (w := w) (base := base) A.T.toTxt A.m_Volume_put
  have D_Volume_start_write := d_Volume_start_write (P := P) (w := w) (base := base) A.T.toTxt A.m_Volume_start_write
  have D_Volume_start_transaction := d_Volume_start_transaction (P := P) (w := w) (base := base) A.T.toTxt D_Volume_start_write A.m_Volume_start_transaction
  have D_Volume_settle := d_Volume_settle (P := P) (w := w) (base := base) A.T.toTxt A.m_Volume_settle
  have D_Volume_end_write := d_Volume_end_write (P := P) (w := w) (base := base) A.T.toTxt A.m_Volume_end_write
  have D_Volume_lose_writes := d_Volume_lose_writes (P := P) (w := w) (base := base) A.T.toTxt A.m_Volume_lose_writes
  have D_lock_of := d_lock_of (P := P) (w := w) (base := base) A.T.toTxt A.f_lock_of
  have D_cached := d_cached (P := P) (w := w) (base := base) A.T.toTxt D_Volume_node_at A.f_cached
  have D_entries_under_way := d_entries_under_way (P := P) (w := w) (base := base) A.T.toTxt A.f_entries_under_way
  have D_has_block := d_has_block (P := P) (w := w) (base := base) A.T.toTxt A.f_has_block
  have D_transaction_under_way := d_transaction_under_way (P := P) (w := w) (base := base) A.T.toTxt D_entries_under_way D_has_block A.f_transaction_under_way
  have D_change_under_way := d_change_under_way (P := P) (w := w) (base := base) A.T.toTxt D_has_block A.f_change_under_way
  have D_journal_need := d_journal_need (P := P) (w := w) (base := base) A.T.toTxt D_Volume_node_at D_entries_under_way D_entry_octets A.f_journal_need
  have D_is_lost := d_is_lost (P := P) (w := w) (base := base) A.T.toTxt D_Volume_node_at A.f_is_lost
  have D_node_number := d_node_number (P := P) (w := w) (base := base) A.T D_is_integer A.f_node_number
  have D_running_node := d_running_node (P := P) (w := w) (base := base) A.T D_Volume_node_at D_node_number A.f_running_node
  have D_block_number := d_block_number (P := P) (w := w) (base := base) A.T D_is_integer A.f_block_number
  have D_need_held := d_need_held (P := P) (w := w) (base := base) A.T D_lock_of A.f_need_held
  have D_need_alone := d_need_alone (P := P) (w := w) (base := base) A.T D_lock_of A.f_need_alone
  have D_need_still := d_need_still (P := P) (w := w) (base := base) A.T D_transaction_under_way A.f_need_still
  have D_need_room := d_need_room (P := P) (w := w) (base := base) A.T A.f_need_room
  have D_is_held_against := d_is_held_against (P := P) (w := w) (base := base) A.T A.f_is_held_against
  have D_lock_block := d_lock_block (P := P) (w := w) (base := base) A.T D_is_boolean D_running_node D_block_number D_lock_of D_is_held_against D_Volume_give_lock D_Volume_node_at D_Node_keep D_nothing A.f_lock_block
  have D_is_flushed := d_is_flushed (P := P) (w := w) (base := base) A.T D_change_under_way D_cached A.f_is_flushed
  have D_unlock_block := d_unlock_block (P := P) (w := w) (base := base) A.T D_running_node D_block_number D_need_held D_need_still D_is_flushed D_Volume_drop_lock D_Volume_node_at D_Node_leave D_nothing A.f_unlock_block
  have D_read_block := d_read_block (P := P) (w := w) (base := base) A.T D_running_node D_block_number D_need_held D_need_still D_cached D_integer A.f_read_block
  have D_is_pair := d_is_pair (P := P) (w := w) (base := base) A.T D_is_integer A.f_is_pair
  have D_are_pairs := d_are_pairs (P := P) (w := w) (base := base) A.T D_is_pair A.f_are_pairs
  have D_pairs_of := d_pairs_of (P := P) (w := w) (base := base) A.T D_are_pairs A.f_pairs_of
  have D_commit_pairs := d_commit_pairs (P := P) (w := w) (base := base) A.T D_running_node D_pairs_of D_need_alone D_cached D_need_room D_journal_need D_entry_octets D_Volume_node_at D_Node_renew D_Volume_start_transaction D_integer A.f_commit_pairs
  have D_flush_block := d_flush_block (P := P) (w := w) (base := base) A.T D_running_node D_block_number D_need_alone D_need_still D_change_under_way D_cached D_need_room D_Volume_start_write D_integer A.f_flush_block
  have D_is_needed := d_is_needed (P := P) (w := w) (base := base) A.T D_entries_under_way D_read_changes D_Volume_node_at A.f_is_needed
  have D_trim_journal := d_trim_journal (P := P) (w := w) (base := base) A.T D_running_node D_is_needed D_Volume_node_at D_Node_empty D_nothing A.f_trim_journal
  have D_write_of := d_write_of (P := P) (w := w) (base := base) A.T A.f_write_of
  have D_land_write := d_land_write (P := P) (w := w) (base := base) A.T D_write_of D_Volume_put D_Volume_end_write D_nothing D_entries_under_way D_Volume_node_at D_Node_arrive D_entry_octets D_Volume_settle D_integer A.f_land_write
  have D_crash_node := d_crash_node (P := P) (w := w) (base := base) A.T D_running_node D_Volume_node_at D_Node_lose D_nothing A.f_crash_node
  have D_torn_number := d_torn_number (P := P) (w := w) (base := base) A.T D_is_integer A.f_torn_number
  have D_tear := d_tear (P := P) (w := w) (base := base) A.T D_entry_octets D_Volume_node_at D_Node_arrive D_Volume_settle A.f_tear
  have D_shut_node := d_shut_node (P := P) (w := w) (base := base) A.T D_torn_number D_node_number D_Volume_node_at D_entries_under_way D_tear D_Volume_lose_writes D_Node_close_out D_nothing A.f_shut_node
  have D_index_of := d_index_of (P := P) (w := w) (base := base) A.T A.f_index_of
  have D_replay_change := d_replay_change (P := P) (w := w) (base := base) A.T D_Volume_put D_integer D_boolean D_record A.f_replay_change
  have D_replay_step := d_replay_step (P := P) (w := w) (base := base) A.T D_Volume_node_at D_is_lost D_read_changes D_index_of D_Node_remember D_Node_told_replayed D_null D_replay_change A.f_replay_step
  have D_replay_journal := d_replay_journal (P := P) (w := w) (base := base) A.T D_node_number D_replay_step A.f_replay_journal
  have D_free_step := d_free_step (P := P) (w := w) (base := base) A.T D_Volume_node_at D_is_lost D_Volume_drop_locks D_Node_told_freed D_nothing A.f_free_step
  have D_free_locks := d_free_locks (P := P) (w := w) (base := base) A.T D_node_number D_free_step A.f_free_locks
  have D_boot_node := d_boot_node (P := P) (w := w) (base := base) A.T D_node_number D_Volume_node_at D_Node_begin D_integer A.f_boot_node
  have D_Node_init := d_Node_init (P := P) (w := w) (base := base) A.T A.i_Node
  have D_Volume_init := d_Volume_init (P := P) (w := w) (base := base) A.T D_Node_init A.i_Volume
  have D_rules_of := d_rules_of (P := P) (w := w) (base := base) A.T D_member D_is_boolean A.f_rules_of
  have D_create_volume := d_create_volume (P := P) (w := w) (base := base) A.T D_is_integer D_rules_of D_Volume_init A.f_create_volume
  have D_are_octets := d_are_octets (P := P) (w := w) (base := base) A.T D_is_integer A.f_are_octets
  have D_read_journal := d_read_journal (P := P) (w := w) (base := base) A.T D_is_integer D_are_octets D_read_entries D_change_records D_listing A.f_read_journal
  have D_journal_of := d_journal_of (P := P) (w := w) (base := base) A.T D_node_number D_Volume_node_at D_integers A.f_journal_of
  have D_state_record := d_state_record (P := P) (w := w) (base := base) A.T D_integer D_record A.f_state_record
  have D_last_of := d_last_of (P := P) (w := w) (base := base) A.T D_block_number D_state_record A.f_last_of
  have D_lock_record := d_lock_record (P := P) (w := w) (base := base) A.T D_integer D_boolean D_record A.f_lock_record
  have D_memory_record := d_memory_record (P := P) (w := w) (base := base) A.T D_null D_integer D_record A.f_memory_record
  have D_node_record := d_node_record (P := P) (w := w) (base := base) A.T D_boolean D_integer D_change_records D_memory_record D_record A.f_node_record
  have D_write_record := d_write_record (P := P) (w := w) (base := base) A.T D_integer D_text D_null D_change_records D_record A.f_write_record
  have D_state_of := d_state_of (P := P) (w := w) (base := base) A.T D_state_record D_lock_record D_node_record D_write_record D_listing D_integers D_record A.f_state_of
  have HD_nothing := h_nothing (P := P) (w := w) (base := base) A.T A.f_nothing
  have HD_boolean := h_boolean (P := P) (w := w) (base := base) A.T A.f_boolean
  have HD_octets_of := h_octets_of (P := P) (w := w) (base := base) A.T A.f_octets_of
  have HD_record := h_record (P := P) (w := w) (base := base) A.T HD_octets_of A.f_record
  have D_told := d_told (P := P) (w := w) (base := base) A.T D_boolean D_record A.f_told
  have HD_told := h_told (P := P) (w := w) (base := base) A.T HD_boolean HD_record A.f_told
  have D_Recovery_init := d_Recovery_init (P := P) (w := w) (base := base) A.T A.i_Recovery
  have D_Recovery_end := d_Recovery_end (P := P) (w := w) (base := base) A.T A.m_Recovery_end
  have HD_Recovery_end := h_Recovery_end (P := P) (w := w) (base := base) A.T A.m_Recovery_end
  have D_new_recovery := d_new_recovery (P := P) (w := w) (base := base) A.T D_node_number D_Recovery_init A.f_new_recovery
  have D_free_if_not_refused := d_free_if_not_refused (P := P) (w := w) (base := base) A.T D_free_step A.f_free_if_not_refused
  have D_next_of_recovery := d_next_of_recovery (P := P) (w := w) (base := base) A.T D_told D_nothing D_replay_step HD_Recovery_end HD_told HD_nothing D_free_if_not_refused D_Recovery_end A.f_next_of_recovery
  have D_close_of_recovery := d_close_of_recovery (P := P) (w := w) (base := base) A.T D_told D_Recovery_end A.f_close_of_recovery
  have D_low_octets := d_low_octets (P := P) (w := w) (base := base) A.T A.f_low_octets
  have HD_low_octets := h_low_octets (P := P) (w := w) (base := base) A.T A.f_low_octets
  have D_written_text := d_written_text (P := P) (w := w) (base := base) A.T D_low_octets A.f_written_text
  have HD_written_text := h_written_text (P := P) (w := w) (base := base) A.T HD_low_octets A.f_written_text
  have WV := wv_all (P := P) (w := w) (base := base) A.T D_low_octets D_written_text A.f_written_value A.f_written_elements A.f_written_members
  have D_written_return := d_written_return (P := P) (w := w) (base := base) A.T (WV 32) A.f_written_return
  have HD_written_refusal := h_written_refusal (P := P) (w := w) (base := base) A.T HD_octets_of HD_written_text A.f_written_refusal
  have HD_written_malformed := h_written_malformed (P := P) (w := w) (base := base) A.T A.f_written_malformed
  have D_octet_at := d_octet_at (P := P) (w := w) (base := base) A.T A.f_octet_at
  have D_number_at := d_number_at (P := P) (w := w) (base := base) A.T A.f_number_at
  have D_read_integer := d_read_integer (P := P) (w := w) (base := base) A.T D_number_at A.f_read_integer
  have D_read_text := d_read_text (P := P) (w := w) (base := base) A.T D_number_at A.f_read_text
  have RV := rv_all (P := P) (w := w) (base := base) A.T A.f_octet_at A.f_number_at A.f_read_integer A.f_read_text A.f_read_list A.f_read_record A.f_read_value
  have D_is_digits := d_is_digits (P := P) (w := w) (base := base) A.T A.f_is_digits
  have SZ := sz_all (P := P) (w := w) (base := base) A.T A.f_is_digits A.f_size_of_record A.f_size_of
  have D_check_limits := d_check_limits (P := P) (w := w) (base := base) A.T (SZ 9) A.f_check_limits
  have D_read_request := d_read_request (P := P) (w := w) (base := base) A.T D_nothing D_octet_at D_number_at (RV 32) D_check_limits A.f_read_request
  have D_call_volume := d_call_volume (P := P) (w := w) (base := base) A.T A.f_call_volume D_lock_block D_unlock_block D_read_block D_commit_pairs D_flush_block D_trim_journal D_land_write D_crash_node D_shut_node D_replay_journal D_free_locks D_boot_node D_journal_of D_last_of D_state_of
  have D_slot_number := d_slot_number (P := P) (w := w) (base := base) A.T D_is_integer A.f_slot_number
  have D_volume_in := d_volume_in (P := P) (w := w) (base := base) A.T D_slot_number A.f_volume_in
  have D_recovery_in := d_recovery_in (P := P) (w := w) (base := base) A.T D_slot_number A.f_recovery_in
  have D_Shelf_init := d_Shelf_init (P := P) (w := w) (base := base) A.T A.i_Shelf
  have D_Shelf_fill_volume := d_Shelf_fill_volume (P := P) (w := w) (base := base) A.T A.m_Shelf_fill_volume
  have D_Shelf_fill_recovery := d_Shelf_fill_recovery (P := P) (w := w) (base := base) A.T A.m_Shelf_fill_recovery
  have D_call_create := d_call_create (P := P) (w := w) (base := base) A.T D_slot_number D_nothing D_create_volume D_Shelf_fill_volume A.f_call_create
  have D_call_recover := d_call_recover (P := P) (w := w) (base := base) A.T D_slot_number D_volume_in D_nothing D_new_recovery D_Shelf_fill_recovery A.f_call_recover
  have D_call_door := d_call_door (P := P) (w := w) (base := base) A.T D_read_journal D_call_create D_volume_in D_recovery_in D_call_volume D_call_recover D_next_of_recovery D_close_of_recovery A.f_call_door
  have D_answer_of := d_answer_of (P := P) (w := w) (base := base) A.T D_read_request D_written_return D_call_door HD_written_malformed HD_written_refusal A.f_answer_of
  exact k_answers A.T D_answer_of D_Shelf_init F
theorem answers_sp {K : PySem.W.Frag} {H : Hp} {xs : List V} {ns : List Int} (hz : ns.length ≤ 61000) (h : PyZr66.answers_asked ns = true) (hx : DwAll K H xs [.list (ns.map PySem.W.WData.int)]) :
    Sp1 (fAnswers K) xs H (fun v H' => Dw K H' v (.list ((PyZr66.answers ns).map PySem.W.WData.int))) fun _ _ _ => False := by
  obtain ⟨bs, os, e1, e2, z, g⟩ := law_plain h
  cases hx with
  | cons h1 h2 =>
    cases h2
    cases h1 with
    | lst hs ha =>
      have ey := ints_dw _ _ ha
      subst ey
      rw [e1] at hs
      refine ⟨_, rfl, _, bs, os, rfl, hs, ?_, z, g, fun H' D hD => ?_⟩
      · rw [← e1, List.length_map]
        omega
      · rw [← e2] at hD
        exact .lst (SqL.of hD) (dw_ints _)
theorem len_of {a : PySem.W.Codec.denoteAll RR.args} (h : PySem.W.Codec.withinAll RR.args a = true) : List.length (α := Int) a.1 ≤ 61000 := by
  have h1 := (Bool.and_eq_true .. ▸ (show (PySem.W.Codec.within (.list 0 61000 (.int 0 65535)) a.1 && true) = true from h)).1
  have h2 : PySem.W.Codec.inNat 0 61000 (List.length (α := Int) a.1) = true := (Bool.and_eq_true .. ▸ (show (PySem.W.Codec.inLen (α := Int) 0 61000 a.1 && List.all (α := Int) a.1 (PySem.W.Codec.inInt 0 65535)) = true from h1)).1
  unfold PySem.W.Codec.inNat at h2
  rw [Bool.and_eq_true] at h2
  exact of_decide_eq_true h2.2
theorem call_hold : PySem.W.WalkOS (PySem.W.view RR.prog [143]) looseA (PySem.W.XL (PySem.W.view RR.prog [143]) []) hkM.says RR (HandSHeadRun.topDef RR.prog 143) [] (fun f vs => PySem.call f vs) := by
  intro w s₀ s₁ mg mb G Y fa o pm cd doc dV kV ho hd hcd hD hmg hg args vals as hpre hlay hrd hwl hlo
  obtain ⟨a, e1, e2⟩ := PySem.W.os_pre_some hpre
  obtain ⟨e3, hwi⟩ := PySem.W.Codec.encAll_of_decAll RR.args args a e1
  subst e3
  obtain ⟨K, KX, c⟩ := Y
  have A := all_facts KX G.T.g c
  obtain ⟨f, fd, F, g⟩ := A.f_answers
  have hmg2 : mg "answers" = some (.ref fa) := hmg
  have ef : f = fa := by
    rw [g] at hmg2
    cases hmg2
    rfl
  subst ef
  have hw1 := well
  refine PySem.W.enter_call (codeAny_mono (spec_call (K := K) (CX := CX0) (k := 70) (fd := fd) (ps := ["calls"]) (sp := Sp1 (fAnswers K)) (R := []) (cl := classAt s₀.heap) (d0 := RR.ret.enc (PySem.W.Codec.app RR.args RR.f a)) KX G.T.g G.T.b G.T.builtins G.T.nolimit hg hwl (pl_encAll _ _) (layable_weight hlay) ⟨rfl, by decide, by decide⟩
    (fun base _ _ => chain A F) (F.bindsA bd_answers) (by rw [encAll_len]; rfl)
    (fun H xs hO hS => answers_sp (ns := a.1) ?hz e2 hS) fun H e s' z => z) fun r' s' hq => ?_)
  · exact len_of hwi
  · obtain ⟨u, as', rfl, h1, h2, h3, h4⟩ := hq
    exact ⟨.inl ⟨u, _, as', rfl, fun _ => rfl, h1, (PySem.W.OpenSpec.post_iff hw1 hwi _ _).mpr rfl, fun z => Bool.noConfusion (show false = true from z)⟩, h2, h3, h4⟩
end Ov
set_option maxHeartbeats 4000000
/-! N4: the statement. -/
open PySem PySem.W PySem.Calls PyProof.Rows
theorem PySem.Challenge.cw_onevolume_s01_answers_holds : PySem.Challenge.rw_onevolume_s01_answers.Holds := by
  exact HandSHeadRun.head_spec (r := Ov.RR) (q := Ov.viewM) (H := Ov.hkM) (ob := Ov.obM) (M := 20000) (loose := Ov.looseA) (d := Ov.dM) (kwd := []) Ov.obM_eq Ov.h_open Ov.h_fence Ov.run Ov.h_def Ov.h_the Ov.h_kw os_shapes Ov.well Ov.h_both Ov.h_bare Ov.h_wit Ov.call_hold
